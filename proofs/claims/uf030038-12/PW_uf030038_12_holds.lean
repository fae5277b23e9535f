import PyProof.Rows.All
import Wide.All
import OpenK.AllK
import PySem.Challenge.RW_uf030038_12
set_option Elab.async false
open List (map_cons length_map map_map length_append map_append length_singleton take_of_length_le length_cons nil_append append_assoc mem_map_of_mem append_nil mem_append_right filter_map reverse_cons map_id getElem_map)
open PySem.Str (ofString)
open PySem.Challenge (pw_uf030038_12)
set_option genInjectivity false
set_option tactic.hygienic false
set_option genSizeOf false
set_option autoImplicit false
namespace Mine.Internal
open PySem PySem.W PySem.Calls PyProof.Rows
section
variable {tb:String->Option Builtin} {p:Program} {w:World} {n₀:Nat} {ann:Option Value}
theorem Z2G{t:Thread}{f:Flow}(h:endAt 0 t=some f):through t=true:=by
 obtain⟨cur,code,pos,st⟩:=t
 cases st with
 | cons a b=>simp[endAt]at h
 | nil=>
  cases cur with
  | pure x=>cases x with
   | done g=>rfl
   | again c=>simp[endAt]at h
  | _=>simp[endAt]at h
theorem Z2h{t:Thread}(h:endAt 0 t=none):through t=false:=by
 obtain⟨cur,code,pos,st⟩:=t
 cases st with
 | cons a b=>rfl
 | nil=>
  cases cur with
  | pure x=>cases x with
   | done g=>simp[endAt]at h
   | again c=>rfl
  | _=>rfl
theorem Z1w:∀{n:Nat} {s s':Shared} {t:Thread} {f:Flow} {c:Code} {q:Pos},segRun tb p w n₀ ann 0 n s t=some (f,s',c,q)->topRun tb p w n₀ ann n s t=some s'
 | 0,_,_,_,_,_,_,h=>by cases h
 | n+1,s,s',t,f,c,q,h=>by
  unfold segRun at h;unfold topRun
  cases he:endAt 0 t with
  | some x=>rw[he]at h;cases h;rw[Z2G he]
  | none=>
   rw[he]at h;rw[Z2h he]
   cases hk:stepOk n₀ ann t with
   | false=>rw[hk]at h;cases h
   | true=>
    rw[hk]at h
    cases hs:step (denote tb) p w s t with
    | halt o s₂=>rw[hs]at h;cases h
    | go s₂ t₂=>rw[hs]at h;exact Z1w h
end
noncomputable def Z1K{α:Type}(p q:Program)(loose:List Str)(Xt:Shared->Bool)(Yf:Shared->α)(g0:Bool)(H₀:Heap)(s:Shared):=
 ((staticsOk (importedModules p.main.body) H₀ s.heap&&namesBound p s.heap&&gensDone s&&laidKept H₀ s.heap),openSeen q loose (importedModules p.main.body) Xt g0 s,Yf s)
theorem Z3L{p q:Program}{loose:List Str}{Xt:Shared->Bool}{α:Type}{Yf:Shared->α}{Ya:World->α}{N:Nat}{g0:Bool}{T₀:Params->BT}{n₀:Nat}{life:Life}{ann:Option Value}{d₀:Drawn}{k₀:Nat}{M:Nat}{H₀:Params->Heap}(open_:∀w:World,(fencedOpening treeTable p w N).map (fun s=>(s.heap,s.gens,s.drawn,s.toks))=some (H₀ w.params,Array.mk [],d₀,k₀))(tree:∀P,absHeap (T₀ P) n₀ life=H₀ P)(size:∀w:World,((H₀ w.params).isNs mainGlobals,(H₀ w.params).nsMap mainGlobals "__annotations__")=(true,ann))(le:Nat.ble M N=true)(run:∀w:World,(fun os=>(segRunT treeTable p w n₀ ann 0 M ⟨T₀ w.params,n₀,life,Array.mk [],d₀,k₀,os⟩ (topStub p)).map fun r=>Z1K p q loose Xt Yf g0 (H₀ w.params) r.2.1.abs)=fun z=>some (true,openGood q loose,Ya w)) :
  LeftO p q loose Xt Yf Ya N g0:=fun w=>by
 obtain⟨⟨h,gs,d,k,os⟩,e,e'⟩:=Option.map_eq_some_iff.mp (open_ w);obtain⟨rfl,rfl,rfl,rfl⟩:h=H₀ w.params/\gs=Array.mk []/\d=d₀/\k=k₀:=by simpa using e'
 obtain⟨z1,z3⟩:_/\_:=by simpa only[Prod.mk.injEq] using size w
 obtain⟨⟨f,sT,c,pos⟩,r1,r2⟩:=Option.map_eq_some_iff.mp (congrFun (run w) os);obtain⟨l1,l2,l3⟩:_/\_/\_:=by simpa only[Z1K,Prod.mk.injEq] using r2
 have r0:=Z1w (segRun_of r1);have r:=topRun_mono (N-M) _ _ _ _ r0;rw[show M+(N-M)=N by have:=Nat.le_of_ble_eq_true le;omega]at r;have hz:(H₀ w.params).objs.size=n₀:=by rw[<-tree,absHeap_size]
 have ea:(SharedT.mk (T₀ w.params) n₀ life (Array.mk []) d k os).abs=⟨H₀ w.params,Array.mk [],d,k,os⟩:=by
  show Shared.mk (absHeap (T₀ w.params) n₀ life) _ _ _ _=_;rw[tree]
 rw[ea]at r;have t:topFrom treeTable p w N ⟨H₀ w.params,Array.mk [],d,k,os⟩=some sT.abs:=by
  unfold topFrom;dsimp only;rw[z1,hz,z3,r];show(match staticsOk (importedModules p.main.body) (H₀ w.params) sT.abs.heap&&namesBound p sT.abs.heap&&gensDone sT.abs&&laidKept (H₀ w.params) sT.abs.heap with|true=>some sT.abs|false=>none)=_;rw[l1]
 unfold openEnds;rw[e];show(topFrom treeTable p w N _).map _=_;rw[t];exact congrArg some (Prod.ext l2 l3)
noncomputable def nth:List Stmt->Nat->Stmt
 | [],_=>.Pass ⟨0,0,0,0⟩
 | a::_,0=>a
 | _::l,n+1=>nth l n
noncomputable def Z6:Stmt->List Stmt
 | .ClassDef _ _ _ b _ _ _ _ _ _ _=>b
 | _=>[]
noncomputable def fnO(s:Stmt)(q:Str)(m:Value)(c:Addr):Obj:=match s with
 | .FunctionDef n a b _ _ _ sc _ _ _=>⟨.type "function",none,.func { name:=n,qualname:=q,params:=a,body:=.stmts b,scope:=sc,globals:=3,closure:=[],defaults:=.none,kwdefaults:=.none,pyModule:=m,code:=.ref c },#[]⟩
 | _=>default
noncomputable def Z6Q:Stmt->DefRec
 | .FunctionDef n a b _ _ _ sc _ _ pos=>⟨n,a,b,sc,pos⟩
 | _=>⟨Str.empty,⟨[],[],none,[],[],none,[]⟩,[],⟨.module,[],false,false,[]⟩,⟨0,0,0,0⟩⟩
abbrev sv(s:String)(t:Nat):Value:=.str (ofString s) t
abbrev rv(a:Nat):Value:=.ref a
abbrev nv(i:Int)(t:Nat):Value:=.int i t
abbrev de(P:Params)(s:String)(t:Nat)(v:Value):DictEntry:=⟨PyData.keyHash P (ofString s),.str (ofString s) t,v⟩
abbrev ZM(es:List DictEntry)(n:Nat):Obj:=⟨.type "dict",none,.dict es.toArray n,#[]⟩
abbrev Z1(vs:List Value):Obj:=⟨.type "code",none,.fields vs.toArray,#[]⟩
noncomputable def mkT(l:List Obj):BT:=(l.foldl (fun(t,i) o=>(BT.ins t i o,i+1)) (BT.nil,0)).1
noncomputable def T0(P:Params):BT:=mkT (boot_heap P).objs.toList
theorem Z6R(P:Params):absHeap (T0 P) 11 {}=boot_heap P:=by kernel_rfl
theorem Z4O:∀w:World,((boot_heap w.params).isNs mainGlobals,(boot_heap w.params).nsMap mainGlobals "__annotations__")=(true,some (.ref 6)):=fun w=>by kernel_rfl
set_option maxRecDepth 1000000
set_option maxHeartbeats 0
noncomputable def Z7p:List Nat:=[0,2,3,4,5,6,7,9,10,11,12,13,15,16,17,18,19,20,21,22,23,25,27,28,30,31,32,33,34,35,36,37,38,39,40,41,42,43]
noncomputable def KL:Params->Frag:=fun P=>
 (nat_lit 2,⟨.none,none,.dict [].toArray 0,#[]⟩) ::
 (nat_lit 3,(ZM [de P "__name__" 165 (sv "law_uf030038_12" 618),de P "__doc__" 166 .none,de P "__package__" 167 .none,de P "__loader__" 168 (.builtin "__main__.__loader__#opaque"),de P "__spec__" 169 .none,de P "__annotations__" 170 (rv 6),de P "__builtins__" 171 (rv 4),de P "__file__" 173 (sv "/claim/cut.py" 172),de P "__cached__" 174 .none,de P "_wall" 193 (rv 21),de P "LoomError" 213 (rv 31),de P "NoWord" 229 (rv 44),de P "NoHandler" 245 (rv 56),de P "Twice" 261 (rv 68),de P "Stranger" 277 (rv 80),de P "NoCount" 293 (rv 92),de P "SIGNS" 297 (sv "abcdefghijklmnopqrstuvwxyz" 296),de P "MOST_SIGNS" 299 (nv (12) 298),de P "is_whole" 306 (rv 101),de P "is_word" 312 (rv 106),de P "need_word" 319 (rv 113),de P "MOST_HANDLERS" 323 (nv (40) 322),de P "MOST_DEEDS" 325 (nv (30) 324),de P "MOST_TICKS" 327 (nv (1000000000) 326),de P "WITH_A_WORD" 333 (rv 114),de P "is_deed" 340 (rv 121),de P "is_handler" 346 (rv 126),de P "need_handlers" 358 (rv 133),de P "need_names" 364 (rv 138),de P "hearers" 370 (rv 143),de P "Waits" 438 (rv 191),de P "Frame" 472 (rv 212),de P "Loom" 617 (rv 322),de P "_law_told_at" 627 (rv 333),de P "_law_mixed" 637 (rv 340),de P "_law_word_by" 643 (rv 345),de P "_law_name_by" 654 (rv 352),de P "_law_deed_by" 668 (rv 359),de P "_law_handlers_by" 674 (rv 364),de P "_law_come" 682 (rv 371),de P "_law_made" 694 (rv 378),de P "_law_begin" 700 (rv 383),de P "_law_deed" 706 (rv 388),de P "_law_inner" 716 (rv 395),de P "_law_step" 725 (rv 402),de P "_law_kinds" 731 (rv 407),de P "law" 737 (rv 412)] 47)) ::
 (nat_lit 20,(Z1 [(sv "_wall" 187),(sv "_wall" 188),(sv "/claim/cut.py" 189),(nv (1) 0),(nv (1) 0),(nv (0) 0),(nv (0) 0),(nv (3) 0),(rv 15),(.bool true),(nv (181) 0),(rv 16),.none,(rv 17),(rv 18),(rv 19),(nv (191) 0),(nv (1) 0),(sv "/claim/cut.py" 192)])) ::
 (nat_lit 21,(fnO (nth pw_uf030038_12.main.body 0) (ofString "_wall") (sv "__main__" 164) 20)) ::
 (nat_lit 30,(ZM [de P "__module__" 203 (sv "eventloom.errors" 194),de P "__firstlineno__" 207 (nv (5) 206),de P "__static_attributes__" 208 (rv 29),de P "__weakref__" 210 (rv 32),de P "__doc__" 211 .none] 3)) ::
 (nat_lit 31,⟨.type "type",none,.cls { name:=ofString "LoomError",bases:=[(.type "ValueError")],mro:=[(rv 31),(.type "ValueError"),(.type "Exception"),(.type "BaseException"),(.type "object")],ns:=30,qualname:=ofString "LoomError",hasDict:=true,slotNames:=[],subclasses:=[(rv 44),(rv 56),(rv 68),(rv 80),(rv 92)],abstract:=false,collection:=none,hasDel:=false },[some (rv 22),none,some (sv "LoomError" 196),some (sv "LoomError" 204),some (.builtin "ValueError.__new__"),some (.bool true)].toArray⟩) ::
 (nat_lit 32,⟨(.type "getset_descriptor"),none,.fields [(sv "__weakref__" 209),(rv 31),(.builtin "ExceptionGroup.__weakref__"),.none].toArray,#[]⟩) ::
 (nat_lit 43,(ZM [de P "__module__" 221 (sv "eventloom.errors" 194),de P "__firstlineno__" 225 (nv (7) 224),de P "__static_attributes__" 226 (rv 42),de P "__doc__" 227 .none] 2)) ::
 (nat_lit 44,⟨.type "type",none,.cls { name:=ofString "NoWord",bases:=[(rv 31)],mro:=[(rv 44),(rv 31),(.type "ValueError"),(.type "Exception"),(.type "BaseException"),(.type "object")],ns:=43,qualname:=ofString "NoWord",hasDict:=true,slotNames:=[],subclasses:=[],abstract:=false,collection:=none,hasDel:=false },[some (rv 35),none,some (sv "NoWord" 214),some (sv "NoWord" 222),some (.builtin "ValueError.__new__"),some (.bool true)].toArray⟩) ::
 (nat_lit 55,(ZM [de P "__module__" 237 (sv "eventloom.errors" 194),de P "__firstlineno__" 241 (nv (9) 240),de P "__static_attributes__" 242 (rv 54),de P "__doc__" 243 .none] 2)) ::
 (nat_lit 56,⟨.type "type",none,.cls { name:=ofString "NoHandler",bases:=[(rv 31)],mro:=[(rv 56),(rv 31),(.type "ValueError"),(.type "Exception"),(.type "BaseException"),(.type "object")],ns:=55,qualname:=ofString "NoHandler",hasDict:=true,slotNames:=[],subclasses:=[],abstract:=false,collection:=none,hasDel:=false },[some (rv 47),none,some (sv "NoHandler" 230),some (sv "NoHandler" 238),some (.builtin "ValueError.__new__"),some (.bool true)].toArray⟩) ::
 (nat_lit 67,(ZM [de P "__module__" 253 (sv "eventloom.errors" 194),de P "__firstlineno__" 257 (nv (11) 256),de P "__static_attributes__" 258 (rv 66),de P "__doc__" 259 .none] 2)) ::
 (nat_lit 68,⟨.type "type",none,.cls { name:=ofString "Twice",bases:=[(rv 31)],mro:=[(rv 68),(rv 31),(.type "ValueError"),(.type "Exception"),(.type "BaseException"),(.type "object")],ns:=67,qualname:=ofString "Twice",hasDict:=true,slotNames:=[],subclasses:=[],abstract:=false,collection:=none,hasDel:=false },[some (rv 59),none,some (sv "Twice" 246),some (sv "Twice" 254),some (.builtin "ValueError.__new__"),some (.bool true)].toArray⟩) ::
 (nat_lit 79,(ZM [de P "__module__" 269 (sv "eventloom.errors" 194),de P "__firstlineno__" 273 (nv (13) 272),de P "__static_attributes__" 274 (rv 78),de P "__doc__" 275 .none] 2)) ::
 (nat_lit 80,⟨.type "type",none,.cls { name:=ofString "Stranger",bases:=[(rv 31)],mro:=[(rv 80),(rv 31),(.type "ValueError"),(.type "Exception"),(.type "BaseException"),(.type "object")],ns:=79,qualname:=ofString "Stranger",hasDict:=true,slotNames:=[],subclasses:=[],abstract:=false,collection:=none,hasDel:=false },[some (rv 71),none,some (sv "Stranger" 262),some (sv "Stranger" 270),some (.builtin "ValueError.__new__"),some (.bool true)].toArray⟩) ::
 (nat_lit 91,(ZM [de P "__module__" 285 (sv "eventloom.errors" 194),de P "__firstlineno__" 289 (nv (15) 288),de P "__static_attributes__" 290 (rv 90),de P "__doc__" 291 .none] 2)) ::
 (nat_lit 92,⟨.type "type",none,.cls { name:=ofString "NoCount",bases:=[(rv 31)],mro:=[(rv 92),(rv 31),(.type "ValueError"),(.type "Exception"),(.type "BaseException"),(.type "object")],ns:=91,qualname:=ofString "NoCount",hasDict:=true,slotNames:=[],subclasses:=[],abstract:=false,collection:=none,hasDel:=false },[some (rv 83),none,some (sv "NoCount" 278),some (sv "NoCount" 286),some (.builtin "ValueError.__new__"),some (.bool true)].toArray⟩) ::
 (nat_lit 100,(Z1 [(sv "is_whole" 300),(sv "is_whole" 301),(sv "/claim/cut.py" 302),(nv (20) 0),(nv (1) 0),(nv (0) 0),(nv (0) 0),(nv (3) 0),(rv 95),(.bool true),(nv (181) 0),(rv 96),.none,(rv 97),(rv 98),(rv 99),(nv (304) 0),(nv (20) 0),(sv "/claim/cut.py" 305)])) ::
 (nat_lit 101,(fnO (nth pw_uf030038_12.main.body 11) (ofString "is_whole") (sv "eventloom.words" 294) 100)) ::
 (nat_lit 105,(Z1 [(sv "is_word" 307),(sv "is_word" 308),(sv "/claim/cut.py" 309),(nv (22) 0),(nv (1) 0),(nv (0) 0),(nv (0) 0),(nv (3) 0),(rv 102),(.bool true),(nv (181) 0),(rv 103),.none,.none,.none,(rv 104),(nv (310) 0),(nv (22) 0),(sv "/claim/cut.py" 311)])) ::
 (nat_lit 106,(fnO (nth pw_uf030038_12.main.body 12) (ofString "is_word") (sv "eventloom.words" 294) 105)) ::
 (nat_lit 112,(Z1 [(sv "need_word" 313),(sv "need_word" 314),(sv "/claim/cut.py" 315),(nv (26) 0),(nv (1) 0),(nv (0) 0),(nv (0) 0),(nv (3) 0),(rv 107),(.bool true),(nv (181) 0),(rv 108),.none,(rv 109),(rv 110),(rv 111),(nv (317) 0),(nv (26) 0),(sv "/claim/cut.py" 318)])) ::
 (nat_lit 113,(fnO (nth pw_uf030038_12.main.body 13) (ofString "need_word") (sv "eventloom.words" 294) 112)) ::
 (nat_lit 114,⟨(.type "tuple"),none,.seq [(sv "now" 328),(sv "soon" 329),(sv "cancel" 330),(sv "join" 331),(sv "leave" 332)].toArray 0,#[]⟩) ::
 (nat_lit 120,(Z1 [(sv "is_deed" 334),(sv "is_deed" 335),(sv "/claim/cut.py" 336),(nv (35) 0),(nv (1) 0),(nv (0) 0),(nv (0) 0),(nv (3) 0),(rv 115),(.bool true),(nv (181) 0),(rv 116),.none,(rv 117),(rv 118),(rv 119),(nv (338) 0),(nv (35) 0),(sv "/claim/cut.py" 339)])) ::
 (nat_lit 121,(fnO (nth pw_uf030038_12.main.body 19) (ofString "is_deed") (sv "eventloom.handlers" 320) 120)) ::
 (nat_lit 125,(Z1 [(sv "is_handler" 341),(sv "is_handler" 342),(sv "/claim/cut.py" 343),(nv (45) 0),(nv (1) 0),(nv (0) 0),(nv (0) 0),(nv (3) 0),(rv 122),(.bool true),(nv (181) 0),(rv 123),.none,.none,.none,(rv 124),(nv (344) 0),(nv (45) 0),(sv "/claim/cut.py" 345)])) ::
 (nat_lit 126,(fnO (nth pw_uf030038_12.main.body 20) (ofString "is_handler") (sv "eventloom.handlers" 320) 125)) ::
 (nat_lit 132,(Z1 [(sv "need_handlers" 347),(sv "need_handlers" 348),(sv "/claim/cut.py" 349),(nv (55) 0),(nv (1) 0),(nv (0) 0),(nv (0) 0),(nv (3) 0),(rv 127),(.bool true),(nv (181) 0),(rv 128),.none,(rv 129),(rv 130),(rv 131),(nv (356) 0),(nv (55) 0),(sv "/claim/cut.py" 357)])) ::
 (nat_lit 133,(fnO (nth pw_uf030038_12.main.body 21) (ofString "need_handlers") (sv "eventloom.handlers" 320) 132)) ::
 (nat_lit 137,(Z1 [(sv "need_names" 359),(sv "need_names" 360),(sv "/claim/cut.py" 361),(nv (70) 0),(nv (2) 0),(nv (0) 0),(nv (0) 0),(nv (3) 0),(rv 134),(.bool true),(nv (181) 0),(rv 135),.none,.none,.none,(rv 136),(nv (362) 0),(nv (70) 0),(sv "/claim/cut.py" 363)])) ::
 (nat_lit 138,(fnO (nth pw_uf030038_12.main.body 22) (ofString "need_names") (sv "eventloom.handlers" 320) 137)) ::
 (nat_lit 142,(Z1 [(sv "hearers" 365),(sv "hearers" 366),(sv "/claim/cut.py" 367),(nv (80) 0),(nv (3) 0),(nv (0) 0),(nv (0) 0),(nv (3) 0),(rv 139),(.bool true),(nv (181) 0),(rv 140),.none,.none,.none,(rv 141),(nv (368) 0),(nv (80) 0),(sv "/claim/cut.py" 369)])) ::
 (nat_lit 143,(fnO (nth pw_uf030038_12.main.body 23) (ofString "hearers") (sv "eventloom.handlers" 320) 142)) ::
 (nat_lit 156,(Z1 [(sv "__init__" 385),(sv "Waits.__init__" 386),(sv "/claim/cut.py" 387),(nv (89) 0),(nv (1) 0),(nv (0) 0),(nv (0) 0),(nv (3) 0),(rv 151),(.bool true),(nv (181) 0),(rv 152),.none,(rv 153),(rv 154),(rv 155),(nv (389) 0),(nv (89) 0),(sv "/claim/cut.py" 390)])) ::
 (nat_lit 157,(fnO (nth (Z6 (nth pw_uf030038_12.main.body 25)) 0) (ofString "Waits.__init__") (sv "eventloom.waits" 371) 156)) ::
 (nat_lit 163,(Z1 [(sv "sooner" 392),(sv "Waits.sooner" 393),(sv "/claim/cut.py" 394),(nv (93) 0),(nv (2) 0),(nv (0) 0),(nv (0) 0),(nv (3) 0),(rv 158),(.bool true),(nv (181) 0),(rv 159),.none,(rv 160),(rv 161),(rv 162),(nv (397) 0),(nv (93) 0),(sv "/claim/cut.py" 398)])) ::
 (nat_lit 164,(fnO (nth (Z6 (nth pw_uf030038_12.main.body 25)) 1) (ofString "Waits.sooner") (sv "eventloom.waits" 371) 163)) ::
 (nat_lit 170,(Z1 [(sv "later" 400),(sv "Waits.later" 401),(sv "/claim/cut.py" 402),(nv (96) 0),(nv (3) 0),(nv (0) 0),(nv (0) 0),(nv (3) 0),(rv 165),(.bool true),(nv (181) 0),(rv 166),.none,(rv 167),(rv 168),(rv 169),(nv (406) 0),(nv (96) 0),(sv "/claim/cut.py" 407)])) ::
 (nat_lit 171,(fnO (nth (Z6 (nth pw_uf030038_12.main.body 25)) 2) (ofString "Waits.later") (sv "eventloom.waits" 371) 170)) ::
 (nat_lit 175,(Z1 [(sv "lineup" 409),(sv "Waits.lineup" 410),(sv "/claim/cut.py" 411),(nv (99) 0),(nv (1) 0),(nv (0) 0),(nv (0) 0),(nv (3) 0),(rv 172),(.bool true),(nv (181) 0),(rv 173),.none,.none,.none,(rv 174),(nv (412) 0),(nv (99) 0),(sv "/claim/cut.py" 413)])) ::
 (nat_lit 176,(fnO (nth (Z6 (nth pw_uf030038_12.main.body 25)) 3) (ofString "Waits.lineup") (sv "eventloom.waits" 371) 175)) ::
 (nat_lit 182,(Z1 [(sv "lead" 415),(sv "Waits.lead" 416),(sv "/claim/cut.py" 417),(nv (102) 0),(nv (1) 0),(nv (0) 0),(nv (0) 0),(nv (3) 0),(rv 177),(.bool true),(nv (181) 0),(rv 178),.none,(rv 179),(rv 180),(rv 181),(nv (420) 0),(nv (102) 0),(sv "/claim/cut.py" 421)])) ::
 (nat_lit 183,(fnO (nth (Z6 (nth pw_uf030038_12.main.body 25)) 4) (ofString "Waits.lead") (sv "eventloom.waits" 371) 182)) ::
 (nat_lit 187,(Z1 [(sv "drop" 423),(sv "Waits.drop" 424),(sv "/claim/cut.py" 425),(nv (111) 0),(nv (2) 0),(nv (0) 0),(nv (0) 0),(nv (3) 0),(rv 184),(.bool true),(nv (181) 0),(rv 185),.none,.none,.none,(rv 186),(nv (426) 0),(nv (111) 0),(sv "/claim/cut.py" 427)])) ::
 (nat_lit 188,(fnO (nth (Z6 (nth pw_uf030038_12.main.body 25)) 5) (ofString "Waits.drop") (sv "eventloom.waits" 371) 187)) ::
 (nat_lit 190,(ZM [de P "__module__" 380 (sv "eventloom.waits" 371),de P "__firstlineno__" 384 (nv (87) 383),de P "__init__" 391 (rv 157),de P "sooner" 399 (rv 164),de P "later" 408 (rv 171),de P "lineup" 414 (rv 176),de P "lead" 422 (rv 183),de P "drop" 428 (rv 188),de P "__static_attributes__" 431 (rv 189),de P "__dict__" 433 (rv 192),de P "__weakref__" 435 (rv 193),de P "__doc__" 436 .none] 4)) ::
 (nat_lit 191,⟨.type "type",none,.cls { name:=ofString "Waits",bases:=[(.type "object")],mro:=[(rv 191),(.type "object")],ns:=190,qualname:=ofString "Waits",hasDict:=true,slotNames:=[],subclasses:=[],abstract:=false,collection:=none,hasDel:=false },[none,none,some (sv "Waits" 373),some (sv "Waits" 381),some (.builtin "object.__new__"),some (.bool true)].toArray⟩) ::
 (nat_lit 192,⟨(.type "getset_descriptor"),none,.fields [(sv "__dict__" 432),(rv 191),(.builtin "function.__dict__"),(.builtin "function.__dict__#set")].toArray,#[]⟩) ::
 (nat_lit 193,⟨(.type "getset_descriptor"),none,.fields [(sv "__weakref__" 434),(rv 191),(.builtin "ExceptionGroup.__weakref__"),.none].toArray,#[]⟩) ::
 (nat_lit 208,(Z1 [(sv "__init__" 453),(sv "Frame.__init__" 454),(sv "/claim/cut.py" 455),(nv (117) 0),(nv (3) 0),(nv (0) 0),(nv (0) 0),(nv (3) 0),(rv 203),(.bool true),(nv (181) 0),(rv 204),.none,(rv 205),(rv 206),(rv 207),(nv (459) 0),(nv (117) 0),(sv "/claim/cut.py" 460)])) ::
 (nat_lit 209,(fnO (nth (Z6 (nth pw_uf030038_12.main.body 27)) 0) (ofString "Frame.__init__") (sv "eventloom.loom" 439) 208)) ::
 (nat_lit 211,(ZM [de P "__module__" 448 (sv "eventloom.loom" 439),de P "__firstlineno__" 452 (nv (115) 451),de P "__init__" 461 (rv 209),de P "__static_attributes__" 465 (rv 210),de P "__dict__" 467 (rv 213),de P "__weakref__" 469 (rv 214),de P "__doc__" 470 .none] 4)) ::
 (nat_lit 212,⟨.type "type",none,.cls { name:=ofString "Frame",bases:=[(.type "object")],mro:=[(rv 212),(.type "object")],ns:=211,qualname:=ofString "Frame",hasDict:=true,slotNames:=[],subclasses:=[],abstract:=false,collection:=none,hasDel:=false },[none,none,some (sv "Frame" 441),some (sv "Frame" 449),some (.builtin "object.__new__"),some (.bool true)].toArray⟩) ::
 (nat_lit 213,⟨(.type "getset_descriptor"),none,.fields [(sv "__dict__" 466),(rv 212),(.builtin "function.__dict__"),(.builtin "function.__dict__#set")].toArray,#[]⟩) ::
 (nat_lit 214,⟨(.type "getset_descriptor"),none,.fields [(sv "__weakref__" 468),(rv 212),(.builtin "ExceptionGroup.__weakref__"),.none].toArray,#[]⟩) ::
 (nat_lit 229,(Z1 [(sv "__init__" 485),(sv "Loom.__init__" 486),(sv "/claim/cut.py" 487),(nv (123) 0),(nv (3) 0),(nv (0) 0),(nv (0) 0),(nv (3) 0),(rv 224),(.bool true),(nv (181) 0),(rv 225),.none,(rv 226),(rv 227),(rv 228),(nv (491) 0),(nv (123) 0),(sv "/claim/cut.py" 492)])) ::
 (nat_lit 230,(fnO (nth (Z6 (nth pw_uf030038_12.main.body 28)) 0) (ofString "Loom.__init__") (sv "eventloom.loom" 439) 229)) ::
 (nat_lit 236,(Z1 [(sv "send" 494),(sv "Loom.send" 495),(sv "/claim/cut.py" 496),(nv (133) 0),(nv (2) 0),(nv (0) 0),(nv (0) 0),(nv (3) 0),(rv 231),(.bool true),(nv (181) 0),(rv 232),.none,(rv 233),(rv 234),(rv 235),(nv (500) 0),(nv (133) 0),(sv "/claim/cut.py" 501)])) ::
 (nat_lit 237,(fnO (nth (Z6 (nth pw_uf030038_12.main.body 28)) 1) (ofString "Loom.send") (sv "eventloom.loom" 439) 236)) ::
 (nat_lit 243,(Z1 [(sv "step" 503),(sv "Loom.step" 504),(sv "/claim/cut.py" 505),(nv (140) 0),(nv (1) 0),(nv (0) 0),(nv (0) 0),(nv (3) 0),(rv 238),(.bool true),(nv (181) 0),(rv 239),.none,(rv 240),(rv 241),(rv 242),(nv (509) 0),(nv (140) 0),(sv "/claim/cut.py" 510)])) ::
 (nat_lit 244,(fnO (nth (Z6 (nth pw_uf030038_12.main.body 28)) 2) (ofString "Loom.step") (sv "eventloom.loom" 439) 243)) ::
 (nat_lit 250,(Z1 [(sv "begin" 512),(sv "Loom.begin" 513),(sv "/claim/cut.py" 514),(nv (157) 0),(nv (2) 0),(nv (0) 0),(nv (0) 0),(nv (3) 0),(rv 245),(.bool true),(nv (181) 0),(rv 246),.none,(rv 247),(rv 248),(rv 249),(nv (518) 0),(nv (157) 0),(sv "/claim/cut.py" 519)])) ::
 (nat_lit 251,(fnO (nth (Z6 (nth pw_uf030038_12.main.body 28)) 3) (ofString "Loom.begin") (sv "eventloom.loom" 439) 250)) ::
 (nat_lit 257,(Z1 [(sv "go_on" 521),(sv "Loom.go_on" 522),(sv "/claim/cut.py" 523),(nv (162) 0),(nv (2) 0),(nv (0) 0),(nv (0) 0),(nv (3) 0),(rv 252),(.bool true),(nv (181) 0),(rv 253),.none,(rv 254),(rv 255),(rv 256),(nv (526) 0),(nv (162) 0),(sv "/claim/cut.py" 527)])) ::
 (nat_lit 258,(fnO (nth (Z6 (nth pw_uf030038_12.main.body 28)) 4) (ofString "Loom.go_on") (sv "eventloom.loom" 439) 257)) ::
 (nat_lit 264,(Z1 [(sv "call_in" 529),(sv "Loom.call_in" 530),(sv "/claim/cut.py" 531),(nv (171) 0),(nv (3) 0),(nv (0) 0),(nv (0) 0),(nv (3) 0),(rv 259),(.bool true),(nv (181) 0),(rv 260),.none,(rv 261),(rv 262),(rv 263),(nv (536) 0),(nv (171) 0),(sv "/claim/cut.py" 537)])) ::
 (nat_lit 265,(fnO (nth (Z6 (nth pw_uf030038_12.main.body 28)) 5) (ofString "Loom.call_in") (sv "eventloom.loom" 439) 264)) ::
 (nat_lit 271,(Z1 [(sv "send_away" 539),(sv "Loom.send_away" 540),(sv "/claim/cut.py" 541),(nv (179) 0),(nv (2) 0),(nv (0) 0),(nv (0) 0),(nv (3) 0),(rv 266),(.bool true),(nv (181) 0),(rv 267),.none,(rv 268),(rv 269),(rv 270),(nv (545) 0),(nv (179) 0),(sv "/claim/cut.py" 546)])) ::
 (nat_lit 272,(fnO (nth (Z6 (nth pw_uf030038_12.main.body 28)) 6) (ofString "Loom.send_away") (sv "eventloom.loom" 439) 271)) ::
 (nat_lit 276,(Z1 [(sv "do_deed" 548),(sv "Loom.do_deed" 549),(sv "/claim/cut.py" 550),(nv (186) 0),(nv (3) 0),(nv (0) 0),(nv (0) 0),(nv (3) 0),(rv 273),(.bool true),(nv (181) 0),(rv 274),.none,.none,.none,(rv 275),(nv (551) 0),(nv (186) 0),(sv "/claim/cut.py" 552)])) ::
 (nat_lit 277,(fnO (nth (Z6 (nth pw_uf030038_12.main.body 28)) 7) (ofString "Loom.do_deed") (sv "eventloom.loom" 439) 276)) ::
 (nat_lit 283,(Z1 [(sv "make" 554),(sv "Loom.make" 555),(sv "/claim/cut.py" 556),(nv (204) 0),(nv (3) 0),(nv (0) 0),(nv (0) 0),(nv (3) 0),(rv 278),(.bool true),(nv (181) 0),(rv 279),.none,(rv 280),(rv 281),(rv 282),(nv (562) 0),(nv (204) 0),(sv "/claim/cut.py" 563)])) ::
 (nat_lit 284,(fnO (nth (Z6 (nth pw_uf030038_12.main.body 28)) 8) (ofString "Loom.make") (sv "eventloom.loom" 439) 283)) ::
 (nat_lit 290,(Z1 [(sv "run" 565),(sv "Loom.run" 566),(sv "/claim/cut.py" 567),(nv (218) 0),(nv (2) 0),(nv (0) 0),(nv (0) 0),(nv (3) 0),(rv 285),(.bool true),(nv (181) 0),(rv 286),.none,(rv 287),(rv 288),(rv 289),(nv (571) 0),(nv (218) 0),(sv "/claim/cut.py" 572)])) ::
 (nat_lit 291,(fnO (nth (Z6 (nth pw_uf030038_12.main.body 28)) 9) (ofString "Loom.run") (sv "eventloom.loom" 439) 290)) ::
 (nat_lit 297,(Z1 [(sv "waiting" 574),(sv "Loom.waiting" 575),(sv "/claim/cut.py" 576),(nv (226) 0),(nv (1) 0),(nv (0) 0),(nv (0) 0),(nv (3) 0),(rv 292),(.bool true),(nv (181) 0),(rv 293),.none,(rv 294),(rv 295),(rv 296),(nv (578) 0),(nv (226) 0),(sv "/claim/cut.py" 579)])) ::
 (nat_lit 298,(fnO (nth (Z6 (nth pw_uf030038_12.main.body 28)) 10) (ofString "Loom.waiting") (sv "eventloom.loom" 439) 297)) ::
 (nat_lit 304,(Z1 [(sv "around" 581),(sv "Loom.around" 582),(sv "/claim/cut.py" 583),(nv (229) 0),(nv (1) 0),(nv (0) 0),(nv (0) 0),(nv (3) 0),(rv 299),(.bool true),(nv (181) 0),(rv 300),.none,(rv 301),(rv 302),(rv 303),(nv (585) 0),(nv (229) 0),(sv "/claim/cut.py" 586)])) ::
 (nat_lit 305,(fnO (nth (Z6 (nth pw_uf030038_12.main.body 28)) 11) (ofString "Loom.around") (sv "eventloom.loom" 439) 304)) ::
 (nat_lit 311,(Z1 [(sv "standing" 588),(sv "Loom.standing" 589),(sv "/claim/cut.py" 590),(nv (232) 0),(nv (1) 0),(nv (0) 0),(nv (0) 0),(nv (3) 0),(rv 306),(.bool true),(nv (181) 0),(rv 307),.none,(rv 308),(rv 309),(rv 310),(nv (592) 0),(nv (232) 0),(sv "/claim/cut.py" 593)])) ::
 (nat_lit 312,(fnO (nth (Z6 (nth pw_uf030038_12.main.body 28)) 12) (ofString "Loom.standing") (sv "eventloom.loom" 439) 311)) ::
 (nat_lit 318,(Z1 [(sv "idle" 595),(sv "Loom.idle" 596),(sv "/claim/cut.py" 597),(nv (235) 0),(nv (1) 0),(nv (0) 0),(nv (0) 0),(nv (3) 0),(rv 313),(.bool true),(nv (181) 0),(rv 314),.none,(rv 315),(rv 316),(rv 317),(nv (599) 0),(nv (235) 0),(sv "/claim/cut.py" 600)])) ::
 (nat_lit 319,(fnO (nth (Z6 (nth pw_uf030038_12.main.body 28)) 13) (ofString "Loom.idle") (sv "eventloom.loom" 439) 318)) ::
 (nat_lit 321,(ZM [de P "__module__" 480 (sv "eventloom.loom" 439),de P "__firstlineno__" 484 (nv (121) 483),de P "__init__" 493 (rv 230),de P "send" 502 (rv 237),de P "step" 511 (rv 244),de P "begin" 520 (rv 251),de P "go_on" 528 (rv 258),de P "call_in" 538 (rv 265),de P "send_away" 547 (rv 272),de P "do_deed" 553 (rv 277),de P "make" 564 (rv 284),de P "run" 573 (rv 291),de P "waiting" 580 (rv 298),de P "around" 587 (rv 305),de P "standing" 594 (rv 312),de P "idle" 601 (rv 319),de P "__static_attributes__" 610 (rv 320),de P "__dict__" 612 (rv 323),de P "__weakref__" 614 (rv 324),de P "__doc__" 615 .none] 4)) ::
 (nat_lit 322,⟨.type "type",none,.cls { name:=ofString "Loom",bases:=[(.type "object")],mro:=[(rv 322),(.type "object")],ns:=321,qualname:=ofString "Loom",hasDict:=true,slotNames:=[],subclasses:=[],abstract:=false,collection:=none,hasDel:=false },[none,none,some (sv "Loom" 473),some (sv "Loom" 481),some (.builtin "object.__new__"),some (.bool true)].toArray⟩) ::
 (nat_lit 323,⟨(.type "getset_descriptor"),none,.fields [(sv "__dict__" 611),(rv 322),(.builtin "function.__dict__"),(.builtin "function.__dict__#set")].toArray,#[]⟩) ::
 (nat_lit 324,⟨(.type "getset_descriptor"),none,.fields [(sv "__weakref__" 613),(rv 322),(.builtin "ExceptionGroup.__weakref__"),.none].toArray,#[]⟩) ::
 (nat_lit 332,(Z1 [(sv "_law_told_at" 620),(sv "_law_told_at" 621),(sv "/claim/cut.py" 622),(nv (238) 0),(nv (2) 0),(nv (0) 0),(nv (0) 0),(nv (3) 0),(rv 327),(.bool true),(nv (181) 0),(rv 328),.none,(rv 329),(rv 330),(rv 331),(nv (625) 0),(nv (238) 0),(sv "/claim/cut.py" 626)])) ::
 (nat_lit 333,(fnO (nth pw_uf030038_12.main.body 30) (ofString "_law_told_at") (sv "law_uf030038_12" 618) 332)) ::
 (nat_lit 339,(Z1 [(sv "_law_mixed" 628),(sv "_law_mixed" 629),(sv "/claim/cut.py" 630),(nv (242) 0),(nv (3) 0),(nv (0) 0),(nv (0) 0),(nv (3) 0),(rv 334),(.bool true),(nv (181) 0),(rv 335),.none,(rv 336),(rv 337),(rv 338),(nv (635) 0),(nv (242) 0),(sv "/claim/cut.py" 636)])) ::
 (nat_lit 340,(fnO (nth pw_uf030038_12.main.body 31) (ofString "_law_mixed") (sv "law_uf030038_12" 618) 339)) ::
 (nat_lit 344,(Z1 [(sv "_law_word_by" 638),(sv "_law_word_by" 639),(sv "/claim/cut.py" 640),(nv (245) 0),(nv (2) 0),(nv (0) 0),(nv (0) 0),(nv (3) 0),(rv 341),(.bool true),(nv (181) 0),(rv 342),.none,.none,.none,(rv 343),(nv (641) 0),(nv (245) 0),(sv "/claim/cut.py" 642)])) ::
 (nat_lit 345,(fnO (nth pw_uf030038_12.main.body 32) (ofString "_law_word_by") (sv "law_uf030038_12" 618) 344)) ::
 (nat_lit 351,(Z1 [(sv "_law_name_by" 644),(sv "_law_name_by" 645),(sv "/claim/cut.py" 646),(nv (252) 0),(nv (2) 0),(nv (0) 0),(nv (0) 0),(nv (3) 0),(rv 346),(.bool true),(nv (181) 0),(rv 347),.none,(rv 348),(rv 349),(rv 350),(nv (652) 0),(nv (252) 0),(sv "/claim/cut.py" 653)])) ::
 (nat_lit 352,(fnO (nth pw_uf030038_12.main.body 33) (ofString "_law_name_by") (sv "law_uf030038_12" 618) 351)) ::
 (nat_lit 358,(Z1 [(sv "_law_deed_by" 655),(sv "_law_deed_by" 656),(sv "/claim/cut.py" 657),(nv (257) 0),(nv (4) 0),(nv (0) 0),(nv (0) 0),(nv (3) 0),(rv 353),(.bool true),(nv (181) 0),(rv 354),.none,(rv 355),(rv 356),(rv 357),(nv (666) 0),(nv (257) 0),(sv "/claim/cut.py" 667)])) ::
 (nat_lit 359,(fnO (nth pw_uf030038_12.main.body 34) (ofString "_law_deed_by") (sv "law_uf030038_12" 618) 358)) ::
 (nat_lit 363,(Z1 [(sv "_law_handlers_by" 669),(sv "_law_handlers_by" 670),(sv "/claim/cut.py" 671),(nv (266) 0),(nv (2) 0),(nv (0) 0),(nv (0) 0),(nv (3) 0),(rv 360),(.bool true),(nv (181) 0),(rv 361),.none,.none,.none,(rv 362),(nv (672) 0),(nv (266) 0),(sv "/claim/cut.py" 673)])) ::
 (nat_lit 364,(fnO (nth pw_uf030038_12.main.body 35) (ofString "_law_handlers_by") (sv "law_uf030038_12" 618) 363)) ::
 (nat_lit 370,(Z1 [(sv "_law_come" 675),(sv "_law_come" 676),(sv "/claim/cut.py" 677),(nv (285) 0),(nv (2) 0),(nv (0) 0),(nv (0) 0),(nv (3) 0),(rv 365),(.bool true),(nv (181) 0),(rv 366),.none,(rv 367),(rv 368),(rv 369),(nv (680) 0),(nv (285) 0),(sv "/claim/cut.py" 681)])) ::
 (nat_lit 371,(fnO (nth pw_uf030038_12.main.body 36) (ofString "_law_come") (sv "law_uf030038_12" 618) 370)) ::
 (nat_lit 377,(Z1 [(sv "_law_made" 683),(sv "_law_made" 684),(sv "/claim/cut.py" 685),(nv (289) 0),(nv (5) 0),(nv (0) 0),(nv (0) 0),(nv (3) 0),(rv 372),(.bool true),(nv (181) 0),(rv 373),.none,(rv 374),(rv 375),(rv 376),(nv (692) 0),(nv (289) 0),(sv "/claim/cut.py" 693)])) ::
 (nat_lit 378,(fnO (nth pw_uf030038_12.main.body 37) (ofString "_law_made") (sv "law_uf030038_12" 618) 377)) ::
 (nat_lit 382,(Z1 [(sv "_law_begin" 695),(sv "_law_begin" 696),(sv "/claim/cut.py" 697),(nv (297) 0),(nv (2) 0),(nv (0) 0),(nv (0) 0),(nv (3) 0),(rv 379),(.bool true),(nv (181) 0),(rv 380),.none,.none,.none,(rv 381),(nv (698) 0),(nv (297) 0),(sv "/claim/cut.py" 699)])) ::
 (nat_lit 383,(fnO (nth pw_uf030038_12.main.body 38) (ofString "_law_begin") (sv "law_uf030038_12" 618) 382)) ::
 (nat_lit 387,(Z1 [(sv "_law_deed" 701),(sv "_law_deed" 702),(sv "/claim/cut.py" 703),(nv (306) 0),(nv (3) 0),(nv (0) 0),(nv (0) 0),(nv (3) 0),(rv 384),(.bool true),(nv (181) 0),(rv 385),.none,.none,.none,(rv 386),(nv (704) 0),(nv (306) 0),(sv "/claim/cut.py" 705)])) ::
 (nat_lit 388,(fnO (nth pw_uf030038_12.main.body 39) (ofString "_law_deed") (sv "law_uf030038_12" 618) 387)) ::
 (nat_lit 394,(Z1 [(sv "_law_inner" 707),(sv "_law_inner" 708),(sv "/claim/cut.py" 709),(nv (326) 0),(nv (2) 0),(nv (0) 0),(nv (0) 0),(nv (3) 0),(rv 389),(.bool true),(nv (181) 0),(rv 390),.none,(rv 391),(rv 392),(rv 393),(nv (714) 0),(nv (326) 0),(sv "/claim/cut.py" 715)])) ::
 (nat_lit 395,(fnO (nth pw_uf030038_12.main.body 40) (ofString "_law_inner") (sv "law_uf030038_12" 618) 394)) ::
 (nat_lit 401,(Z1 [(sv "_law_step" 717),(sv "_law_step" 718),(sv "/claim/cut.py" 719),(nv (340) 0),(nv (1) 0),(nv (0) 0),(nv (0) 0),(nv (3) 0),(rv 396),(.bool true),(nv (181) 0),(rv 397),.none,(rv 398),(rv 399),(rv 400),(nv (723) 0),(nv (340) 0),(sv "/claim/cut.py" 724)])) ::
 (nat_lit 402,(fnO (nth pw_uf030038_12.main.body 41) (ofString "_law_step") (sv "law_uf030038_12" 618) 401)) ::
 (nat_lit 406,(Z1 [(sv "_law_kinds" 726),(sv "_law_kinds" 727),(sv "/claim/cut.py" 728),(nv (352) 0),(nv (1) 0),(nv (0) 0),(nv (0) 0),(nv (3) 0),(rv 403),(.bool true),(nv (181) 0),(rv 404),.none,.none,.none,(rv 405),(nv (729) 0),(nv (352) 0),(sv "/claim/cut.py" 730)])) ::
 (nat_lit 407,(fnO (nth pw_uf030038_12.main.body 42) (ofString "_law_kinds") (sv "law_uf030038_12" 618) 406)) ::
 (nat_lit 411,(Z1 [(sv "law" 732),(sv "law" 733),(sv "/claim/cut.py" 734),(nv (359) 0),(nv (1) 0),(nv (0) 0),(nv (0) 0),(nv (3) 0),(rv 408),(.bool true),(nv (181) 0),(rv 409),.none,.none,.none,(rv 410),(nv (735) 0),(nv (359) 0),(sv "/claim/cut.py" 736)])) ::
 (nat_lit 412,(fnO (nth pw_uf030038_12.main.body 43) (ofString "law") (sv "law_uf030038_12" 618) 411))::[]
noncomputable def asL:List Addr:=[2,3,20,21,30,31,32,43,44,55,56,67,68,79,80,91,92,100,101,105,106,112,113,114,120,121,125,126,132,133,137,138,142,143,156,157,163,164,170,171,175,176,182,183,187,188,190,191,192,193,208,209,211,212,213,214,229,230,236,237,243,244,250,251,257,258,264,265,271,272,276,277,283,284,290,291,297,298,304,305,311,312,318,319,321,322,323,324,332,333,339,340,344,345,351,352,358,359,363,364,370,371,377,378,382,383,387,388,394,395,401,402,406,407,411,412]
theorem Z6S:∀P,asL=(KL P).map (fun x=>x.1):=fun z=>by kernel_rfl
noncomputable abbrev HL:Hook:=kmHook KL asL Z6S [140]
noncomputable abbrev qL:Program:=view PySem.Challenge.pw_uf030038_12 Z7p
noncomputable abbrev XtL:Shared->Bool:=fun s=>xlAt qL [] s&&recOk [] s
theorem Z7q(h:PySem.Challenge.rw_uf030038_12.row.wellSaid=true->PySem.Challenge.rw_uf030038_12.row.Holds):PySem.Challenge.rw_uf030038_12.Holds:=by
 refine holds_law (by kernel_rfl) fun said=>?_;exact h said
theorem runL:∀w:World,(fun os=>(segRunT treeTable PySem.Challenge.pw_uf030038_12 w 11 (some (.ref 6)) 0 3314 ⟨T0 w.params,11,{},Array.mk [],boot_drawn,boot_toks,os⟩ (topStub PySem.Challenge.pw_uf030038_12)).map fun r=>Z1K PySem.Challenge.pw_uf030038_12 qL [] XtL (Hook.obs HL) true (boot_heap w.params) r.2.1.abs)=fun z=>some (true,openGood qL [],Hook.val HL w):=by
 intro w;unfold Z1K;show _=fun z=>some (true,openGood qL [],((KL w.params).map fun p=>some p.2,[140].map fun z=>some (tabObj #[])));unfold XtL qL;rw[PySem.W.Fast.te10110043849684766642,PySem.W.Fast.te14364793385576792824,PySem.W.Fast.te4187177175401517315,PySem.W.Fast.te5923862056798008813]
 kernel_rfl
theorem Z7r:LeftO PySem.Challenge.pw_uf030038_12 qL [] XtL (Hook.obs HL) (Hook.val HL) 6688:=
 Z3L (T₀:=T0) (n₀:=11) (life:={}) (ann:=some (.ref 6)) (M:=3314) (H₀:=boot_heap) (boot_open (by kernel_rfl) rfl fun z=>by kernel_rfl) Z6R Z4O rfl runL
noncomputable abbrev dL:DefRec:=Z6Q (nth pw_uf030038_12.main.body 43)
theorem defL:defOf qL (ofString "law")=some (dL,[]):=by
 unfold qL dL
 kernel_rfl
theorem theL:PySem.Challenge.pw_uf030038_12.theDef (ofString "law")=some (dL.params,dL.body,dL.scope):=by
 unfold dL
 kernel_rfl
theorem okL:(chainsOk qL&&opensWell PySem.Challenge.pw_uf030038_12&&(frees PySem.Challenge.rw_uf030038_12.row.toRowW&&PySem.Challenge.rw_uf030038_12.row.within.isEmpty))=true:=by
 show(chainsOk qL&&opensWell PySem.Challenge.pw_uf030038_12&&(frees PySem.Challenge.rw_uf030038_12.row.toRowW&&true))=true;unfold qL
 kernel_rfl
theorem Z7s:PySem.Challenge.pw_uf030038_12.bare:=⟨rfl,rfl,rfl,rfl,rfl,by decide +kernel⟩
theorem hd(call:WalkO qL [] (XL qL []) (Hook.says HL) PySem.Challenge.rw_uf030038_12.row.toRowW dL [] (fun f vs=>PySem.call f vs)):PySem.Challenge.rw_uf030038_12.Holds:=
 Z7q fun said=>holds_open (r:=PySem.Challenge.rw_uf030038_12.row) (q:=qL) (loose:=[]) (Xt:=XtL) (XP:=XL qL []) (Yf:=Hook.obs HL) (Ya:=Hook.val HL) (YP:=Hook.says HL) (N:=6688) Z7r (Hook.of HL) (Hook.keeps HL) (fun s e=>xl_of s (Bool.and_eq_true_iff.mp e).1) XL.keeps defL theL rfl (fun s e=>recFacts_of (Bool.and_eq_true_iff.mp e).2) rfl said okL Z7s (by w_witness2) call
end Mine.Internal
set_option linter.unusedVariables false
namespace Mine.Internal
noncomputable section
noncomputable def nthN:List Nat->Nat->Nat
 | [],_=>0
 | x::_,0=>x
 | _::l,i+1=>nthN l i
noncomputable def nthI:List Int->Nat->Int
 | [],_=>0
 | x::_,0=>x
 | _::l,i+1=>nthI l i
inductive LT where
 | v (i:Nat)|k (n:Nat)|a (x y:LT)|s (x y:LT)|m (n:Nat) (x:LT)|g (x:LT)|c (x:LT)|mx (x y:LT)|mn (x y:LT)
inductive LF where
 | le (b:Bool) (x y:LT)|lt (b:Bool) (x y:LT)|eq (b:Bool) (x y:LT)|no (p:LF)|an (p q:LF)|or (p q:LF)|im (p q:LF)|ff
noncomputable def LT.N(nc:List Nat):LT->Nat
 | .v i=>nthN nc i
 | .k n=>n
 | .a x y=>x.N nc+y.N nc
 | .s x y=>x.N nc-y.N nc
 | .m n x=>n*x.N nc
 | .g _=>0
 | .c x=>x.N nc
 | .mx x y=>max (x.N nc) (y.N nc)
 | .mn x y=>min (x.N nc) (y.N nc)
noncomputable def LT.Z(nc:List Nat)(ic:List Int):LT->Int
 | .v i=>nthI ic i
 | .k n=>(n:Int)
 | .a x y=>x.Z nc ic+y.Z nc ic
 | .s x y=>x.Z nc ic-y.Z nc ic
 | .m n x=>(n:Int)*x.Z nc ic
 | .g x=>-(x.Z nc ic)
 | .c x=>(x.N nc:Int)
 | .mx x y=>max (x.Z nc ic) (y.Z nc ic)
 | .mn x y=>min (x.Z nc ic) (y.Z nc ic)
noncomputable def LT.V(nc:List Nat)(ic:List Int)(x:LT):Bool->Int
 | true=>(x.N nc:Int)
 | false=>x.Z nc ic
noncomputable def LF.D(nc:List Nat)(ic:List Int):LF->Prop
 | .le b x y=>match b with
  | true=>x.N nc<=y.N nc
  | false=>x.Z nc ic<=y.Z nc ic
 | .lt b x y=>match b with
  | true=>x.N nc<y.N nc
  | false=>x.Z nc ic<y.Z nc ic
 | .eq b x y=>match b with
  | true=>x.N nc=y.N nc
  | false=>x.Z nc ic=y.Z nc ic
 | .no p=>¬p.D nc ic
 | .an p q=>p.D nc ic/\q.D nc ic
 | .or p q=>p.D nc ic\/q.D nc ic
 | .im p q=>p.D nc ic->q.D nc ic
 | .ff=>False
noncomputable def dot:List Int->List Int->Int
 | c::cs,x::xs=>c*x+dot cs xs
 | _,_=>0
noncomputable def vad:List Int->List Int->List Int
 | x::xs,y::ys=>(x+y)::vad xs ys
 | [],ys=>ys
 | xs,[]=>xs
noncomputable def vsc(c:Int)(v:List Int):List Int:=v.map (c*·)
noncomputable def vun(c:Int):Nat->List Int
 | 0=>[c]
 | i+1=>0::vun c i
theorem Z3V(v:List Int):dot v []=0:=by cases v<;>rfl
theorem ZC:∀(v u l:List Int),dot (vad v u) l=dot v l+dot u l
 | [],u,l=>by simp[vad,dot]
 | x::v,[],l=>by simp[vad,dot]
 | x::v,y::u,[]=>rfl
 | x::v,y::u,z::l=>by simp only[vad,dot,ZC v u l,Int.add_mul];(first|lia|omega)
theorem Z19(c:Int):∀(v l:List Int),dot (vsc c v) l=c*dot v l
 | [],l=>by simp[vsc,dot]
 | x::v,[]=>by simp[vsc,dot]
 | x::v,z::l=>by
  have:=Z19 c v l;unfold vsc at this ⊢;simp only[map_cons,dot,this,Int.mul_add,Int.mul_assoc]
theorem Z1a(c:Int):∀(i:Nat) (l:List Int),dot (vun c i) l=c*nthI l i
 | _,[]=>by rw[Z3V];simp[nthI]
 | 0,x::l=>by simp[vun,dot,nthI]
 | i+1,x::l=>by simp only[vun,dot,nthI,Z1a c i l];(first|lia|omega)
noncomputable def Hold(l:List Int)(d:List (List Int)):Prop:=∀v∈d,0<=dot v l
theorem Hold.app{l:List Int}{d e:List (List Int)}(h:Hold l d)(k:Hold l e):Hold l (d++e):=fun v hv=>(List.mem_append.mp hv).elim (h v) (k v)
noncomputable def hdI(v:List Int):Int:=v.headD 0
noncomputable def pair(d:List (List Int))(p:List Int):List (List Int):=(d.filter fun n=>hdI n<0).map fun n=>vad (vsc (-(hdI n)) p.tail) (vsc (hdI p) n.tail)
noncomputable def fewer(d:List (List Int)):List (List Int):=(d.filter fun v=>hdI v==0).map List.tail++(d.filter fun v=>0<hdI v).flatMap (pair d)
noncomputable def Z4t:Nat->List (List Int)->Bool
 | 0,d=>d.any fun v=>hdI v<0
 | n+1,d=>Z4t n (fewer d)
theorem Z3e(v:List Int)(x:Int)(l:List Int):dot v (x::l)=hdI v*x+dot v.tail l:=by
 cases v with
 | nil=>simp[dot,hdI]
 | cons c v=>rfl
theorem Hold.fewer{x:Int}{l:List Int}{d:List (List Int)}(h:Hold (x::l) d):Hold l (fewer d):=by
 intro v hv;rcases List.mem_append.mp hv with hv|hv
 ·obtain⟨u,hu,rfl⟩:=List.mem_map.mp hv;obtain⟨h1,h2⟩:=List.mem_filter.mp hu;have:=h u h1;rw[Z3e,eq_of_beq h2]at this
  (first|lia|omega)
 ·obtain⟨p,hp,hv⟩:=List.mem_flatMap.mp hv;obtain⟨n,hn,rfl⟩:=List.mem_map.mp hv;obtain⟨p1,p2⟩:=List.mem_filter.mp hp;obtain⟨n1,n2⟩:=List.mem_filter.mp hn;have hp:=h p p1;have hn:=h n n1;rw[Z3e]at hp hn;rw[ZC,Z19,Z19];have p2:=of_decide_eq_true p2;have n2:=of_decide_eq_true n2;have a1:=Int.mul_nonneg (a:=-(hdI n)) (by(first|lia|omega)) hp;have a2:=Int.mul_nonneg (a:=hdI p) (by(first|lia|omega)) hn;have e1:-(hdI n)*(hdI p*x+dot p.tail l)=-(hdI p*(hdI n*x))+-(hdI n)*dot p.tail l:=by
   rw[Int.mul_add,Int.neg_mul,<-Int.mul_assoc,Int.mul_comm (hdI n) (hdI p),Int.mul_assoc]
  rw[e1]at a1;rw[Int.mul_add]at a2
  (first|lia|omega)
theorem Z3f:∀(l:List Int) (d:List (List Int)),Z4t l.length d=true->¬Hold (l++[1]) d
 | [],d,h,H=>by
  obtain⟨v,hv,hn⟩:=List.any_eq_true.mp h;have:=H v hv;rw[nil_append,Z3e,Z3V]at this;have:=of_decide_eq_true hn
  (first|lia|omega)
 | x::l,d,h,H=>Z3f l (fewer d) h (Hold.fewer (x:=x) (l:=l++[1]) H)
abbrev Cs:=List (List Int×List (List Int))
noncomputable def both(f:List Int->List Int->Cs)(p q:Cs):Cs:=p.flatMap fun a=>q.flatMap fun b=>(f a.1 b.1).map fun c=>(c.1,c.2++(a.2++b.2))
noncomputable def vsb(x y:List Int):List Int:=vad x (vsc (-1) y)
noncomputable def LT.cs(N T:Nat)(b:Bool):LT->Cs
 | .v i=>[(bif b then(bif Nat.blt i N then vun 1 i else []) else(bif Nat.blt (N+i) T then vun 1 (N+i) else []),[])]
 | .k n=>[(vun n T,[])]
 | .a x y=>both (fun u v=>[(vad u v,[])]) (x.cs N T b) (y.cs N T b)
 | .s x y=>both (fun u v=>bif b then [(vsb u v,[vsb u v]),([],[vsb v u])] else [(vsb u v,[])]) (x.cs N T b) (y.cs N T b)
 | .m n x=>(x.cs N T b).map fun p=>(vsc n p.1,p.2)
 | .g x=>bif b then [([],[])] else(x.cs N T b).map fun p=>(vsc (-1) p.1,p.2)
 | .c x=>x.cs N T true
 | .mx x y=>both (fun u v=>[(u,[vsb u v]),(v,[vsb v u])]) (x.cs N T b) (y.cs N T b)
 | .mn x y=>both (fun u v=>[(v,[vsb u v]),(u,[vsb v u])]) (x.cs N T b) (y.cs N T b)
noncomputable def Is(l:List Int)(p:Cs)(z:Int):Prop:=∃q∈p,dot q.1 l=z/\Hold l q.2
theorem Is.both{l:List Int}{f:List Int->List Int->Cs}{p q:Cs}{x y z:Int}(hp:Is l p x)(hq:Is l q y)(h:∀u v,dot u l=x->dot v l=y->Is l (f u v) z):Is l (Mine.Internal.both f p q) z:=by
 obtain⟨a,ha,e1,h1⟩:=hp;obtain⟨b,hb,e2,h2⟩:=hq;obtain⟨c,hc,e3,h3⟩:=h a.1 b.1 e1 e2;exact⟨(c.1,c.2++(a.2++b.2)),List.mem_flatMap.mpr ⟨a,ha,List.mem_flatMap.mpr ⟨b,hb,List.mem_map.mpr ⟨c,hc,rfl⟩⟩⟩,e3,h3.app (h1.app h2)⟩
theorem Is.one{l v:List Int}{z:Int}(h:dot v l=z):Is l [(v,[])] z:=⟨_,.head _,h,fun u h=>nomatch h⟩
theorem Is.l{l u v w:List Int}{p:Cs}{z:Int}(h:dot v l=z)(hw:0<=dot w l):Is l ((v,[w])::p) z:=⟨_,.head _,h,fun x hx=>by rw[List.mem_singleton.mp hx];exact hw⟩
theorem Is.r{l:List Int}{a:List Int×List (List Int)}{v w:List Int}{z:Int}(h:dot v l=z)(hw:0<=dot w l):Is l [a,(v,[w])] z:=⟨_,.tail _ (.head _),h,fun x hx=>by rw[List.mem_singleton.mp hx];exact hw⟩
theorem Is.map{l:List Int}{p:Cs}{x:Int}(c:Int)(hp:Is l p x):Is l (p.map fun q=>(vsc c q.1,q.2)) (c*x):=by
 obtain⟨a,ha,e1,h1⟩:=hp;exact⟨_,List.mem_map.mpr ⟨a,ha,rfl⟩,by rw[Z19,e1],h1⟩
theorem Zc(v u l:List Int):dot (vsb v u) l=dot v l-dot u l:=by
 unfold vsb;rw[ZC,Z19];(first|lia|omega)
noncomputable def ctx(nc:List Nat)(ic:List Int):List Int:=nc.map Int.ofNat++ic
theorem Z1b(nc:List Nat)(ic:List Int):(ctx nc ic).length=nc.length+ic.length:=by simp[ctx]
theorem ZW:∀(l r:List Int) (i:Nat),i<l.length->nthI (l++r) i=nthI l i
 | x::l,r,0,_=>rfl
 | x::l,r,i+1,h=>ZW l r i (Nat.lt_of_succ_lt_succ h)
theorem Z25:∀(l r:List Int) (i:Nat),nthI (l++r) (l.length+i)=nthI r i
 | [],r,i=>by simp
 | x::l,r,i=>by
  rw[length_cons,Nat.add_right_comm];exact Z25 l r i
theorem Z2H:∀(l:List Nat) (i:Nat),nthI (l.map Int.ofNat) i=nthN l i
 | [],_=>rfl
 | x::l,0=>rfl
 | x::l,i+1=>Z2H l i
theorem Z3g:∀(l:List Nat) (i:Nat),¬i<l.length->nthN l i=0
 | [],_,_=>rfl
 | x::l,0,h=>absurd (Nat.succ_pos _) h
 | x::l,i+1,h=>Z3g l i fun q=>h (Nat.succ_lt_succ q)
theorem Z3h:∀(l:List Int) (i:Nat),¬i<l.length->nthI l i=0
 | [],_,_=>rfl
 | x::l,0,h=>absurd (Nat.succ_pos _) h
 | x::l,i+1,h=>Z3h l i fun q=>h (Nat.succ_lt_succ q)
section
variable {nc:List Nat} {ic:List Int}
theorem ZG(n:Int):dot (vun n (nc.length+ic.length)) (ctx nc ic++[1])=n:=by
 have:=Z25 (ctx nc ic) [1] 0;rw[Z1b,Nat.add_zero]at this;rw[Z1a,this];exact Int.mul_one n
theorem LT.ok(t:LT):∀b,Is (ctx nc ic++[1]) (t.cs nc.length (nc.length+ic.length) b) (t.V nc ic b):=by
 induction t with
 | v i=>
  intro b;refine Is.one ?_
  cases b with
  | true=>
   show dot (bif Nat.blt i nc.length then vun 1 i else []) _=((nthN nc i:Nat):Int)
   by_cases h:i<nc.length
   ·rw[Nat.blt_eq.mpr h,cond_true,Z1a,Int.one_mul,ZW _ _ _ (by rw[Z1b];exact Nat.lt_of_lt_of_le h (Nat.le_add_right _ _)),ctx,ZW _ _ _ (by rw[length_map];exact h),Z2H]
   ·rw[Bool.eq_false_iff.mpr (fun q=>h (Nat.blt_eq.mp q)),cond_false,Z3g nc i h];rfl
  | false=>
   show dot (bif Nat.blt (nc.length+i) (nc.length+ic.length) then vun 1 (nc.length+i) else []) _=nthI ic i
   by_cases h:i<ic.length
   ·have:=Z25 (nc.map Int.ofNat) ic i;rw[length_map]at this;have h':=Nat.add_lt_add_left h nc.length;rw[Nat.blt_eq.mpr h',cond_true,Z1a,Int.one_mul,ZW _ _ _ (by rw[Z1b];exact h'),ctx,this]
   ·rw[Bool.eq_false_iff.mpr (fun q=>h (Nat.lt_of_add_lt_add_left (Nat.blt_eq.mp q))),cond_false,Z3h ic i h];rfl
 | k n=>
  intro b
  cases b
  ·exact Is.one (ZG _)
  ·exact Is.one (ZG _)
 | a x y hx hy=>
  intro b;refine(hx b).both (hy b) fun u v e1 e2=>Is.one (by rw[ZC,e1,e2];cases b<;>rfl)
 | s x y hx hy=>
  intro b;refine(hx b).both (hy b) fun u v e1 e2=>?_
  cases b with
  | true=>
   by_cases h:y.N nc<=x.N nc
   ·exact Is.l (u:=[]) (by rw[Zc,e1,e2];exact(Int.ofNat_sub h).symm) (by rw[Zc,e1,e2];exact Int.sub_nonneg_of_le (Int.ofNat_le.mpr h))
   ·exact Is.r (by show(0:Int)=((x.N nc-y.N nc:Nat):Int);rw[Nat.sub_eq_zero_of_le (Nat.le_of_not_le h)];rfl) (by rw[Zc,e1,e2];exact Int.sub_nonneg_of_le (Int.ofNat_le.mpr (Nat.le_of_not_le h)))
  | false=>exact Is.one (by rw[Zc,e1,e2];rfl)
 | m n x hx=>
  intro b;have:=(hx b).map n
  cases b with
  | true=>
   show Is _ _ ((n*x.N nc:Nat):Int);rw[Int.natCast_mul];exact this
  | false=>exact this
 | g x hx=>
  intro b
  cases b with
  | true=>exact Is.one rfl
  | false=>
   have:=(hx false).map (-1);rw[Int.neg_one_mul]at this;exact this
 | c x hx=>
  intro b
  cases b with
  | true=>exact hx true
  | false=>exact hx true
 | mx x y hx hy=>
  intro b;refine(hx b).both (hy b) fun u v e1 e2=>?_;have e:(LT.mx x y).V nc ic b=max (x.V nc ic b) (y.V nc ic b):=by
   cases b with
   | true=>show((max (x.N nc) (y.N nc):Nat):Int)=max (x.N nc:Int) (y.N nc:Int);(first|lia|omega)
   | false=>rfl
  rw[e]
  by_cases h:y.V nc ic b<=x.V nc ic b
  ·exact Is.l (u:=[]) (by rw[e1,Int.max_eq_left h]) (by rw[Zc,e1,e2];exact Int.sub_nonneg_of_le h)
  ·have h:=Int.le_of_lt (Int.not_le.mp h);exact Is.r (by rw[e2,Int.max_eq_right h]) (by rw[Zc,e1,e2];exact Int.sub_nonneg_of_le h)
 | mn x y hx hy=>
  intro b;refine(hx b).both (hy b) fun u v e1 e2=>?_;have e:(LT.mn x y).V nc ic b=min (x.V nc ic b) (y.V nc ic b):=by
   cases b with
   | true=>show((min (x.N nc) (y.N nc):Nat):Int)=min (x.N nc:Int) (y.N nc:Int);(first|lia|omega)
   | false=>rfl
  rw[e]
  by_cases h:y.V nc ic b<=x.V nc ic b
  ·exact Is.l (u:=[]) (by rw[e2,Int.min_eq_right h]) (by rw[Zc,e1,e2];exact Int.sub_nonneg_of_le h)
  ·have h:=Int.le_of_lt (Int.not_le.mp h);exact Is.r (by rw[e1,Int.min_eq_left h]) (by rw[Zc,e1,e2];exact Int.sub_nonneg_of_le h)
end
noncomputable def prod(p q:List (List (List Int))):List (List (List Int)):=p.flatMap fun a=>q.map fun b=>a++b
noncomputable def rel(f:List Int->List Int->List (List (List Int)))(p q:Cs):List (List (List Int)):=p.flatMap fun a=>q.flatMap fun b=>(f a.1 b.1).map fun c=>c++(a.2++b.2)
noncomputable def LF.cs(N T:Nat):LF->Bool->List (List (List Int))
 | .le c x y,b=>rel (fun u v=>bif b then [[vsb v u]] else [[vad (vsb u v) (vun (-1) T)]]) (x.cs N T c) (y.cs N T c)
 | .lt c x y,b=>rel (fun u v=>bif b then [[vad (vsb v u) (vun (-1) T)]] else [[vsb u v]]) (x.cs N T c) (y.cs N T c)
 | .eq c x y,b=>rel (fun u v=>bif b then [[vsb u v,vsb v u]] else [[vad (vsb u v) (vun (-1) T)],[vad (vsb v u) (vun (-1) T)]]) (x.cs N T c) (y.cs N T c)
 | .no p,b=>p.cs N T (!b)
 | .an p q,b=>bif b then prod (p.cs N T b) (q.cs N T b) else p.cs N T b++q.cs N T b
 | .or p q,b=>bif b then p.cs N T b++q.cs N T b else prod (p.cs N T b) (q.cs N T b)
 | .im p q,b=>bif b then p.cs N T (!b)++q.cs N T b else prod (p.cs N T (!b)) (q.cs N T b)
 | .ff,b=>bif b then [] else [[]]
noncomputable def Xc(l:List Int)(p:List (List (List Int))):Prop:=∃d∈p,Hold l d
theorem Xc.rel{l:List Int}{f:List Int->List Int->List (List (List Int))}{p q:Cs}{x y:Int}(hp:Is l p x)(hq:Is l q y)(h:∀u v,dot u l=x->dot v l=y->Xc l (f u v)):Xc l (Mine.Internal.rel f p q):=by
 obtain⟨a,ha,e1,h1⟩:=hp;obtain⟨b,hb,e2,h2⟩:=hq;obtain⟨c,hc,h3⟩:=h a.1 b.1 e1 e2;exact⟨c++(a.2++b.2),List.mem_flatMap.mpr ⟨a,ha,List.mem_flatMap.mpr ⟨b,hb,List.mem_map.mpr ⟨c,hc,rfl⟩⟩⟩,h3.app (h1.app h2)⟩
theorem Xc.prod{l:List Int}{p q:List (List (List Int))}(hp:Xc l p)(hq:Xc l q):Xc l (Mine.Internal.prod p q):=by
 obtain⟨a,ha,h1⟩:=hp;obtain⟨b,hb,h2⟩:=hq;exact⟨a++b,List.mem_flatMap.mpr ⟨a,ha,List.mem_map.mpr ⟨b,hb,rfl⟩⟩,h1.app h2⟩
theorem Xc.l{l:List Int}{p q:List (List (List Int))}(h:Xc l p):Xc l (p++q):=let ⟨a,b,c⟩:=h;⟨a,List.mem_append_left _ b,c⟩
theorem Xc.r{l:List Int}{p q:List (List (List Int))}(h:Xc l q):Xc l (p++q):=let ⟨a,b,c⟩:=h;⟨a,mem_append_right _ b,c⟩
theorem Xc.one{l v:List Int}{p:List (List (List Int))}(h:0<=dot v l):Xc l ([v]::p):=⟨_,.head _,fun x hx=>by rw[List.mem_singleton.mp hx];exact h⟩
theorem Xc.two{l v u:List Int}(h:0<=dot v l)(k:0<=dot u l):Xc l [[v,u]]:=⟨_,.head _,fun x hx=>by
 rcases List.mem_cons.mp hx with rfl|hx
 ·exact h
 ·rw[List.mem_singleton.mp hx];exact k⟩
section
variable {nc:List Nat} {ic:List Int}
theorem Z2i{x y:Int}(h:y<x):0<=x-y+-1:=by(first|lia|omega)
theorem Z3W{l:List Int}{p q:Cs}{x y:Int}(hp:Is l p x)(hq:Is l q y)(h:x<=y):Xc l (rel (fun u v=>[[vsb v u]]) p q):=
 Xc.rel hp hq fun u v e1 e2=>Xc.one (by rw[Zc,e1,e2];exact Int.sub_nonneg_of_le h)
theorem Z3X{l:List Int}{p q:Cs}{x y:Int}(hp:Is l p x)(hq:Is l q y)(h:y<=x):Xc l (rel (fun u v=>[[vsb u v]]) p q):=
 Xc.rel hp hq fun u v e1 e2=>Xc.one (by rw[Zc,e1,e2];exact Int.sub_nonneg_of_le h)
theorem Z3Y{p q:Cs}{x y:Int}(hp:Is (ctx nc ic++[1]) p x)(hq:Is (ctx nc ic++[1]) q y)(h:y<x):Xc (ctx nc ic++[1]) (rel (fun u v=>[[vad (vsb u v) (vun (-1) (nc.length+ic.length))]]) p q):=
 Xc.rel hp hq fun u v e1 e2=>Xc.one (by rw[ZC,ZG,Zc,e1,e2];exact Z2i h)
theorem Z3Z{p q:Cs}{x y:Int}(hp:Is (ctx nc ic++[1]) p x)(hq:Is (ctx nc ic++[1]) q y)(h:x<y):Xc (ctx nc ic++[1]) (rel (fun u v=>[[vad (vsb v u) (vun (-1) (nc.length+ic.length))]]) p q):=
 Xc.rel hp hq fun u v e1 e2=>Xc.one (by rw[ZC,ZG,Zc,e1,e2];exact Z2i h)
theorem Z40{l:List Int}{p q:Cs}{x y:Int}(hp:Is l p x)(hq:Is l q y)(h:x=y):Xc l (rel (fun u v=>[[vsb u v,vsb v u]]) p q):=
 Xc.rel hp hq fun u v e1 e2=>Xc.two (by rw[Zc,e1,e2,h,Int.sub_self];exact Int.le_refl 0) (by rw[Zc,e1,e2,h,Int.sub_self];exact Int.le_refl 0)
theorem Z41{p q:Cs}{x y:Int}(hp:Is (ctx nc ic++[1]) p x)(hq:Is (ctx nc ic++[1]) q y)(h:¬x=y):Xc (ctx nc ic++[1]) (rel (fun u v=>[[vad (vsb u v) (vun (-1) (nc.length+ic.length))],[vad (vsb v u) (vun (-1) (nc.length+ic.length))]]) p q):=
 Xc.rel hp hq fun u v e1 e2=>by
  by_cases k:y<x
  ·exact Xc.one (by rw[ZC,ZG,Zc,e1,e2];exact Z2i k)
  ·obtain⟨d,hd,hh⟩:=Xc.one (l:=ctx nc ic++[1]) (p:=[]) (v:=vad (vsb v u) (vun (-1) (nc.length+ic.length))) (by rw[ZC,ZG,Zc,e1,e2];exact Z2i (Int.lt_iff_le_and_ne.mpr ⟨Int.not_lt.mp k,h⟩));exact⟨d,.tail _ hd,hh⟩
theorem LF.cs_ok(f:LF):(f.D nc ic->Xc (ctx nc ic++[1]) (f.cs nc.length (nc.length+ic.length) true))/\(¬f.D nc ic->Xc (ctx nc ic++[1]) (f.cs nc.length (nc.length+ic.length) false)):=by
 induction f with
 | le b x y=>
  cases b with
  | true=>exact⟨fun h=>Z3W (x.ok true) (y.ok true) (Int.ofNat_le.mpr h),fun h=>Z3Y (x.ok true) (y.ok true) (Int.ofNat_lt.mpr (Nat.lt_of_not_le h))⟩
  | false=>exact⟨fun h=>Z3W (x.ok false) (y.ok false) h,fun h=>Z3Y (x.ok false) (y.ok false) (Int.lt_of_not_ge h)⟩
 | lt b x y=>
  cases b with
  | true=>exact⟨fun h=>Z3Z (x.ok true) (y.ok true) (Int.ofNat_lt.mpr h),fun h=>Z3X (x.ok true) (y.ok true) (Int.ofNat_le.mpr (Nat.le_of_not_lt h))⟩
  | false=>exact⟨fun h=>Z3Z (x.ok false) (y.ok false) h,fun h=>Z3X (x.ok false) (y.ok false) (Int.not_lt.mp h)⟩
 | eq b x y=>
  cases b with
  | true=>exact⟨fun h=>Z40 (x.ok true) (y.ok true) (congrArg _ h),fun h=>Z41 (x.ok true) (y.ok true) fun q=>h (Int.ofNat_inj.mp q)⟩
  | false=>exact⟨fun h=>Z40 (x.ok false) (y.ok false) h,fun h=>Z41 (x.ok false) (y.ok false) h⟩
 | no p ih=>exact⟨ih.2,fun h=>ih.1 (Classical.not_not.mp h)⟩
 | an p q hp hq=>exact⟨fun h=>(hp.1 h.1).prod (hq.1 h.2),fun h=>(Classical.not_and_iff_not_or_not.mp h).elim (fun z=>(hp.2 z).l) fun z=>(hq.2 z).r⟩
 | or p q hp hq=>exact⟨fun h=>h.elim (fun z=>(hp.1 z).l) fun z=>(hq.1 z).r,fun h=>(hp.2 fun z=>h (.inl z)).prod (hq.2 fun z=>h (.inr z))⟩
 | im p q hp hq=>exact⟨fun h=>(Classical.em (p.D nc ic)).elim (fun z=>(hq.1 (h z)).r) fun z=>(hp.2 z).l,fun h=>(hp.1 (Classical.byContradiction fun z=>h fun w=>absurd w z)).prod (hq.2 fun z=>h fun u=>z)⟩
 | ff=>exact⟨fun h=>h.elim,fun u=>⟨_,.head _,fun u h=>nomatch h⟩⟩
noncomputable def LF.valid(N T:Nat)(f:LF):Bool:=(f.cs N T false).all fun d=>Z4t T (d++(List.range N).map (vun 1))
theorem lin(f:LF)(nc:List Nat)(ic:List Int)(h:f.valid nc.length (nc.length+ic.length)=true):f.D nc ic:=by
 refine Classical.byContradiction fun k=>?_;obtain⟨d,hd,hh⟩:=f.cs_ok.2 k;have hu:=List.all_eq_true.mp h d hd;rw[<-Z1b nc ic]at hu;refine Z3f (ctx nc ic) _ hu (hh.app fun v hv=>?_);obtain⟨i,hi,rfl⟩:=List.mem_map.mp hv;have hi:=List.mem_range.mp hi;rw[Z1a,Int.one_mul,ZW _ _ _ (by rw[Z1b];exact Nat.lt_of_lt_of_le hi (Nat.le_add_right _ _)),ctx,ZW _ _ _ (by rw[length_map];exact hi),Z2H];exact Int.natCast_nonneg _
end
end
noncomputable section
def pT:Nat->Nat->(LT->Nat->LF)->LF
 | 0,_,_=>.ff
 | f+1,n,k=>cond (Nat.blt (Nat.mod n 32) 22) (k (.v (Nat.mod n 32)) (Nat.div n 32)) <| cond (Nat.beq (Nat.mod n 32) 22) (pT f (Nat.div n 32) fun x r=>pT f r fun y r=>k (.a x y) r) <| cond (Nat.beq (Nat.mod n 32) 23) (pT f (Nat.div n 32) fun x r=>pT f r fun y r=>k (.s x y) r) <| cond (Nat.beq (Nat.mod n 32) 24) (k (.k (Nat.mod (Nat.div n 32) 32)) (Nat.div n 1024)) <| cond (Nat.beq (Nat.mod n 32) 25) (k (.k (Nat.mod (Nat.div n 32) 1099511627776)) (Nat.div n 35184372088832)) <| cond (Nat.beq (Nat.mod n 32) 26) (pT f (Nat.div n 1024) fun x r=>k (.m (Nat.mod (Nat.div n 32) 32) x) r) <| cond (Nat.beq (Nat.mod n 32) 27) (pT f (Nat.div n 32) fun x r=>k (.g x) r) <| cond (Nat.beq (Nat.mod n 32) 28) (pT f (Nat.div n 32) fun x r=>k (.c x) r) <| cond (Nat.beq (Nat.mod n 32) 29) (pT f (Nat.div n 32) fun x r=>pT f r fun y r=>k (.mx x y) r) (pT f (Nat.div n 32) fun x r=>pT f r fun y r=>k (.mn x y) r)
def pF:Nat->Nat->(LF->Nat->LF)->LF
 | 0,_,_=>.ff
 | f+1,n,k=>cond (Nat.beq (Nat.mod n 32) 9) (pF f (Nat.div n 32) fun x r=>pF f r fun y r=>k (.im x y) r) <| cond (Nat.blt (Nat.mod n 32) 6) (pT f (Nat.div n 32) fun x r=>pT f r fun y r=>k (cond (Nat.beq (Nat.mod n 32) 0) (.le true x y) <| cond (Nat.beq (Nat.mod n 32) 1) (.lt true x y) <| cond (Nat.beq (Nat.mod n 32) 2) (.eq true x y) <| cond (Nat.beq (Nat.mod n 32) 3) (.le false x y) <| cond (Nat.beq (Nat.mod n 32) 4) (.lt false x y) (.eq false x y)) r) <| cond (Nat.beq (Nat.mod n 32) 6) (pF f (Nat.div n 32) fun x r=>k (.no x) r) <| cond (Nat.beq (Nat.mod n 32) 7) (pF f (Nat.div n 32) fun x r=>pF f r fun y r=>k (.an x y) r) <| cond (Nat.beq (Nat.mod n 32) 8) (pF f (Nat.div n 32) fun x r=>pF f r fun y r=>k (.or x y) r) (k .ff (Nat.div n 32))
def lF(n:Nat):LF:=pF 40 n fun f z=>f
abbrev nD(n:Nat)(nc:List Nat):Prop:=(lF n).D nc []
abbrev iD(n:Nat)(ic:List Int):Prop:=(lF n).D [] ic
abbrev mD(n:Nat)(nc:List Nat)(ic:List Int):Prop:=(lF n).D nc ic
end
theorem ln(n:Nat)(nc:List Nat)(h:(lF n).valid nc.length (nc.length+0)=true:=by kernel_rfl!):nD n nc:=lin _ nc [] h
theorem li(n:Nat)(ic:List Int)(h:(lF n).valid 0 (0+ic.length)=true:=by kernel_rfl!):iD n ic:=lin _ [] ic h
set_option autoImplicit true
theorem lm(n:Nat)(nc:List Nat)(ic:List Int)(h:(lF n).valid nc.length (nc.length+ic.length)=true:=by kernel_rfl!):mD n nc ic:=lin _ nc ic h
theorem Np{a:Nat}(n:Nat)(h:(lF n).valid 1 1=true:=by kernel_rfl!):nD n [a]:=ln n [a] h
theorem Nq{a b:Nat}(n:Nat)(h:(lF n).valid 2 2=true:=by kernel_rfl!):nD n [a,b]:=ln n [a,b] h
theorem Nr{a b c:Nat}(n:Nat)(h:(lF n).valid 3 3=true:=by kernel_rfl!):nD n [a,b,c]:=ln n [a,b,c] h
theorem Ns1{a b c d:Nat}(n:Nat)(h:(lF n).valid 4 4=true:=by kernel_rfl!):nD n [a,b,c,d]:=ln n [a,b,c,d] h
theorem Nt{a b c d e:Nat}(n:Nat)(h:(lF n).valid 5 5=true:=by kernel_rfl!):nD n [a,b,c,d,e]:=ln n [a,b,c,d,e] h
theorem Jp{a:Int}(n:Nat)(h:(lF n).valid 0 1=true:=by kernel_rfl!):iD n [a]:=li n [a] h
theorem Jq{a b:Int}(n:Nat)(h:(lF n).valid 0 2=true:=by kernel_rfl!):iD n [a,b]:=li n [a,b] h
theorem Jr{a b c:Int}(n:Nat)(h:(lF n).valid 0 3=true:=by kernel_rfl!):iD n [a,b,c]:=li n [a,b,c] h
theorem Js{a b c d:Int}(n:Nat)(h:(lF n).valid 0 4=true:=by kernel_rfl!):iD n [a,b,c,d]:=li n [a,b,c,d] h
theorem Y6{a b c d:Nat}:a+min b (c-a)<=d->d<c->c-a<=b->1<=0:=lin (.im (.le true (.a (.v 0) (.mn (.v 1) (.s (.v 2) (.v 0)))) (.v 3)) (.im (.lt true (.v 3) (.v 2)) (.im (.le true (.s (.v 2) (.v 0)) (.v 1)) (.le true (.k 1) (.k 0))))) [a,b,c,d] [] (by kernel_rfl!)
theorem Y7{a b c:Nat}:a<b+1-min c (b+1)->b+1<=c->1<=0:=lin (.im (.lt true (.v 0) (.s (.a (.v 1) (.k 1)) (.mn (.v 2) (.a (.v 1) (.k 1))))) (.im (.le true (.a (.v 1) (.k 1)) (.v 2)) (.le true (.k 1) (.k 0)))) [a,b,c] [] (by kernel_rfl!)
theorem mid(a b:Nat):(a<=(a+b) / 2/\(a+b) / 2<b)\/(b<=(a+b) / 2/\(a+b) / 2<=a):=
 (Nat.lt_or_ge a b).elim (fun h=>.inl ⟨(Nat.le_div_iff_mul_le (by decide)).mpr (Nat.mul_two a▸Nat.add_le_add_left (Nat.le_of_lt h) a),Nat.div_lt_of_lt_mul (Nat.two_mul b▸Nat.add_lt_add_right h b)⟩)
  fun h=>.inr ⟨(Nat.le_div_iff_mul_le (by decide)).mpr (Nat.mul_two b▸Nat.add_le_add_right h b),Nat.div_le_of_le_mul (Nat.two_mul a▸Nat.add_le_add_left h a)⟩
theorem mid2(a b:Nat):(b-a) / 2<b-a\/(b<=a/\(b-a) / 2=0):=
 (Nat.lt_or_ge a b).elim (fun h=>.inl (Nat.div_lt_self (Nat.sub_pos_of_lt h) (by decide))) fun h=>.inr ⟨h,by rw[Nat.sub_eq_zero_of_le h]⟩
theorem Zh(t:Nat):t / 2+t / 2<=t:=by(first|lia|omega)
theorem Zi(t:Nat):t<=t / 2+t / 2+1:=by(first|lia|omega)
theorem Yb:nD 0x860b04230a44105809 [a,b,c,d]:=Ns1 _
theorem Yc:nD 0x41c0c16b84230a44105809 [a,b,c,d]:=Ns1 _
theorem Yd:nD 0x40008029 [a,b]:=Nq _
theorem Ye:nD 0x10e001001200e009 [a,b]:=Nq _
theorem Yg:iD 0x461010c9 [a,b]:=Jq _
theorem Yh:nD 0x860b00230244105809 [a,b,c,d]:=Ns1 _
theorem Yp:nD 0x860b00230a44105809 [a,b,c,d]:=Ns1 _
theorem Yq:nD 0x4380043805809 [a,b]:=Nq _
theorem Yr:iD 0x40308089 [a,b]:=Jq _
theorem Ys:nD 0x1c02c115ae20043805809 [a,b,c]:=Nr _
theorem Yt:nD 0x3805838062c0 [a]:=Np _
theorem Yu:nD 0x701c06c0b5c420e0360584148838062c1c06c0b5c09 [a,b,c]:=Nr _
theorem Yv:iD 0x10140121921010c9 [a,b]:=Jq _
theorem Yx:nD 0x701b0701c02d60043805809 [a,b]:=Nq _
theorem YA:nD 0x700b0700 [a]:=Np _
theorem YJ:nD 0x8001040908009 [a,b,c]:=Nr _
theorem YO:nD 0x4020040908009 [a,b]:=Nq _
theorem YQ{a b c d e f g:Nat}:nD 0x4605823281252012118522082c04870635ac525809292c635809 [a,b,c,d,e,f,g]:=ln _ _
theorem YR:∀{a b c d e f:Nat},a+b<=c->d<b->e<=f->f<=d->a+(e+f) / 2<c:=fun h0 h1 h2 h3=>YQ (Zh _) (Zi _) h0 h1 h2 h3
theorem YT:∀{a b:Nat},¬a>=b->a<=(a+b) / 2:=fun h0=>(Nr 0x800004064870215ac105809082c215809) (Zh _) (Zi _) h0
theorem YV:∀{a b c:Nat},a<=b->b<=c->(a+b) / 2<=c:=fun h0 h1=>(Ns1 0x430082048400487031dac105809082c31d809) (Zh _) (Zi _) h0 h1
theorem YW:∀{a b c d:Nat},a-b<=c-d->(b+a) / 2-b<=c-(d+1):=fun{a b _ _} h=>(Nt 0x3825877006e020ee015c0900401100e20842001d09) (mid b a) h
theorem YY:∀{a b c:Nat},a<=a+(b+c) / 2:=(Ns1 0x182c0007031dac20d809106c31d809) (Zh _) (Zi _)
theorem Y10:∀{a b c d:Nat},(a+b) / 2<=c->d+(a+b) / 2<=d+c:=fun h0=>(Nt 0x43b1076008804870425ac105809082c425809) (Zh _) (Zi _) h0
theorem Y11:nD 0x45600ac108029 [a,b,c]:=Nr _
theorem Y14:∀{a b:Nat},¬a>=b->(a+b) / 2+1<=b:=fun h0=>(Nr 0x21c0ac0004064870215ac105809082c215809) (Zh _) (Zi _) h0
theorem Y15:nD 0x40008009 [a,b]:=Nq _
theorem Y16:∀{a b c d:Nat},a-b<=c-d->a-((b+a) / 2+1)<=c-(d+1):=fun{a b _ _} h=>(Nt 0x1c12c3b8701b0ae020ee015c0900401100e20842001d09) (mid b a) h
theorem Y17:nD 1071104 [a,b]:=Nq _
theorem Y19:∀{a b c d:Nat},a<(b+c) / 2+1->d+a<=d+(b+c) / 2:=fun h0=>(Nt 0x41d803b0038258014870425ac20d809106c425809) (Zh _) (Zi _) h0
theorem Y1b:∀{a b c d:Nat},a<=b->¬c>=a->d+(c+a) / 2<d+b:=fun h0 h1=>(Nt 0x47620ec110006484004870425ac01580900ac425809) (Zh _) (Zi _) h0 h1
theorem Y1d{a b c:Nat}:a<=b->b-a<=c-max 0 c->a=b:=lin (.im (.le true (.v 0) (.v 1)) (.im (.le true (.s (.v 1) (.v 0)) (.s (.v 2) (.mx (.k 0) (.v 2)))) (.eq true (.v 0) (.v 1)))) [a,b,c] [] (by kernel_rfl!)
theorem Y1f:nD 0x416102c105ae0 [a,b,c]:=Nr _
theorem Y1i:nD 0x8ac01584608029 [a,b,c]:=Nr _
theorem Y1j:nD 0x18ac01580015822b04e608029 [a,b,c,d]:=Ns1 _
theorem Y1m:nD 0x45600ac208049 [a,b,c]:=Nr _
theorem Y1n:nD 0xac11584608029 [a,b,c]:=Nr _
theorem Y1o:nD 0x40b041600416182c13846148702b02c105829 [a,b,c,d]:=Ns1 _
theorem Y1r{a b c d:Nat}{e f:Int}:mD 0x4031882918449102c105809 [a,b,c,d] [e,f]:=lm _ _ _
theorem Y1s:nD 0x380dc0008029 [a,b]:=Nq _
theorem Y1C:∀{a b c:Nat},a<=b->¬c>=a->c+(a-c) / 2<b:=fun h0 h1=>(Ns1 0x118ac11000648400487031dac205c09102e31d809) (Zh _) (Zi _) h0 h1
theorem Y1E:∀{a b:Nat},¬a>=b->a+(b-a) / 2+1<=b:=fun h0=>(Nr 0x870205ac0004064870215ac00dc09006e215809) (Zh _) (Zi _) h0
theorem Y1F:∀{a b c d:Nat},a-b<=c-d->a-(b+(a-b) / 2+1)<=c-(d+1):=fun h=>(Nt 0x703b0ae1c1036b02e018ae105c09) h
theorem Y1H:∀{a b c:Nat},a<b+(c-b) / 2+1->a<=b+(c-b) / 2:=fun h0=>(Ns1 0x30d8000e061b5801487031dac115c0908ae31d809) (Zh _) (Zi _) h0
theorem Y1J:∀{a b:Nat},a<=a+(b-a) / 2:=(Nr 0x102c00070215ac00dc09006e215809) (Zh _) (Zi _)
theorem Y1L:∀{a b c:Nat},a<=b->¬c>=a->c+(a-c) / 2<=b:=fun h0 h1=>(Ns1 0x118ac01000648400487031dac205c09102e31d809) (Zh _) (Zi _) h0 h1
theorem Y1M:∀{a b c d:Nat},a-b<=c-d->b+(a-b) / 2-b<=c-(d+1):=fun{a b _ _} h=>(Nt 0x704b0ee200ad701077106e048300108203883700509) (mid2 b a) h
theorem Y1N:nD 1835777 []:=ln _ _
theorem Y1P:nD 0xe038062c0 []:=ln _ _
theorem Y1R:nD 0xe002d5801 [a]:=Np _
theorem Y1T:nD 0x1c045ab0701c02d60043805809 [a,b]:=Nq _
theorem Y1U{a b c:Nat}:max 0 a+1<=b->a-c<=b:=lin (.im (.le true (.a (.mx (.k 0) (.v 0)) (.k 1)) (.v 1)) (.le true (.s (.v 0) (.v 2)) (.v 1))) [a,b,c] [] (by kernel_rfl!)
theorem Y1V{a b c d:Nat}:a<b->a<c-d->d+a+1<=d+min b (c-d):=lin (.im (.lt true (.v 0) (.v 1)) (.im (.lt true (.v 0) (.s (.v 2) (.v 3))) (.le true (.a (.a (.v 3) (.v 0)) (.k 1)) (.a (.v 3) (.mn (.v 1) (.s (.v 2) (.v 3))))))) [a,b,c,d] [] (by kernel_rfl!)
theorem Y1W{a b c d:Nat}:a<b-c->c+min d (b-c)<=b:=lin (.im (.lt true (.v 0) (.s (.v 1) (.v 2))) (.le true (.a (.v 2) (.mn (.v 3) (.s (.v 1) (.v 2)))) (.v 1))) [a,b,c,d] [] (by kernel_rfl!)
theorem Y1Z:∀{a b c d:Nat} {e:Prop},a+min b (c-a)<=d->d<c->c-a<=b->e:=fun a b c=>absurd (show 1<=0 from Y6 a b c) (by decide)
theorem Y20{a b c d:Nat}:a+min b (c-a)<=d->d<c->a+b<=d:=lin (.im (.le true (.a (.v 0) (.mn (.v 1) (.s (.v 2) (.v 0)))) (.v 3)) (.im (.lt true (.v 3) (.v 2)) (.le true (.a (.v 0) (.v 1)) (.v 3)))) [a,b,c,d] [] (by kernel_rfl!)
theorem Y22:nD 0x1102e108029 [a,b,c]:=Nr _
theorem Y24{a b c:Nat}:a<b->max 0 b+1<=c->a+1<=c:=lin (.im (.lt true (.v 0) (.v 1)) (.im (.le true (.a (.mx (.k 0) (.v 1)) (.k 1)) (.v 2)) (.le true (.a (.v 0) (.k 1)) (.v 2)))) [a,b,c] [] (by kernel_rfl!)
theorem Y25{a b c:Nat}:a<b->c+1-min b (c+1)<=c-a:=lin (.im (.lt true (.v 0) (.v 1)) (.le true (.s (.a (.v 2) (.k 1)) (.mn (.v 1) (.a (.v 2) (.k 1)))) (.s (.v 2) (.v 0)))) [a,b,c] [] (by kernel_rfl!)
theorem Y27:∀{a b c:Nat} {d:Prop},a<b+1-min c (b+1)->b+1<=c->d:=fun a b=>absurd (show 1<=0 from Y7 a b) (by decide)
theorem Y28{a b c:Nat}:a<b+1-min c (b+1)->a<=b-c:=lin (.im (.lt true (.v 0) (.s (.a (.v 1) (.k 1)) (.mn (.v 2) (.a (.v 1) (.k 1))))) (.le true (.v 0) (.s (.v 1) (.v 2)))) [a,b,c] [] (by kernel_rfl!)
theorem Y29:nD 0x8011042908009 [a,b,c]:=Nr _
theorem Y2c{a b c d:Nat}:a<min b (c-d)->a<b:=lin (.im (.lt true (.v 0) (.mn (.v 1) (.s (.v 2) (.v 3)))) (.lt true (.v 0) (.v 1))) [a,b,c,d] [] (by kernel_rfl!)
theorem Y2d{a b c d e:Nat}:a+b<min c (d-e)->a+b<c:=lin (.im (.lt true (.a (.v 0) (.v 1)) (.mn (.v 2) (.s (.v 3) (.v 4)))) (.lt true (.a (.v 0) (.v 1)) (.v 2))) [a,b,c,d,e] [] (by kernel_rfl!)
theorem Y2h:iD 0xd876308069 [a,b]:=Jq _
theorem Y2i{a b:Nat}:a<=b->min a b=a:=lin (.im (.le true (.v 0) (.v 1)) (.eq true (.mn (.v 0) (.v 1)) (.v 0))) [a,b] [] (by kernel_rfl!)
theorem Y2j:nD 0x1b86e208009 [a,b]:=Nq _
theorem Y2k{a b c d e:Nat}:a<=b->c<=d->e+(min a b+min c d)=b+d->e+a+c=b+d:=lin (.im (.le true (.v 0) (.v 1)) (.im (.le true (.v 2) (.v 3)) (.im (.eq true (.a (.v 4) (.a (.mn (.v 0) (.v 1)) (.mn (.v 2) (.v 3)))) (.a (.v 1) (.v 3))) (.eq true (.a (.a (.v 4) (.v 0)) (.v 2)) (.a (.v 1) (.v 3)))))) [a,b,c,d,e] [] (by kernel_rfl!)
theorem Y2r:nD 33587273 [a,b]:=Nq _
theorem Y2s:nD 0x40008049 [a,b]:=Nq _
theorem Y2t:nD 0x400880908049 [a,b,c]:=Nr _
theorem Y2w{a b c d e f:Nat}:nD 0x8200c36bdc250e009290491884908049 [a,b,c,d,e,f]:=ln _ _
theorem Y2G:nD 0x3805c200e009 [a]:=Np _
theorem Y2H:nD 0x4006041b88c908049 [a,b,c]:=Nr _
theorem Y2M{a b c:Nat}:a=b->c<=b->min c a=c:=lin (.im (.eq true (.v 0) (.v 1)) (.im (.le true (.v 2) (.v 1)) (.eq true (.mn (.v 2) (.v 0)) (.v 2)))) [a,b,c] [] (by kernel_rfl!)
theorem Y2P{a b c d e f g:Nat}:a=b->c=d->e<=d->f=a-g+min e c->f=b-g+e:=lin (.im (.eq true (.v 0) (.v 1)) (.im (.eq true (.v 2) (.v 3)) (.im (.le true (.v 4) (.v 3)) (.im (.eq true (.v 5) (.a (.s (.v 0) (.v 6)) (.mn (.v 4) (.v 2)))) (.eq true (.v 5) (.a (.s (.v 1) (.v 6)) (.v 4))))))) [a,b,c,d,e,f,g] [] (by kernel_rfl!)
theorem Y2Q{a b c d e f g h:Nat}:nD 0x1c18286d6b00c515ec7124660241828ae232483b0ac1b0049 [a,b,c,d,e,f,g,h]:=ln _ _
theorem Y2T:nD 0x21c000112418008c9 [a,b]:=Nq _
theorem Y2Z:nD 0x20d802106c009921c0ac1b0029 [a,b,c]:=Nr _
theorem Y30:nD 0x1c0836b80020d80232441b0009 [a,b,c]:=Nr _
theorem Y31:nD 0x8360e041b5c220d80232441b0009 [a,b,c]:=Nr _
theorem Y32:iD 0x4430086908069 [a,b,c]:=Jr _
theorem Y33:iD 0x8031046908069 [a,b,c]:=Jr _
theorem Y34:nD 0x4110700b08291040908009 [a,b,c]:=Nr _
theorem Y36{a b:Nat}:a+1<b->min a b=a:=lin (.im (.lt true (.a (.v 0) (.k 1)) (.v 1)) (.eq true (.mn (.v 0) (.v 1)) (.v 0))) [a,b] [] (by kernel_rfl!)
theorem Y37:nD 0x200843805829 [a,b]:=Nq _
theorem Y38:nD 0x380d80008049 [a,b]:=Nq _
theorem Y3b:nD 58742784 [a]:=Np _
theorem Y3c{a b c d e f g:Nat}:nD 0x1856058b6312c5b0861b10491884908049 [a,b,c,d,e,f,g]:=ln _ _
theorem Y3i{a b c:Nat}:¬a<b->min b c<=a:=lin (.im (.no (.lt true (.v 0) (.v 1))) (.le true (.mn (.v 1) (.v 2)) (.v 0))) [a,b,c] [] (by kernel_rfl!)
theorem Y3j{a b c d:Nat}:a+b<=c->d=c->min b (d-a)=b:=lin (.im (.le true (.a (.v 0) (.v 1)) (.v 2)) (.im (.eq true (.v 3) (.v 2)) (.eq true (.mn (.v 1) (.s (.v 3) (.v 0))) (.v 1)))) [a,b,c,d] [] (by kernel_rfl!)
theorem Y3l{a b c:Nat}:a<min b c->a<b:=lin (.im (.lt true (.v 0) (.mn (.v 1) (.v 2))) (.lt true (.v 0) (.v 1))) [a,b,c] [] (by kernel_rfl!)
theorem Y3p{a b c d e:Nat}:a=b->1<=c->c<=b-d->d+min (b-d) e<=a:=lin (.im (.eq true (.v 0) (.v 1)) (.im (.le true (.k 1) (.v 2)) (.im (.le true (.v 2) (.s (.v 1) (.v 3))) (.le true (.a (.v 3) (.mn (.s (.v 1) (.v 3)) (.v 4))) (.v 0))))) [a,b,c,d,e] [] (by kernel_rfl!)
theorem Y3q{a b c d:Nat}:a<=b-c->a<d->a<=min (b-c) d:=lin (.im (.le true (.v 0) (.s (.v 1) (.v 2))) (.im (.lt true (.v 0) (.v 3)) (.le true (.v 0) (.mn (.s (.v 1) (.v 2)) (.v 3))))) [a,b,c,d] [] (by kernel_rfl!)
theorem Y3r{a b c d:Nat}:1<=a->a<=b-c->a<d->1<=min (b-c) d:=lin (.im (.le true (.k 1) (.v 0)) (.im (.le true (.v 0) (.s (.v 1) (.v 2))) (.im (.lt true (.v 0) (.v 3)) (.le true (.k 1) (.mn (.s (.v 1) (.v 2)) (.v 3)))))) [a,b,c,d] [] (by kernel_rfl!)
theorem Y3s{a b c:Nat}:1<=min (a-b) c->b+min (a-b) c<=a:=lin (.im (.le true (.k 1) (.mn (.s (.v 0) (.v 1)) (.v 2))) (.le true (.a (.v 1) (.mn (.s (.v 0) (.v 1)) (.v 2))) (.v 0))) [a,b,c] [] (by kernel_rfl!)
theorem Y3w{a b c:Nat}:max 0 a<=b->b+c=a->c=0:=lin (.im (.le true (.mx (.k 0) (.v 0)) (.v 1)) (.im (.eq true (.a (.v 1) (.v 2)) (.v 0)) (.eq true (.v 2) (.k 0)))) [a,b,c] [] (by kernel_rfl!)
theorem Y3x{a b c:Nat}:max 0 a<=b->b+c=a->b=a:=lin (.im (.le true (.mx (.k 0) (.v 0)) (.v 1)) (.im (.eq true (.a (.v 1) (.v 2)) (.v 0)) (.eq true (.v 1) (.v 0)))) [a,b,c] [] (by kernel_rfl!)
theorem Y3A:∀{a:Nat},¬a<=1->Nat.succ (a-2)<a:=by intros;(first|lia|omega)
theorem Y3B{a b c d:Nat}:a<=max 1 (b-c)->d+1=a->d<=max 1 (b-(c+1)):=lin (.im (.le true (.v 0) (.mx (.k 1) (.s (.v 1) (.v 2)))) (.im (.eq true (.a (.v 3) (.k 1)) (.v 0)) (.le true (.v 3) (.mx (.k 1) (.s (.v 1) (.a (.v 2) (.k 1))))))) [a,b,c,d] [] (by kernel_rfl!)
theorem Y3C{a b:Nat}:a<=max 1 (b-max 0 b)->a<=1:=lin (.im (.le true (.v 0) (.mx (.k 1) (.s (.v 1) (.mx (.k 0) (.v 1))))) (.le true (.v 0) (.k 1))) [a,b] [] (by kernel_rfl!)
theorem Y3D{a b c:Nat}:a=b->c<=a->c<=max 1 (b-0):=lin (.im (.eq true (.v 0) (.v 1)) (.im (.le true (.v 2) (.v 0)) (.le true (.v 2) (.mx (.k 1) (.s (.v 1) (.k 0)))))) [a,b,c] [] (by kernel_rfl!)
theorem Y3G:nD 0x800000640000000186a0c8009 [a]:=Np _
theorem Y3I:∀{a:Nat} {b:Prop},a+1+1<2->b:=by intros;(first|lia|omega)
theorem Y3J:nD 0x2c0058004c9 [a]:=Np _
theorem Y3L{a b c d e f:Int}:iD 0x1444200a72008828c84094e40910918881014e101109 [a,b,c,d,e,f]:=li _ _
theorem Y3M{a b c d e f:Int}:iD 0x1444200a72008828c64094e40910918881014e101109 [a,b,c,d,e,f]:=li _ _
theorem Y3N:iD 0x423000a700088 [a,b]:=Jq _
theorem Y3Q:nD 0xc35064200044900000186a0c8009 [a,b]:=Nq _
theorem Y3R:nD 0x206021109201600908049 [a,b,c]:=Nr _
theorem Y3S:iD 0x48608069 [a,b]:=Jq _
theorem Y3T:nD 0x4020802648701b0029 [a,b]:=Nq _
theorem Y3U:nD 0x380dc010e037008c908029 [a,b]:=Nq _
theorem Y3V:nD 0x200043805809 [a,b]:=Nq _
theorem Y3W:nD 0x380d80108029 [a,b]:=Nq _
theorem Y3X:nD 58742785 [a]:=Np _
theorem Y40:nD 0x200843805809 [a,b]:=Nq _
theorem Y41:nD 0x200041805849 [a,b]:=Nq _
theorem Y42:∀{a b:Nat} {c:Prop},a+0=b->a<b->c:=by intros;(first|lia|omega)
theorem Y43:nD 0x100220e03605849 [a,b,c]:=Nr _
theorem Y44:nD 0x83805c220e03605849 [a,b,c]:=Nr _
theorem Y45:nD 0x100020e03605849 [a,b,c]:=Nr _
theorem Y46:nD 0x208700b58420e03605849 [a,b,c]:=Nr _
theorem Y48:nD 0x1c0456bdc4008029 [a,b,c]:=Nr _
theorem Y4b:nD 0x20842001cc1000c9 [a,b,c]:=Nr _
theorem Y4c:nD 0x421000c9 [a,b]:=Nq _
theorem Y4f:∀{a b c d e:Nat} {f g:Prop},a<=b->b<c->c<a+1->d<e/\f/\g:=by intros;(first|lia|omega)
theorem Y4g:nD 0x110700b042908009 [a,b]:=Nq _
theorem Y4k:nD 0x21c06e108029 [a,b]:=Nq _
theorem Y4m:nD 0x438058370843805809 [a,b]:=Nq _
theorem Y4o:nD 0xe018b02e100700c5809 [a]:=Np _
theorem Y4q:nD 0x10020060071042908029 [a,b,c]:=Nr _
theorem Y4r:nD 0x80200600708029 [a,b]:=Nq _
theorem Y4s:nD 0x3810316bdc21c0818b5ee11042908029 [a,b,c]:=Nr _
theorem Y4t:nD 0x441c0418b5ee108029 [a,b,c]:=Nr _
theorem Y4u:nD 0x401b82c208009 [a,b]:=Nq _
theorem Y4y:∀{a b:Nat} {c:Prop},a<b->b<1->c:=by intros;(first|lia|omega)
theorem Y4F:∀{a b c d:Nat} {e f:Prop},1<=a->a<b->b<1+1->c<d/\e/\f:=by intros;(first|lia|omega)
theorem Y4K:∀{a b c d:Nat},a<b->c<=d->d<=a->(c+d) / 2<b:=fun h0 h1 h2=>(Nt 0x240806048c40484014870425ac31580918ac425809) (Zh _) (Zi _) h0 h1 h2
theorem Y4M:∀{a b:Nat},a<=b->a<=(a+b) / 2:=fun h0=>(Nr 0x40004004870215ac105809082c215809) (Zh _) (Zi _) h0
theorem Y4N:∀{a b c:Nat},a-b<=c+1->(b+a) / 2-b<=c:=fun{a b _} h=>(Ns1 0x600dc01c0ec015c0900401100e20842001d09) (mid b a) h
theorem Y4P:∀{a b c:Nat},(a+b) / 2<=c->¬c=(a+b) / 2->(a+b) / 2<c:=fun h0 h1=>(Ns1 0x8611884648860487031dac105809082c31d809) (Zh _) (Zi _) h0 h1
theorem Y4Q:∀{a b c:Nat},a-b<=c+1->a-((b+a) / 2+1)<=c:=fun{a b _} h=>(Ns1 0x30e03615c01c0ec015c0900401100e20842001d09) (mid b a) h
theorem Y4S:∀{a b c:Nat},a<(b+c) / 2+1->¬a=(b+c) / 2->a<(b+c) / 2:=fun h0 h1=>(Ns1 0x6008c02324381d801487031dac20d809106c31d809) (Zh _) (Zi _) h0 h1
theorem Y4W:nD 0x8011044908029 [a,b,c]:=Nr _
theorem Y5b:∀{a:Nat} {b:Prop},a<0->b:=by intros;(first|lia|omega)
theorem Y5c:∀{a b:Nat} {c:Prop},a<=b->b<a->c:=by intros;(first|lia|omega)
theorem Y5e{a:Nat}:1<=a->max a 1=a:=lin (.im (.le true (.k 1) (.v 0)) (.eq true (.mx (.v 0) (.k 1)) (.v 0))) [a] [] (by kernel_rfl!)
theorem Y5f:∀{a b c d:Int},¬(a<b\/a=b/\c<d)↔b<a\/b=a/\d<=c:=⟨fun a=>(Js 0x10c60094e0091031102029c20220c9) a,fun a=>(Js 0x10c80094e00910618861014e101109) a⟩
theorem Y5k:nD 0x8380e036b02e20e0560e03605c49 [a,b,c]:=Nr _
theorem Y5q:nD 0x4410082908049 [a,b,c]:=Nr _
theorem Y5t:nD 0x208700b58020e03605809 [a,b,c]:=Nr _
theorem Y5u:∀{a b:Nat},a+Nat.succ b=a+1+b:=by intros;(first|lia|omega)
theorem Y5v:nD 25194630 [a]:=Np _
theorem Y5w{a b:Nat}:a<=b->max 0 (min (↑a:Int) (↑b:Int))=(↑a:Int):=lin (.im (.le true (.v 0) (.v 1)) (.eq false (.mx (.k 0) (.mn (.c (.v 0)) (.c (.v 1)))) (.c (.v 0)))) [a,b] [] (by kernel_rfl!)
theorem Y5x:nD 0x401b82c008009 [a,b]:=Nq _
theorem Y5y:∀{a b:Nat},a<2 ^ 62->b=a->(↑b:Int)<2 ^ 63:=by intros;(first|lia|omega)
theorem Y5z:nD 0x8000006420004490000000040c8029 [a,b]:=Nq _
theorem Y5D{a b c:Nat}:a<64->b=min c a->b<=64:=lin (.im (.lt true (.v 0) (.k 64)) (.im (.eq true (.v 1) (.mn (.v 2) (.v 0))) (.le true (.v 1) (.k 64)))) [a,b,c] [] (by kernel_rfl!)
theorem Y5K:nD 0x410882908049 [a,b,c]:=Nr _
theorem Y5L:nD 0x4400084908009 [a,b,c]:=Nr _
theorem Y5M:nD 918275 [a]:=Np _
theorem Y5Q:nD 0x421c0ac105c49 [a,b,c]:=Nr _
theorem Y5R:nD 0x20e03605c41c0ac105c49 [a,b,c]:=Nr _
theorem Y5S:nD 0x380d801c0ac105c49 [a,b,c]:=Nr _
theorem Y5T{a b c d e:Nat}:a+1+min b c<d->e<=b->a+1+min e c<d:=lin (.im (.lt true (.a (.a (.v 0) (.k 1)) (.mn (.v 1) (.v 2))) (.v 3)) (.im (.le true (.v 4) (.v 1)) (.lt true (.a (.a (.v 0) (.k 1)) (.mn (.v 4) (.v 2))) (.v 3)))) [a,b,c,d,e] [] (by kernel_rfl!)
theorem Y5X:nD 787203 []:=ln _ _
theorem Y5Y:nD 1835779 []:=ln _ _
theorem Y60:nD 2884355 []:=ln _ _
theorem Y62:nD 3932931 []:=ln _ _
theorem Y64:nD 4981507 []:=ln _ _
theorem Y67:∀{a:Nat},Int.toNat (-1+((↑a:Int)+1))=a:=by intros;(first|lia|omega)
theorem Y69:∀{a b:Nat},a*b<=16777216->a*b+a*0<=16777216:=by intros;(first|lia|omega)
theorem Y6a:∀{a:Int} {b:Nat},0<=a->a<(↑b:Int)->Int.toNat a<b:=by intros;(first|lia|omega)
theorem Y6c{a:Nat}:a<9000->a+min 0 0<9900:=lin (.im (.lt true (.v 0) (.k 9000)) (.lt true (.a (.v 0) (.mn (.k 0) (.k 0))) (.k 9900))) [a] [] (by kernel_rfl!)
theorem Y6h:∀{a:Nat} {b c:Int},a<Int.toNat (b-c)->0<(↑(Int.toNat (b-c)):Int)-(↑a:Int):=by intros;(first|lia|omega)
theorem Y6i{a:Int}{b:Nat}:mD 0x700b70160e01c05ac5 [b] [a]:=lm _ _ _
theorem Y6j:∀{a b:Int} {c:Nat},(↑(Int.toNat (a-b)):Int)-(↑c:Int)-1=(↑(Int.toNat (a-b)):Int)-(↑(c+1):Int):=by intros;(first|lia|omega)
theorem Y6k:∀{a b:Int} {c:Nat},Int.toNat (a-b)<=c->(↑(Int.toNat (a-b)):Int)-(↑c:Int)<=0:=by intros;(first|lia|omega)
theorem Y6l:∀{a:Nat},a<2 ^ 62->¬(↑a:Int)>=2 ^ 63:=by intros;(first|lia|omega)
theorem Y6o{a b c:Nat}:a<=b->c<=b->max a c<=b:=lin (.im (.le true (.v 0) (.v 1)) (.im (.le true (.v 2) (.v 1)) (.le true (.mx (.v 0) (.v 2)) (.v 1)))) [a,b,c] [] (by kernel_rfl!)
theorem Y6p{a b c:Nat}:a+b<c->a+min b b<c:=lin (.im (.lt true (.a (.v 0) (.v 1)) (.v 2)) (.lt true (.a (.v 0) (.mn (.v 1) (.v 1))) (.v 2))) [a,b,c] [] (by kernel_rfl!)
theorem Y6s:nD 0x41c06c0b84010a44105c49 [a,b,c]:=Nr _
theorem Y6v:∀{a:Int},-2 ^ 63<=a->a<2 ^ 63->-9223372036854775808<=a/\a<9223372036854775808:=by intros;(first|lia|omega)
theorem Y6x{a b:Nat}:a<9000->a+3+1+min b (max 0 (max 0 0)+1)<9900:=lin (.im (.lt true (.v 0) (.k 9000)) (.lt true (.a (.a (.a (.v 0) (.k 3)) (.k 1)) (.mn (.v 1) (.a (.mx (.k 0) (.mx (.k 0) (.k 0))) (.k 1)))) (.k 9900))) [a,b] [] (by kernel_rfl!)
theorem Y6y:nD 0x80000064000000002710c8009 [a]:=Np _
theorem Y6z{a b:Nat}:a<9000->a+3+1+min b 0<9900:=lin (.im (.lt true (.v 0) (.k 9000)) (.lt true (.a (.a (.a (.v 0) (.k 3)) (.k 1)) (.mn (.v 1) (.k 0))) (.k 9900))) [a,b] [] (by kernel_rfl!)
theorem Y6A{a:Nat}:a<9000->a+1+min (max 0 (max 0 0)) 0<9900:=lin (.im (.lt true (.v 0) (.k 9000)) (.lt true (.a (.a (.v 0) (.k 1)) (.mn (.mx (.k 0) (.mx (.k 0) (.k 0))) (.k 0))) (.k 9900))) [a] [] (by kernel_rfl!)
theorem Y6C:nD 0x3cc800000000007990e03605809 [a,b]:=Nq _
theorem Y6D:nD 0x8000006400000000003cc8009 [a]:=Np _
theorem Y6F:∀{a:Nat},a<=1000->a<2 ^ 62:=by intros;(first|lia|omega)
theorem Y6I:nD 0x800000640000000003e8c8009 [a]:=Np _
theorem Y6L:nD 0x110438058424843805829 [a,b,c]:=Nr _
theorem Y6M:nD 0x200845805829 [a,b]:=Nq _
theorem Y6N:nD 0x8702b0438058424845805829 [a,b,c]:=Nr _
theorem Y6O:nD 0x138864000000002328c8009 [a]:=Np _
theorem Y6P:∀{a b:Nat},a<=9000->b<a->(↑b:Int)<2 ^ 63:=by intros;(first|lia|omega)
theorem Y6Q:nD 0x7d032108f00b04490000001b58c8029 [a,b]:=Nq _
theorem Y6S{a b:Nat}:a<9000->a+1+min b 0<9900:=lin (.im (.lt true (.v 0) (.k 9000)) (.lt true (.a (.a (.v 0) (.k 1)) (.mn (.v 1) (.k 0))) (.k 9900))) [a,b] [] (by kernel_rfl!)
theorem Y6T:nD 0x8ca32108f00b04490000001b58c8029 [a,b]:=Nq _
theorem Y6W:nD 0x6d632108f00b04490000001af4c8029 [a,b]:=Nq _
theorem Y6X:nD 0x8ca32108f00b04490000001af4c8029 [a,b]:=Nq _
theorem Y6Y:nD 0x10e0160845805829 [a,b]:=Nq _
theorem Y6Z:nD 0x200847805829 [a,b]:=Nq _
theorem Y70:nD 0x6bd32108f00b04490000001a90c8029 [a,b]:=Nq _
theorem Y71:nD 0x8b02b0438058424847805829 [a,b,c]:=Nr _
theorem Y75{a b:Int}{c d:Nat}:mD 0x1008010840431c012212100401218e101109 [c,d] [a,b]:=lm _ _ _
theorem Y77:nD 0x10043c07089 [a,b]:=Nq _
theorem Y78:nD 0x200849805829 [a,b]:=Nq _
theorem Y79:nD 0x8b02b0438058424849805829 [a,b,c]:=Nr _
theorem Y7a:nD 0x6d632108f00b04490000001a2cc8029 [a,b]:=Nq _
theorem Y7d:nD 0x110438058424849805829 [a,b,c]:=Nr _
theorem Y7f:nD 0x119464000000002327c8009 [a]:=Np _
theorem Y7g{a b:Int}:a<b->max a b=b:=lin (.im (.lt false (.v 0) (.v 1)) (.eq false (.mx (.v 0) (.v 1)) (.v 1))) [] [a,b] (by kernel_rfl!)
theorem Y7h{a b:Int}:¬a<b->max a b=a:=lin (.im (.no (.lt false (.v 0) (.v 1))) (.eq false (.mx (.v 0) (.v 1)) (.v 0))) [] [a,b] (by kernel_rfl!)
theorem Y7q:nD 0x3e8c800cc0009 [a]:=Np _
theorem Y7w:nD 0x1000000c801ec0009 [a]:=Np _
theorem Y7A:nD 0x8ca32108f00b04490000001a90c8029 [a,b]:=Nq _
theorem Y7D:nD 0x35219104780d84248b00b04090000001a2cc8029 [a,b,c]:=Nr _
theorem Y7F:nD 0x1e64000000000028c8009 [a]:=Np _
theorem Y7H{a b:Int}{c d:Nat}{e:Int}{f:Nat}:mD 0x800100a71008810402094e20910908001014e101109 [c,d,f] [a,b,e]:=lm _ _ _
theorem Y7I{a b:Int}{c d:Nat}:mD 0x20004a70048808001014e101108 [c,d] [a,b]:=lm _ _ _
theorem Y7J{a b:Nat}{c d:Int}:mD 0x100401218e1011010002029c2022121008c9 [a,b] [c,d]:=lm _ _ _
theorem Y7K:nD 0x11946420004090000002328c8009 [a,b]:=Nq _
theorem Y7M:nD 0x380d80008009 [a,b]:=Nq _
theorem Y7N:nD 0x38158001040908009 [a,b,c]:=Nr _
theorem Y7Q:nD 0x1c0ac00082048701b0009 [a,b,c]:=Nr _
theorem Y7S{a:Int}{b:Nat}:mD 0x3805b802001819c1c01000c0ce9 [b] [a]:=lm _ _ _
theorem Y7U:nD 0x1e6400000000003bc8009 [a]:=Np _
theorem Y7W:∀{a:Nat},a<=1000->(↑a:Int)<2 ^ 63:=by intros;(first|lia|omega)
theorem Y7Y:∀{a:Int},a<7->Int.toNat a<7:=by intros;(first|lia|omega)
theorem Y7Z:∀{a:Int},a<7->a<2 ^ 63:=by intros;(first|lia|omega)
theorem Y82:∀{a:Int},0<=a->-2 ^ 63<=a:=by intros;(first|lia|omega)
theorem Y84:∀{a:Int},0<=a->a=(↑(Int.toNat a):Int):=by intros;(first|lia|omega)
theorem Y86:∀{a:Nat} {b:Int},a=9->b<9->Int.toNat b<a:=by intros;(first|lia|omega)
theorem Y87:∀{a:Int},a<9->a<2 ^ 63:=by intros;(first|lia|omega)
theorem Y89:∀{a:Int},0<=a->1+a=(↑(Int.toNat (1+a)):Int):=by intros;(first|lia|omega)
theorem Y8a:∀{a:Nat},-2 ^ 62<=(↑a:Int):=by intros;(first|lia|omega)
theorem Y8d:nD 0x21c02c008029 [a,b]:=Nq _
theorem Y8g{a:Nat}:a<=1->max 0 (max 0 (max (a+1) 0))+1<=4:=lin (.im (.le true (.v 0) (.k 1)) (.le true (.a (.mx (.k 0) (.mx (.k 0) (.mx (.a (.v 0) (.k 1)) (.k 0)))) (.k 1)) (.k 4))) [a] [] (by kernel_rfl!)
theorem Y8h:nD 0x4d5990e03605824c04090000002328c8029 [a,b]:=Nq _
theorem Y8o:∀{a:Int},a<26->a<2 ^ 63:=by intros;(first|lia|omega)
theorem Y8q:∀{a:Int},a<26->Int.toNat a<26:=by intros;(first|lia|omega)
theorem Y8t{a b:Nat}:¬a<=b->max 0 (min (↑a:Int) (↑b:Int))=(↑b:Int):=lin (.im (.no (.le true (.v 0) (.v 1))) (.eq false (.mx (.k 0) (.mn (.c (.v 0)) (.c (.v 1)))) (.c (.v 1)))) [a,b] [] (by kernel_rfl!)
theorem Y8x:∀{a b:Nat},97+a*7 % 26=97+b*7 % 26->97+a / 26=97+b / 26->a=b:=by intros;(first|lia|omega)
theorem Y8y:∀{a b:Nat},a=97+b*7 % 26->97<=a/\a<123:=by intros;(first|lia|omega)
theorem Y8z:∀{a b:Nat},a<676->b=97+a / 26->97<=b/\b<123:=by intros;(first|lia|omega)
theorem Y8A{a b:Nat}:a<=10->1<=a+2+min (12-(a+2)) b/\a+2+min (12-(a+2)) b<=12:=lin (.im (.le true (.v 0) (.k 10)) (.an (.le true (.k 1) (.a (.a (.v 0) (.k 2)) (.mn (.s (.k 12) (.a (.v 0) (.k 2))) (.v 1)))) (.le true (.a (.a (.v 0) (.k 2)) (.mn (.s (.k 12) (.a (.v 0) (.k 2))) (.v 1))) (.k 12)))) [a,b] [] (by kernel_rfl!)
theorem Y8B:nD 0x880006401000000007bc80200000000061c80e9 [a]:=Np _
theorem Y8C:∀{a b:Nat},a=97+b*7 % 26->a<1114112:=by intros;(first|lia|omega)
theorem Y8D:∀{a b:Nat},a<676->b=97+a / 26->b<1114112:=by intros;(first|lia|omega)
theorem Y8E:∀{a:Nat},(↑a:Int)*7 % 26=(↑(a*7 % 26):Int):=by intros;(first|lia|omega)
theorem Y8F:∀{a:Nat},(↑a:Int) / 26=(↑(a / 26):Int):=by intros;(first|lia|omega)
theorem Y8G:∀{a:Nat},(↑a:Int)*7 % 11=(↑(a*7 % 11):Int):=by intros;(first|lia|omega)
theorem Y8H:∀{a:Nat},(↑a:Int)*5 % 11=(↑(a*5 % 11):Int):=by intros;(first|lia|omega)
theorem Y8I:∀{a:Nat},0<=(↑(a*7 % 26):Int):=by intros;(first|lia|omega)
theorem Y8J:∀{a:Nat},(↑(a*7 % 26):Int)<26:=by intros;(first|lia|omega)
theorem Y8K:∀{a:Nat},0<=(↑(a / 26):Int):=by intros;(first|lia|omega)
theorem Y8L:∀{a:Nat},a<676->(↑(a / 26):Int)<26:=by intros;(first|lia|omega)
theorem Y8N:nD 0x2000001908701c5816b01580812ac0009 [a,b]:=Nq _
theorem Y8O:∀{a:Nat},Int.toNat (↑(a / 26):Int)=a / 26:=by intros;(first|lia|omega)
theorem Y8P:∀{a:Nat},Int.toNat (↑(a*7 % 26):Int)=a*7 % 26:=by intros;(first|lia|omega)
theorem Y8T{a b:Nat}:a<b->min a b+1+(b-(a+1))=b:=lin (.im (.lt true (.v 0) (.v 1)) (.eq true (.a (.a (.mn (.v 0) (.v 1)) (.k 1)) (.s (.v 1) (.a (.v 0) (.k 1)))) (.v 1))) [a,b] [] (by kernel_rfl!)
theorem Y8U{a:Int}{b:Nat}:mD 0x1c06080e0038b152006069 [b] [a]:=lm _ _ _
theorem Y8V{a:Int}{b:Nat}:mD 0x601c2981c0112006069 [b] [a]:=lm _ _ _
theorem Y8W:∀{a:Int} {b:Nat},a<12->1+a=(↑b:Int)->(↑b:Int)<2 ^ 62:=by intros;(first|lia|omega)
theorem Y8X{a:Int}{b:Nat}:mD 0x1000000c8000e0038b152cc0089 [b] [a]:=lm _ _ _
theorem Y8Y:∀{a:Int} {b c:Nat},a<12->1+a=(↑b:Int)->c=b->c*1<=16777216:=by intros;(first|lia|omega)
theorem Y8Z{a:Int}{b c:Nat}:mD 0x1000000c840008920e0038b152cc0089 [b,c] [a]:=lm _ _ _
theorem Y90{a:Int}{b c d e:Nat}:mD 0x8000006443b0023024381092008920e0038b152cc0089 [b,c,d,e] [a]:=lm _ _ _
theorem Y91{a:Int}{b c d e f:Nat}:mD 0x2000001920876b002402423024381092008920e0038b152cc0089 [b,c,d,e,f] [a]:=lm _ _ _
theorem Y92{a:Int}{b c d:Nat}:mD 0x2084021243c01520e0089 [b,c,d] [a]:=lm _ _ _
theorem Y93{a:Int}{b c d:Nat}:mD 0x41c00021243c01520e0089 [b,c,d] [a]:=lm _ _ _
theorem Y94{a:Int}{b c:Nat}:mD 0xcc040008920e0038b152cc0089 [b,c] [a]:=lm _ _ _
theorem Y95:nD 0x1464000000000028c840908049 [a,b]:=Nq _
theorem Y97:nD 0x1526421004290000000028c8009 [a,b]:=Nq _
theorem Y98:nD 0x5b6421004290000000028c8009 [a,b]:=Nq _
theorem Y99:nD 0x1f464000000000028c8009 [a]:=Np _
theorem Y9b:∀{a:Int},0<=a->1<=Int.toNat (1+a):=by intros;(first|lia|omega)
theorem Y9d:∀{a:Nat},a<=40->(↑a:Int)<2 ^ 62:=by intros;(first|lia|omega)
theorem Y9f:∀{a:Int},a<5->Int.toNat a<=30:=by intros;(first|lia|omega)
theorem Y9g:∀{a:Nat},a<=30->(↑a:Int)<2 ^ 62:=by intros;(first|lia|omega)
theorem Y9k:nD 0x119464010000001f40c8029 [a]:=Np _
theorem Y9m:∀{a:Nat} {b:Prop},(1<=a/\a<=12)/\b->a<=1000:=by intros;(first|lia|omega)
theorem Y9p:nD 0x80000064000000000028c8009 [a]:=Np _
theorem Y9C:∀{a:Int},a<5->Int.toNat (1+a)<=40:=by intros;(first|lia|omega)
theorem Y9D:∀{a:Nat} {b:Int},a<=9000->Int.toNat b<a->b<2 ^ 63:=by intros;(first|lia|omega)
theorem Y9H:iD 0x380d80408089 [a,b]:=Jq _
theorem Y9J:∀{a b:Int} {c:Prop},a=b->a<b->c:=by intros;(first|lia|omega)
theorem Y9K:∀{a b:Int} {c:Prop},a=b->b<a->c:=by intros;(first|lia|omega)
theorem Y9M:iD 10485897 [a]:=Jp _
theorem Y9N:∀{a:Int} {b:Prop},a=0->a=1->b:=by intros;(first|lia|omega)
theorem Y9O{a b c:Nat}:a<8000->b<=3->a+1+min c b<9900:=lin (.im (.lt true (.v 0) (.k 8000)) (.im (.le true (.v 1) (.k 3)) (.lt true (.a (.a (.v 0) (.k 1)) (.mn (.v 2) (.v 1))) (.k 9900)))) [a,b,c] [] (by kernel_rfl!)
theorem Y9R{a:Int}{b:Nat}:mD 0xe016e0080e0089 [b] [a]:=lm _ _ _
theorem Y9V:nD 0x400000320062c00000002328c8009 [a]:=Np _
theorem Y9W:∀{a:Nat} {b:Int},a<=9000->b<(↑a:Int)->b<2 ^ 63:=by intros;(first|lia|omega)
theorem Ya3:nD 0xdac6401000000170cc8029 [a]:=Np _
theorem Ya4:∀{a:Nat},a<=9000->a<2 ^ 62:=by intros;(first|lia|omega)
theorem Ya7:nD 0xd7a6401000000170cc8029 [a]:=Np _
theorem Ya9:nD 0x28c84000e0560d8490000000028c8009 [a,b,c]:=Nr _
theorem Yab:∀{a b c:Nat} {d:Int} {e f:Nat} {g h:Prop} {i:Nat},a+12*(b+1)<=800->c<=a->d<13->d=(↑e:Int)->f<e->g/\h/\i=c+f->i<=9000:=by intros;(first|lia|omega)
theorem Yac{a b c:Nat}{d:Int}{e:Nat}:mD 0x3e832315803e00a96e004480404800000019064380d99a05809 [a,b,c,e] [d]:=lm _ _ _
theorem Yad:∀{a:Int} {b:Nat},a<13->a=(↑b:Int)->(↑b:Int)<2 ^ 62:=by intros;(first|lia|omega)
theorem Yag:∀{a b:Nat} {c:Int} {d e:Nat} {f g:Prop} {h:Nat},a<=b->c<13->c=(↑d:Int)->e<=d->f/\g/\h=a+e->h<=b+12:=by intros;(first|lia|omega)
theorem Yah:nD 0x119464000000002328c8009 [a]:=Np _
theorem Yai:nD 0x119464010000000fa0c8029 [a]:=Np _
set_option autoImplicit false
theorem Yaj{a:Int}{b:Nat}:mD 0x1c02dc01000c0ce0e00a9 [b] [a]:=lm _ _ _
theorem Yak{a:Int}:0<=a->max a 0=a:=lin (.im (.le false (.k 0) (.v 0)) (.eq false (.mx (.v 0) (.k 0)) (.v 0))) [] [a] (by kernel_rfl!)
theorem Yal{a:Int}:0<=max a 0:=lin (.le false (.k 0) (.mx (.v 0) (.k 0))) [] [a] (by kernel_rfl!)
theorem Yam{a b:Int}:0<=a->0<=max a b:=lin (.im (.le false (.k 0) (.v 0)) (.le false (.k 0) (.mx (.v 0) (.v 1)))) [] [a,b] (by kernel_rfl!)
theorem Yap{a b c d e f:Nat}:nD 0x46519280a41d849208491844900809004090000000fa0c8009 [a,b,c,d,e,f]:=ln _ _
theorem Yav:∀{a b:Int} {c:Prop},a<b->b=a->c:=by intros;(first|lia|omega)
theorem Yay{a b c d e f g h i:Int}:iD 0x150319ca719c88098a70988822082394e239100314e03110929063114e311101014e101109 [a,b,c,d,e,f,g,h,i]:=li _ _
theorem Yaz{a b c:Nat}:a<9000->b<=3->a+1+min c b<9900:=lin (.im (.lt true (.v 0) (.k 9000)) (.im (.le true (.v 1) (.k 3)) (.lt true (.a (.a (.v 0) (.k 1)) (.mn (.v 2) (.v 1))) (.k 9900)))) [a,b,c] [] (by kernel_rfl!)
theorem Z4P{α:Type}(i:Nonempty α)(G:α->Prop):Nonempty {x:α // G x->∀y,G y}:=by
 by_cases h:∃x,¬G x
 ·exact h.elim fun x n=>⟨⟨x,fun g=>absurd g n⟩⟩
 ·exact i.elim fun x=>⟨⟨x,fun z y=>Classical.byContradiction fun n=>h ⟨y,n⟩⟩⟩
@[irreducible] noncomputable def ep1{α:Type}(i:Nonempty α)(G:α->Prop):α:=(Classical.choice (Z4P i G)).1
theorem epI1{α:Type}(i:Nonempty α){G:α->Prop}(h:G (ep1 i G)):∀x,G x:=by
 unfold ep1 at h;exact(Classical.choice (Z4P i G)).2 h
theorem ne2{α β:Type}(a:Nonempty α)(b:Nonempty β):Nonempty (α×β):=a.elim fun x=>b.elim fun y=>⟨(x,y)⟩
@[irreducible] noncomputable def ep2{a b:Type}(i:Nonempty (a×b))(G:a->b->Prop):a×b:=ep1 i fun p=>G p.1 p.2
theorem epI2{a b:Type}(i:Nonempty (a×b)){G:a->b->Prop}(h:G (ep2 i G).1 (ep2 i G).2):∀A B,G A B:=fun A B=>epI1 i (G:=fun p=>G p.1 p.2) (by with_unfolding_all exact h) (A,B)
@[irreducible] noncomputable def ep3{a b c:Type}(i:Nonempty (a×b×c))(G:a->b->c->Prop):a×b×c:=ep1 i fun p=>G p.1 p.2.1 p.2.2
theorem epI3{a b c:Type}(i:Nonempty (a×b×c)){G:a->b->c->Prop}(h:G (ep3 i G).1 (ep3 i G).2.1 (ep3 i G).2.2):∀A B C,G A B C:=fun A B C=>epI1 i (G:=fun p=>G p.1 p.2.1 p.2.2) (by with_unfolding_all exact h) (A,B,C)
@[irreducible] noncomputable def ep4{a b c d:Type}(i:Nonempty (a×b×c×d))(G:a->b->c->d->Prop):a×b×c×d:=ep1 i fun p=>G p.1 p.2.1 p.2.2.1 p.2.2.2
theorem epI4{a b c d:Type}(i:Nonempty (a×b×c×d)){G:a->b->c->d->Prop}(h:G (ep4 i G).1 (ep4 i G).2.1 (ep4 i G).2.2.1 (ep4 i G).2.2.2):∀A B C D,G A B C D:=fun A B C D=>epI1 i (G:=fun p=>G p.1 p.2.1 p.2.2.1 p.2.2.2) (by with_unfolding_all exact h) (A,B,C,D)
@[irreducible] noncomputable def ep5{a b c d e:Type}(i:Nonempty (a×b×c×d×e))(G:a->b->c->d->e->Prop):a×b×c×d×e:=ep1 i fun p=>G p.1 p.2.1 p.2.2.1 p.2.2.2.1 p.2.2.2.2
theorem epI5{a b c d e:Type}(i:Nonempty (a×b×c×d×e)){G:a->b->c->d->e->Prop}(h:G (ep5 i G).1 (ep5 i G).2.1 (ep5 i G).2.2.1 (ep5 i G).2.2.2.1 (ep5 i G).2.2.2.2):∀A B C D E,G A B C D E:=fun A B C D E=>epI1 i (G:=fun p=>G p.1 p.2.1 p.2.2.1 p.2.2.2.1 p.2.2.2.2) (by with_unfolding_all exact h) (A,B,C,D,E)
@[irreducible] noncomputable def ep6{a b c d e f:Type}(i:Nonempty (a×b×c×d×e×f))(G:a->b->c->d->e->f->Prop):a×b×c×d×e×f:=ep1 i fun p=>G p.1 p.2.1 p.2.2.1 p.2.2.2.1 p.2.2.2.2.1 p.2.2.2.2.2
theorem epI6{a b c d e f:Type}(i:Nonempty (a×b×c×d×e×f)){G:a->b->c->d->e->f->Prop}(h:G (ep6 i G).1 (ep6 i G).2.1 (ep6 i G).2.2.1 (ep6 i G).2.2.2.1 (ep6 i G).2.2.2.2.1 (ep6 i G).2.2.2.2.2):∀A B C D E F,G A B C D E F:=fun A B C D E F=>epI1 i (G:=fun p=>G p.1 p.2.1 p.2.2.1 p.2.2.2.1 p.2.2.2.2.1 p.2.2.2.2.2) (by with_unfolding_all exact h) (A,B,C,D,E,F)
@[irreducible] noncomputable def ep7{a b c d e f j:Type}(i:Nonempty (a×b×c×d×e×f×j))(G:a->b->c->d->e->f->j->Prop):a×b×c×d×e×f×j:=ep1 i fun p=>G p.1 p.2.1 p.2.2.1 p.2.2.2.1 p.2.2.2.2.1 p.2.2.2.2.2.1 p.2.2.2.2.2.2
theorem epI7{a b c d e f j:Type}(i:Nonempty (a×b×c×d×e×f×j)){G:a->b->c->d->e->f->j->Prop}(h:G (ep7 i G).1 (ep7 i G).2.1 (ep7 i G).2.2.1 (ep7 i G).2.2.2.1 (ep7 i G).2.2.2.2.1 (ep7 i G).2.2.2.2.2.1 (ep7 i G).2.2.2.2.2.2):∀A B C D E F J,G A B C D E F J:=fun A B C D E F J=>epI1 i (G:=fun p=>G p.1 p.2.1 p.2.2.1 p.2.2.2.1 p.2.2.2.2.1 p.2.2.2.2.2.1 p.2.2.2.2.2.2) (by with_unfolding_all exact h) (A,B,C,D,E,F,J)
@[irreducible] noncomputable def ep8{a b c d e f j k:Type}(i:Nonempty (a×b×c×d×e×f×j×k))(G:a->b->c->d->e->f->j->k->Prop):a×b×c×d×e×f×j×k:=ep1 i fun p=>G p.1 p.2.1 p.2.2.1 p.2.2.2.1 p.2.2.2.2.1 p.2.2.2.2.2.1 p.2.2.2.2.2.2.1 p.2.2.2.2.2.2.2
theorem epI8{a b c d e f j k:Type}(i:Nonempty (a×b×c×d×e×f×j×k)){G:a->b->c->d->e->f->j->k->Prop}(h:G (ep8 i G).1 (ep8 i G).2.1 (ep8 i G).2.2.1 (ep8 i G).2.2.2.1 (ep8 i G).2.2.2.2.1 (ep8 i G).2.2.2.2.2.1 (ep8 i G).2.2.2.2.2.2.1 (ep8 i G).2.2.2.2.2.2.2):∀A B C D E F J K,G A B C D E F J K:=fun A B C D E F J K=>epI1 i (G:=fun p=>G p.1 p.2.1 p.2.2.1 p.2.2.2.1 p.2.2.2.2.1 p.2.2.2.2.2.1 p.2.2.2.2.2.2.1 p.2.2.2.2.2.2.2) (by with_unfolding_all exact h) (A,B,C,D,E,F,J,K)
@[irreducible] noncomputable def ep9{a b c d e f j k l:Type}(i:Nonempty (a×b×c×d×e×f×j×k×l))(G:a->b->c->d->e->f->j->k->l->Prop):a×b×c×d×e×f×j×k×l:=ep1 i fun p=>G p.1 p.2.1 p.2.2.1 p.2.2.2.1 p.2.2.2.2.1 p.2.2.2.2.2.1 p.2.2.2.2.2.2.1 p.2.2.2.2.2.2.2.1 p.2.2.2.2.2.2.2.2
theorem epI9{a b c d e f j k l:Type}(i:Nonempty (a×b×c×d×e×f×j×k×l)){G:a->b->c->d->e->f->j->k->l->Prop}(h:G (ep9 i G).1 (ep9 i G).2.1 (ep9 i G).2.2.1 (ep9 i G).2.2.2.1 (ep9 i G).2.2.2.2.1 (ep9 i G).2.2.2.2.2.1 (ep9 i G).2.2.2.2.2.2.1 (ep9 i G).2.2.2.2.2.2.2.1 (ep9 i G).2.2.2.2.2.2.2.2):∀A B C D E F J K L,G A B C D E F J K L:=fun A B C D E F J K L=>epI1 i (G:=fun p=>G p.1 p.2.1 p.2.2.1 p.2.2.2.1 p.2.2.2.2.1 p.2.2.2.2.2.1 p.2.2.2.2.2.2.1 p.2.2.2.2.2.2.2.1 p.2.2.2.2.2.2.2.2) (by with_unfolding_all exact h) (A,B,C,D,E,F,J,K,L)
@[irreducible] noncomputable def ep10{a b c d e f j k l m:Type}(i:Nonempty (a×b×c×d×e×f×j×k×l×m))(G:a->b->c->d->e->f->j->k->l->m->Prop):a×b×c×d×e×f×j×k×l×m:=ep1 i fun p=>G p.1 p.2.1 p.2.2.1 p.2.2.2.1 p.2.2.2.2.1 p.2.2.2.2.2.1 p.2.2.2.2.2.2.1 p.2.2.2.2.2.2.2.1 p.2.2.2.2.2.2.2.2.1 p.2.2.2.2.2.2.2.2.2
theorem Z7t{a b c d e f j k l m:Type}(i:Nonempty (a×b×c×d×e×f×j×k×l×m)){G:a->b->c->d->e->f->j->k->l->m->Prop}(h:G (ep10 i G).1 (ep10 i G).2.1 (ep10 i G).2.2.1 (ep10 i G).2.2.2.1 (ep10 i G).2.2.2.2.1 (ep10 i G).2.2.2.2.2.1 (ep10 i G).2.2.2.2.2.2.1 (ep10 i G).2.2.2.2.2.2.2.1 (ep10 i G).2.2.2.2.2.2.2.2.1 (ep10 i G).2.2.2.2.2.2.2.2.2):∀A B C D E F J K L M,G A B C D E F J K L M:=fun A B C D E F J K L M=>epI1 i (G:=fun p=>G p.1 p.2.1 p.2.2.1 p.2.2.2.1 p.2.2.2.2.1 p.2.2.2.2.2.1 p.2.2.2.2.2.2.1 p.2.2.2.2.2.2.2.1 p.2.2.2.2.2.2.2.2.1 p.2.2.2.2.2.2.2.2.2) (by with_unfolding_all exact h) (A,B,C,D,E,F,J,K,L,M)
@[irreducible] noncomputable def ep11{a b c d e f j k l m n:Type}(i:Nonempty (a×b×c×d×e×f×j×k×l×m×n))(G:a->b->c->d->e->f->j->k->l->m->n->Prop):a×b×c×d×e×f×j×k×l×m×n:=ep1 i fun p=>G p.1 p.2.1 p.2.2.1 p.2.2.2.1 p.2.2.2.2.1 p.2.2.2.2.2.1 p.2.2.2.2.2.2.1 p.2.2.2.2.2.2.2.1 p.2.2.2.2.2.2.2.2.1 p.2.2.2.2.2.2.2.2.2.1 p.2.2.2.2.2.2.2.2.2.2
theorem Z7u{a b c d e f j k l m n:Type}(i:Nonempty (a×b×c×d×e×f×j×k×l×m×n)){G:a->b->c->d->e->f->j->k->l->m->n->Prop}(h:G (ep11 i G).1 (ep11 i G).2.1 (ep11 i G).2.2.1 (ep11 i G).2.2.2.1 (ep11 i G).2.2.2.2.1 (ep11 i G).2.2.2.2.2.1 (ep11 i G).2.2.2.2.2.2.1 (ep11 i G).2.2.2.2.2.2.2.1 (ep11 i G).2.2.2.2.2.2.2.2.1 (ep11 i G).2.2.2.2.2.2.2.2.2.1 (ep11 i G).2.2.2.2.2.2.2.2.2.2):∀A B C D E F J K L M N,G A B C D E F J K L M N:=fun A B C D E F J K L M N=>epI1 i (G:=fun p=>G p.1 p.2.1 p.2.2.1 p.2.2.2.1 p.2.2.2.2.1 p.2.2.2.2.2.1 p.2.2.2.2.2.2.1 p.2.2.2.2.2.2.2.1 p.2.2.2.2.2.2.2.2.1 p.2.2.2.2.2.2.2.2.2.1 p.2.2.2.2.2.2.2.2.2.2) (by with_unfolding_all exact h) (A,B,C,D,E,F,J,K,L,M,N)
@[irreducible] noncomputable def ep12{a b c d e f j k l m n q:Type}(i:Nonempty (a×b×c×d×e×f×j×k×l×m×n×q))(G:a->b->c->d->e->f->j->k->l->m->n->q->Prop):a×b×c×d×e×f×j×k×l×m×n×q:=ep1 i fun p=>G p.1 p.2.1 p.2.2.1 p.2.2.2.1 p.2.2.2.2.1 p.2.2.2.2.2.1 p.2.2.2.2.2.2.1 p.2.2.2.2.2.2.2.1 p.2.2.2.2.2.2.2.2.1 p.2.2.2.2.2.2.2.2.2.1 p.2.2.2.2.2.2.2.2.2.2.1 p.2.2.2.2.2.2.2.2.2.2.2
theorem Z7v{a b c d e f j k l m n q:Type}(i:Nonempty (a×b×c×d×e×f×j×k×l×m×n×q)){G:a->b->c->d->e->f->j->k->l->m->n->q->Prop}(h:G (ep12 i G).1 (ep12 i G).2.1 (ep12 i G).2.2.1 (ep12 i G).2.2.2.1 (ep12 i G).2.2.2.2.1 (ep12 i G).2.2.2.2.2.1 (ep12 i G).2.2.2.2.2.2.1 (ep12 i G).2.2.2.2.2.2.2.1 (ep12 i G).2.2.2.2.2.2.2.2.1 (ep12 i G).2.2.2.2.2.2.2.2.2.1 (ep12 i G).2.2.2.2.2.2.2.2.2.2.1 (ep12 i G).2.2.2.2.2.2.2.2.2.2.2):∀A B C D E F J K L M N Q,G A B C D E F J K L M N Q:=fun A B C D E F J K L M N Q=>epI1 i (G:=fun p=>G p.1 p.2.1 p.2.2.1 p.2.2.2.1 p.2.2.2.2.1 p.2.2.2.2.2.1 p.2.2.2.2.2.2.1 p.2.2.2.2.2.2.2.1 p.2.2.2.2.2.2.2.2.1 p.2.2.2.2.2.2.2.2.2.1 p.2.2.2.2.2.2.2.2.2.2.1 p.2.2.2.2.2.2.2.2.2.2.2) (by with_unfolding_all exact h) (A,B,C,D,E,F,J,K,L,M,N,Q)
@[irreducible] noncomputable def ep13{a b c d e f j k l m n q r:Type}(i:Nonempty (a×b×c×d×e×f×j×k×l×m×n×q×r))(G:a->b->c->d->e->f->j->k->l->m->n->q->r->Prop):a×b×c×d×e×f×j×k×l×m×n×q×r:=ep1 i fun p=>G p.1 p.2.1 p.2.2.1 p.2.2.2.1 p.2.2.2.2.1 p.2.2.2.2.2.1 p.2.2.2.2.2.2.1 p.2.2.2.2.2.2.2.1 p.2.2.2.2.2.2.2.2.1 p.2.2.2.2.2.2.2.2.2.1 p.2.2.2.2.2.2.2.2.2.2.1 p.2.2.2.2.2.2.2.2.2.2.2.1 p.2.2.2.2.2.2.2.2.2.2.2.2
theorem Z7w{a b c d e f j k l m n q r:Type}(i:Nonempty (a×b×c×d×e×f×j×k×l×m×n×q×r)){G:a->b->c->d->e->f->j->k->l->m->n->q->r->Prop}(h:G (ep13 i G).1 (ep13 i G).2.1 (ep13 i G).2.2.1 (ep13 i G).2.2.2.1 (ep13 i G).2.2.2.2.1 (ep13 i G).2.2.2.2.2.1 (ep13 i G).2.2.2.2.2.2.1 (ep13 i G).2.2.2.2.2.2.2.1 (ep13 i G).2.2.2.2.2.2.2.2.1 (ep13 i G).2.2.2.2.2.2.2.2.2.1 (ep13 i G).2.2.2.2.2.2.2.2.2.2.1 (ep13 i G).2.2.2.2.2.2.2.2.2.2.2.1 (ep13 i G).2.2.2.2.2.2.2.2.2.2.2.2):∀A B C D E F J K L M N Q R,G A B C D E F J K L M N Q R:=fun A B C D E F J K L M N Q R=>epI1 i (G:=fun p=>G p.1 p.2.1 p.2.2.1 p.2.2.2.1 p.2.2.2.2.1 p.2.2.2.2.2.1 p.2.2.2.2.2.2.1 p.2.2.2.2.2.2.2.1 p.2.2.2.2.2.2.2.2.1 p.2.2.2.2.2.2.2.2.2.1 p.2.2.2.2.2.2.2.2.2.2.1 p.2.2.2.2.2.2.2.2.2.2.2.1 p.2.2.2.2.2.2.2.2.2.2.2.2) (by with_unfolding_all exact h) (A,B,C,D,E,F,J,K,L,M,N,Q,R)
@[irreducible] noncomputable def ep14{a b c d e f j k l m n q r s:Type}(i:Nonempty (a×b×c×d×e×f×j×k×l×m×n×q×r×s))(G:a->b->c->d->e->f->j->k->l->m->n->q->r->s->Prop):a×b×c×d×e×f×j×k×l×m×n×q×r×s:=ep1 i fun p=>G p.1 p.2.1 p.2.2.1 p.2.2.2.1 p.2.2.2.2.1 p.2.2.2.2.2.1 p.2.2.2.2.2.2.1 p.2.2.2.2.2.2.2.1 p.2.2.2.2.2.2.2.2.1 p.2.2.2.2.2.2.2.2.2.1 p.2.2.2.2.2.2.2.2.2.2.1 p.2.2.2.2.2.2.2.2.2.2.2.1 p.2.2.2.2.2.2.2.2.2.2.2.2.1 p.2.2.2.2.2.2.2.2.2.2.2.2.2
theorem Z7x{a b c d e f j k l m n q r s:Type}(i:Nonempty (a×b×c×d×e×f×j×k×l×m×n×q×r×s)){G:a->b->c->d->e->f->j->k->l->m->n->q->r->s->Prop}(h:G (ep14 i G).1 (ep14 i G).2.1 (ep14 i G).2.2.1 (ep14 i G).2.2.2.1 (ep14 i G).2.2.2.2.1 (ep14 i G).2.2.2.2.2.1 (ep14 i G).2.2.2.2.2.2.1 (ep14 i G).2.2.2.2.2.2.2.1 (ep14 i G).2.2.2.2.2.2.2.2.1 (ep14 i G).2.2.2.2.2.2.2.2.2.1 (ep14 i G).2.2.2.2.2.2.2.2.2.2.1 (ep14 i G).2.2.2.2.2.2.2.2.2.2.2.1 (ep14 i G).2.2.2.2.2.2.2.2.2.2.2.2.1 (ep14 i G).2.2.2.2.2.2.2.2.2.2.2.2.2):∀A B C D E F J K L M N Q R S,G A B C D E F J K L M N Q R S:=fun A B C D E F J K L M N Q R S=>epI1 i (G:=fun p=>G p.1 p.2.1 p.2.2.1 p.2.2.2.1 p.2.2.2.2.1 p.2.2.2.2.2.1 p.2.2.2.2.2.2.1 p.2.2.2.2.2.2.2.1 p.2.2.2.2.2.2.2.2.1 p.2.2.2.2.2.2.2.2.2.1 p.2.2.2.2.2.2.2.2.2.2.1 p.2.2.2.2.2.2.2.2.2.2.2.1 p.2.2.2.2.2.2.2.2.2.2.2.2.1 p.2.2.2.2.2.2.2.2.2.2.2.2.2) (by with_unfolding_all exact h) (A,B,C,D,E,F,J,K,L,M,N,Q,R,S)
@[irreducible] noncomputable def ep15{a b c d e f j k l m n q r s t:Type}(i:Nonempty (a×b×c×d×e×f×j×k×l×m×n×q×r×s×t))(G:a->b->c->d->e->f->j->k->l->m->n->q->r->s->t->Prop):a×b×c×d×e×f×j×k×l×m×n×q×r×s×t:=ep1 i fun p=>G p.1 p.2.1 p.2.2.1 p.2.2.2.1 p.2.2.2.2.1 p.2.2.2.2.2.1 p.2.2.2.2.2.2.1 p.2.2.2.2.2.2.2.1 p.2.2.2.2.2.2.2.2.1 p.2.2.2.2.2.2.2.2.2.1 p.2.2.2.2.2.2.2.2.2.2.1 p.2.2.2.2.2.2.2.2.2.2.2.1 p.2.2.2.2.2.2.2.2.2.2.2.2.1 p.2.2.2.2.2.2.2.2.2.2.2.2.2.1 p.2.2.2.2.2.2.2.2.2.2.2.2.2.2
theorem Z7y{a b c d e f j k l m n q r s t:Type}(i:Nonempty (a×b×c×d×e×f×j×k×l×m×n×q×r×s×t)){G:a->b->c->d->e->f->j->k->l->m->n->q->r->s->t->Prop}(h:G (ep15 i G).1 (ep15 i G).2.1 (ep15 i G).2.2.1 (ep15 i G).2.2.2.1 (ep15 i G).2.2.2.2.1 (ep15 i G).2.2.2.2.2.1 (ep15 i G).2.2.2.2.2.2.1 (ep15 i G).2.2.2.2.2.2.2.1 (ep15 i G).2.2.2.2.2.2.2.2.1 (ep15 i G).2.2.2.2.2.2.2.2.2.1 (ep15 i G).2.2.2.2.2.2.2.2.2.2.1 (ep15 i G).2.2.2.2.2.2.2.2.2.2.2.1 (ep15 i G).2.2.2.2.2.2.2.2.2.2.2.2.1 (ep15 i G).2.2.2.2.2.2.2.2.2.2.2.2.2.1 (ep15 i G).2.2.2.2.2.2.2.2.2.2.2.2.2.2):∀A B C D E F J K L M N Q R S T,G A B C D E F J K L M N Q R S T:=fun A B C D E F J K L M N Q R S T=>epI1 i (G:=fun p=>G p.1 p.2.1 p.2.2.1 p.2.2.2.1 p.2.2.2.2.1 p.2.2.2.2.2.1 p.2.2.2.2.2.2.1 p.2.2.2.2.2.2.2.1 p.2.2.2.2.2.2.2.2.1 p.2.2.2.2.2.2.2.2.2.1 p.2.2.2.2.2.2.2.2.2.2.1 p.2.2.2.2.2.2.2.2.2.2.2.1 p.2.2.2.2.2.2.2.2.2.2.2.2.1 p.2.2.2.2.2.2.2.2.2.2.2.2.2.1 p.2.2.2.2.2.2.2.2.2.2.2.2.2.2) (by with_unfolding_all exact h) (A,B,C,D,E,F,J,K,L,M,N,Q,R,S,T)
theorem ew_lay:True:=by
 k_with "G"=>(first|(with_reducible refine ne2 ?_ ?_<;>k_extra "G")|exact inferInstance|with_reducible exact cx_ne|with_reducible exact Z7A|with_reducible exact Z7B|with_reducible exact o_ne|with_reducible exact w_ne|with_reducible exact Z7C|with_reducible exact Z7D|with_reducible exact kd_ne|with_reducible exact Z7E|with_reducible exact Z7F|with_reducible exact Z7G|with_reducible exact Z7S|with_reducible exact Z7T|with_reducible exact Z7O|with_reducible exact Z7U|with_reducible exact Z7R|with_reducible exact Z7P|with_reducible exact Z7Q|with_reducible exact Z7N|with_reducible exact sa_ne|with_reducible exact q10_ne|with_reducible exact Z7Y|with_reducible exact Z7Z|with_reducible exact Z80|with_reducible exact Z81)
 k_with "r"=>(refine @epI1 _ (by k_extra "G") _ ?_;generalize ep1 _ _=A;revert A)
 k_with "n"=>(refine @epI2 _ _ (by k_extra "G") _ ?_;generalize ep2 _ _=T;generalize T.1=A,T.2=B;clear T;revert A B)
 k_with "A"=>(refine @epI3 _ _ _ (by k_extra "G") _ ?_;generalize ep3 _ _=T;generalize T.1=A,T.2.1=B,T.2.2=C;clear T;revert A B C)
 k_with "J"=>(refine @epI4 _ _ _ _ (by k_extra "G") _ ?_;generalize ep4 _ _=T;generalize T.1=A,T.2.1=B,T.2.2.1=C,T.2.2.2=D;clear T;revert A B C D)
 k_with "K"=>(refine @epI5 _ _ _ _ _ (by k_extra "G") _ ?_;generalize ep5 _ _=T;generalize T.1=A,T.2.1=B,T.2.2.1=C,T.2.2.2.1=D,T.2.2.2.2=E;clear T;revert A B C D E)
 k_with "O"=>(refine @epI6 _ _ _ _ _ _ (by k_extra "G") _ ?_;generalize ep6 _ _=T;generalize T.1=A,T.2.1=B,T.2.2.1=C,T.2.2.2.1=D,T.2.2.2.2.1=E,T.2.2.2.2.2=F;clear T;revert A B C D E F)
 k_with "B"=>(refine @epI7 _ _ _ _ _ _ _ (by k_extra "G") _ ?_;generalize ep7 _ _=T;generalize T.1=A,T.2.1=B,T.2.2.1=C,T.2.2.2.1=D,T.2.2.2.2.1=E,T.2.2.2.2.2.1=F,T.2.2.2.2.2.2=G;clear T;revert A B C D E F G)
 k_with "R"=>(refine @epI8 _ _ _ _ _ _ _ _ (by k_extra "G") _ ?_;generalize ep8 _ _=T;generalize T.1=A,T.2.1=B,T.2.2.1=C,T.2.2.2.1=D,T.2.2.2.2.1=E,T.2.2.2.2.2.1=F,T.2.2.2.2.2.2.1=G,T.2.2.2.2.2.2.2=H;clear T;revert A B C D E F G H)
 k_with "F"=>(refine @epI9 _ _ _ _ _ _ _ _ _ (by k_extra "G") _ ?_;generalize ep9 _ _=T;generalize T.1=A,T.2.1=B,T.2.2.1=C,T.2.2.2.1=D,T.2.2.2.2.1=E,T.2.2.2.2.2.1=F,T.2.2.2.2.2.2.1=G,T.2.2.2.2.2.2.2.1=H,T.2.2.2.2.2.2.2.2=I;clear T;revert A B C D E F G H I)
 k_with "t"=>(refine @Z7t _ _ _ _ _ _ _ _ _ _ (by k_extra "G") _ ?_;generalize ep10 _ _=T;generalize T.1=A,T.2.1=B,T.2.2.1=C,T.2.2.2.1=D,T.2.2.2.2.1=E,T.2.2.2.2.2.1=F,T.2.2.2.2.2.2.1=G,T.2.2.2.2.2.2.2.1=H,T.2.2.2.2.2.2.2.2.1=I,T.2.2.2.2.2.2.2.2.2=J;clear T;revert A B C D E F G H I J)
 k_with "q"=>(refine @Z7u _ _ _ _ _ _ _ _ _ _ _ (by k_extra "G") _ ?_;generalize ep11 _ _=T;generalize T.1=A,T.2.1=B,T.2.2.1=C,T.2.2.2.1=D,T.2.2.2.2.1=E,T.2.2.2.2.2.1=F,T.2.2.2.2.2.2.1=G,T.2.2.2.2.2.2.2.1=H,T.2.2.2.2.2.2.2.2.1=I,T.2.2.2.2.2.2.2.2.2.1=J,T.2.2.2.2.2.2.2.2.2.2=K;clear T;revert A B C D E F G H I J K)
 k_with "x"=>(refine @Z7v _ _ _ _ _ _ _ _ _ _ _ _ (by k_extra "G") _ ?_;generalize ep12 _ _=T;generalize T.1=A,T.2.1=B,T.2.2.1=C,T.2.2.2.1=D,T.2.2.2.2.1=E,T.2.2.2.2.2.1=F,T.2.2.2.2.2.2.1=G,T.2.2.2.2.2.2.2.1=H,T.2.2.2.2.2.2.2.2.1=I,T.2.2.2.2.2.2.2.2.2.1=J,T.2.2.2.2.2.2.2.2.2.2.1=K,T.2.2.2.2.2.2.2.2.2.2.2=L;clear T;revert A B C D E F G H I J K L)
 k_with "z"=>(refine @Z7w _ _ _ _ _ _ _ _ _ _ _ _ _ (by k_extra "G") _ ?_;generalize ep13 _ _=T;generalize T.1=A,T.2.1=B,T.2.2.1=C,T.2.2.2.1=D,T.2.2.2.2.1=E,T.2.2.2.2.2.1=F,T.2.2.2.2.2.2.1=G,T.2.2.2.2.2.2.2.1=H,T.2.2.2.2.2.2.2.2.1=I,T.2.2.2.2.2.2.2.2.2.1=J,T.2.2.2.2.2.2.2.2.2.2.1=K,T.2.2.2.2.2.2.2.2.2.2.2.1=L,T.2.2.2.2.2.2.2.2.2.2.2.2=M;clear T;revert A B C D E F G H I J K L M)
 k_with "v"=>(refine @Z7x _ _ _ _ _ _ _ _ _ _ _ _ _ _ (by k_extra "G") _ ?_;generalize ep14 _ _=T;generalize T.1=A,T.2.1=B,T.2.2.1=C,T.2.2.2.1=D,T.2.2.2.2.1=E,T.2.2.2.2.2.1=F,T.2.2.2.2.2.2.1=G,T.2.2.2.2.2.2.2.1=H,T.2.2.2.2.2.2.2.2.1=I,T.2.2.2.2.2.2.2.2.2.1=J,T.2.2.2.2.2.2.2.2.2.2.1=K,T.2.2.2.2.2.2.2.2.2.2.2.1=L,T.2.2.2.2.2.2.2.2.2.2.2.2.1=M,T.2.2.2.2.2.2.2.2.2.2.2.2.2=N;clear T;revert A B C D E F G H I J K L M N)
 k_with "l"=>(refine @Z7y _ _ _ _ _ _ _ _ _ _ _ _ _ _ _ (by k_extra "G") _ ?_;generalize ep15 _ _=T;generalize T.1=A,T.2.1=B,T.2.2.1=C,T.2.2.2.1=D,T.2.2.2.2.1=E,T.2.2.2.2.2.1=F,T.2.2.2.2.2.2.1=G,T.2.2.2.2.2.2.2.1=H,T.2.2.2.2.2.2.2.2.1=I,T.2.2.2.2.2.2.2.2.2.1=J,T.2.2.2.2.2.2.2.2.2.2.1=K,T.2.2.2.2.2.2.2.2.2.2.2.1=L,T.2.2.2.2.2.2.2.2.2.2.2.2.1=M,T.2.2.2.2.2.2.2.2.2.2.2.2.2.1=N,T.2.2.2.2.2.2.2.2.2.2.2.2.2.2=O;clear T;revert A B C D E F G H I J K L M N O)
 trivial
open PySem PySem.W
inductive V where
 | none|bool (b:Bool)|int (i:Int)|str (s:Str)|tup (vs:List V)|rng (a b:Int)|ref (a:Addr)|typ (n:String)|blt (i:String)
 deriving Inhabited
abbrev Zf(items:Array Value)(n:Nat):Obj:={ cls:=.type "tuple",data:=.seq items n }
mutual
inductive VR(h:Heap):Value->V->Prop where
 | none:VR h .none .none
 | bool (b:Bool):VR h (.bool b) (.bool b)
 | int (i:Int) (t:Tok):VR h (.int i t) (.int i)
 | str (s:Str) (t:Tok):VR h (.str s t) (.str s)
 | typ (n:String):VR h (.type n) (.typ n)
 | blt (i:String):VR h (.builtin i) (.blt i)
 | ref (a:Addr):VR h (.ref a) (.ref a)
 | tup {a:Addr} {items:Array Value} {n:Nat} {vs:List V}:h.get? a=some (Zf items n)->VRs h items.toList vs->VR h (.ref a) (.tup vs)
 | rng {r:Addr} {a b:Int} {t u v:Tok}:IsRange h r a b 1 t u v->VR h (.ref r) (.rng a b)
inductive VRs(h:Heap):List Value->List V->Prop where
 | nil:VRs h [] []
 | cons {v:Value} {vs:List Value} {x:V} {xs:List V}:VR h v x->VRs h vs xs->VRs h (v::vs) (x::xs)
end
noncomputable def Imm(o:Obj):Prop:=(∃items n,o=Zf items n)\/(∃vs,o={ cls:=.type "range",data:=.fields vs })\/(o.cls=.type "code" /\∃vs,o.data=.fields vs)
theorem Imm.tup(items:Array Value)(n:Nat):Imm (Zf items n):=.inl ⟨_,_,rfl⟩
theorem Imm.not{o:Obj}(h1:o.cls≠.type "tuple")(h2:o.cls≠.type "range")(h3:o.cls≠.type "code"):¬Imm o:=by
 rintro(⟨_,_,rfl⟩|⟨_,rfl⟩|⟨e,_⟩)
 ·exact h1 rfl
 ·exact h2 rfl
 ·exact h3 e
theorem Imm.notDict{o:Obj}{es:Array DictEntry}{n:Nat}(h:o.data=.dict es n):¬Imm o:=by
 rintro(⟨_,_,rfl⟩|⟨_,rfl⟩|⟨_,_,e⟩)
 ·cases h
 ·cases h
 ·rw[h]at e;cases e
theorem Imm.notCell{o:Obj}{v:Option Value}(h:o.data=.cell v):¬Imm o:=by
 rintro(⟨_,_,rfl⟩|⟨_,rfl⟩|⟨_,_,e⟩)
 ·cases h
 ·cases h
 ·rw[h]at e;cases e
noncomputable def X7(h h':Heap):Prop:=∀a o,Imm o->h.get? a=some o->h'.get? a=some o
theorem X7.refl(h:Heap):X7 h h:=fun z z z e=>e
theorem X7.trans{h1 h2 h3:Heap}(x:X7 h1 h2)(y:X7 h2 h3):X7 h1 h3:=fun a i n e=>y a i n (x a i n e)
mutual
theorem VR.mono{h h':Heap}(k:X7 h h'){v:Value}{x:V}(r:VR h v x):VR h' v x:=by
 cases r with
 | none=>exact .none
 | bool b=>exact .bool b
 | int i t=>exact .int i t
 | str s t=>exact .str s t
 | typ n=>exact .typ n
 | blt i=>exact .blt i
 | ref a=>exact .ref a
 | tup e r=>exact .tup (k _ _ (.tup _ _) e) (VRs.mono k r)
 | rng e=>exact .rng (k _ _ (.inr (.inl ⟨_,rfl⟩)) e)
theorem VRs.mono{h h':Heap}(k:X7 h h'){v:List Value}{x:List V}(r:VRs h v x):VRs h' v x:=by
 cases r with
 | nil=>exact .nil
 | cons a b=>exact .cons (VR.mono k a) (VRs.mono k b)
end
theorem VR.intI{h:Heap}{v:Value}{i:Int}(r:VR h v (.int i)):∃t,v=.int i t:=by cases r;exact⟨_,rfl⟩
theorem VR.strI{h:Heap}{v:Value}{x:Str}(r:VR h v (.str x)):∃t,v=.str x t:=by cases r;exact⟨_,rfl⟩
theorem VR.boolI{h:Heap}{v:Value}{b:Bool}(r:VR h v (.bool b)):v=.bool b:=by cases r;rfl
theorem VR.noneI{h:Heap}{v:Value}(r:VR h v .none):v=.none:=by cases r;rfl
theorem VR.refI{h:Heap}{v:Value}{a:Addr}(r:VR h v (.ref a)):v=.ref a:=by cases r;rfl
theorem VR.typI{h:Heap}{v:Value}{n:String}(r:VR h v (.typ n)):v=.type n:=by cases r;rfl
theorem VR.bltI{h:Heap}{v:Value}{n:String}(r:VR h v (.blt n)):v=.builtin n:=by cases r;rfl
theorem VR.tupI{h:Heap}{v:Value}{xs:List V}(r:VR h v (.tup xs)):∃(a:Addr) (items:Array Value) (n:Nat),v=.ref a/\h.get? a=some (Zf items n)/\VRs h items.toList xs:=by cases r with|tup e r=>exact⟨_,_,_,rfl,e,r⟩
theorem VRs.nilI{h:Heap}{vs:List Value}(r:VRs h vs []):vs=[]:=by cases r;rfl
theorem VRs.consI{h:Heap}{vs:List Value}{x:V}{xs:List V}(r:VRs h vs (x::xs)):∃u us,vs=u::us/\VR h u x/\VRs h us xs:=by cases r with|cons a b=>exact⟨_,_,rfl,a,b⟩
theorem VRs.one{h:Heap}{vs:List Value}{x:V}(r:VRs h vs [x]):∃u,vs=[u]/\VR h u x:=by
 obtain⟨u,us,rfl,r1,r2⟩:=r.consI;obtain rfl:=r2.nilI;exact⟨u,rfl,r1⟩
theorem VRs.two{h:Heap}{vs:List Value}{x y:V}(r:VRs h vs [x,y]):∃u v,vs=[u,v]/\VR h u x/\VR h v y:=by
 obtain⟨u,us,rfl,r1,r2⟩:=r.consI;obtain⟨v,rfl,r3⟩:=r2.one;exact⟨u,v,rfl,r1,r3⟩
theorem VRs.three{h:Heap}{vs:List Value}{x y z:V}(r:VRs h vs [x,y,z]):∃u v w,vs=[u,v,w]/\VR h u x/\VR h v y/\VR h w z:=by
 obtain⟨u,us,rfl,r1,r2⟩:=r.consI;obtain⟨v,w,rfl,r3,r4⟩:=r2.two;exact⟨u,v,w,rfl,r1,r3,r4⟩
theorem VRs.ind{h:Heap}{P:List Value->List V->Prop}(n:P [] [])(c:∀{v vs x xs},VR h v x->VRs h vs xs->P vs xs->P (v::vs) (x::xs)):∀{xs:List V} {vs:List Value},VRs h vs xs->P vs xs:=by
 intro xs
 induction xs with
 | nil=>intro vs r;obtain rfl:=r.nilI;exact n
 | cons x xs ih=>
  intro vs r;obtain⟨u,us,rfl,a,b⟩:=r.consI;exact c a b (ih b)
theorem VRs.length{h:Heap}{v:List Value}{x:List V}(r:VRs h v x):v.length=x.length:=r.ind (P:=fun v x=>v.length=x.length) rfl fun z z ih=>congrArg (·+1) ih
theorem VRs.append{h:Heap}{v:List Value}{x:List V}{v':List Value}{x':List V}(r:VRs h v x)(r':VRs h v' x'):VRs h (v++v') (x++x'):=
 r.ind (P:=fun v x=>VRs h (v++v') (x++x')) r' fun a z ih=>.cons a ih
theorem VRs.get{h:Heap}{v:List Value}{x:List V}(r:VRs h v x):∀{i:Nat} {y:V},x[i]?=some y->∃u,v[i]?=some u/\VR h u y:=by
 refine r.ind (P:=fun v x=>∀{i:Nat} {y:V},x[i]?=some y->∃u,v[i]?=some u/\VR h u y) (fun e=>nomatch e) fun a z ih=>?_;intro i y e
 cases i with
 | zero=>cases e;exact⟨_,rfl,a⟩
 | succ i=>exact ih e
theorem VRs.get'{h:Heap}{v:List Value}{x:List V}(r:VRs h v x):∀{i:Nat} {u:Value},v[i]?=some u->∃y,x[i]?=some y/\VR h u y:=by
 refine r.ind (P:=fun v x=>∀{i:Nat} {u:Value},v[i]?=some u->∃y,x[i]?=some y/\VR h u y) (fun e=>nomatch e) fun a z ih=>?_;intro i y e
 cases i with
 | zero=>cases e;exact⟨_,rfl,a⟩
 | succ i=>exact ih e
structure Cx where
 prog:Program
 w:World
 h₀:Heap
 gens:Array GenState
 os:OsState
 n₀:Nat
 low:∀b o,h₀.get? b=some o->b<n₀
 top:∀m,n₀=m+1->∃o,h₀.get? m=some o
 K:Frag
 KX:K.In h₀
 mg:Str->Option Value
 mb:Str->Option Value
 hg:h₀.Ns mainGlobals mg
 hb:h₀.Ns builtinsNs mb
 blt:∀x:Str,x≠"__name__" ->mb x=bootBuiltins x
 lim:h₀.NoLimit
 tabs:List Addr
 loose:Prop
abbrev Cx.M(C:Cx):Model:=model C.prog C.w
set_option genInjectivity true in
inductive O where
 | list (vs:List V)
 | sd (es:List (Str×V))
 | id (es:List (Int×V))
 | inst (cls dx:Addr)
 | tab (pos:Pos) (q:Str)
 | exc (cls:Addr)
 | ie (es:List (Int×V)) (ep:Nat)
abbrev X0:=Addr->Option O
noncomputable def X0.upd(σ:X0)(a:Addr)(o:O):X0:=fun b=>if b=a then some o else σ b
theorem X0.upd_self(σ:X0)(a:Addr)(o:O):σ.upd a o a=some o:=by simp[X0.upd]
theorem X0.upd_ne(σ:X0){a b:Addr}(o:O)(h:b≠a):σ.upd a o b=σ b:=by simp[X0.upd,h]
inductive PR{K:Type}(h:Heap):List (K×Value)->List (K×V)->Prop
 | nil:PR h [] []
 | cons {k:K} {v:Value} {x:V} {r:List (K×Value)} {r':List (K×V)}:VR h v x->PR h r r'->PR h ((k,v)::r) ((k,x)::r')
theorem PR.mono{K:Type}{h h':Heap}(k:X7 h h'){a:List (K×Value)}{b:List (K×V)}(z:PR h a b):PR h' a b:=by
 induction z with
 | nil=>exact .nil
 | cons x _ ih=>exact .cons (x.mono k) ih
abbrev Z3a(C dx:Addr):Obj:={ cls:=.ref C,dict:=some dx }
noncomputable def Rep(C:Cx)(h:Heap)(a:Addr):O->Prop
 | .list vs=>∃items,h.PlainList a items/\VRs h items.toList vs
 | .sd es=>∃kvs,h.DictOf (strKind C.prog C.w) a kvs/\PR h kvs es
 | .id es=>∃kvs,h.DictOf (intKind C.prog C.w) a kvs/\PR h kvs es
 | .inst c dx=>h.get? a=some (Z3a c dx)
 | .tab pos q=>h.get? a=some { cls:=.none,data:=.fields #[] }\/∃c' o vs t,h.get? a=some { cls:=.none,data:=.fields #[rawInt pos.line,rawInt pos.col,.ref c'] }/\h.get? c'=some o/\o.cls=.type "code" /\o.data=.fields vs/\vs[1]?=some (.str q t)
 | .exc c=>∃o vs,h.get? a=some o/\o.cls=.ref c/\o.data=.fields vs
 | .ie es ep=>∃kvs,h.DictAt (intKind C.prog C.w) a kvs ep/\PR h kvs es
theorem Rep.isSome{C:Cx}{h:Heap}{a:Addr}{o:O}(r:Rep C h a o):∃x,h.get? a=some x/\¬Imm x:=by
 cases o with
 | list vs=>obtain⟨items,⟨n,e⟩,_⟩:=r;exact⟨_,e,Imm.not (by simp) (by simp) (by simp)⟩
 | sd es=>
  obtain⟨kvs,d,_⟩:=r;obtain⟨o,es,ep,ho,hx,_⟩:=d;exact⟨o,ho,Imm.not (by rw[hx.1];decide) (by rw[hx.1];decide) (by rw[hx.1];decide)⟩
 | id es=>
  obtain⟨kvs,d,_⟩:=r;obtain⟨o,es,ep,ho,hx,_⟩:=d;exact⟨o,ho,Imm.not (by rw[hx.1];decide) (by rw[hx.1];decide) (by rw[hx.1];decide)⟩
 | inst c dx=>exact⟨_,r,Imm.not (fun z=>by cases z) (fun z=>by cases z) (fun z=>by cases z)⟩
 | tab pos q=>
  rcases r with e|⟨c',o,vs,t,e,_⟩
  ·exact⟨_,e,Imm.not (fun z=>by cases z) (fun z=>by cases z) (fun z=>by cases z)⟩
  ·exact⟨_,e,Imm.not (fun z=>by cases z) (fun z=>by cases z) (fun z=>by cases z)⟩
 | exc c=>
  obtain⟨o,vs,e,hc,_⟩:=r;exact⟨o,e,Imm.not (fun z=>by rw[hc]at z;cases z) (fun z=>by rw[hc]at z;cases z) (fun z=>by rw[hc]at z;cases z)⟩
 | ie es ep=>
  obtain⟨kvs,d,_⟩:=r;obtain⟨o,es,ho,hx,_⟩:=d;exact⟨o,ho,Imm.not (by rw[hx.1];decide) (by rw[hx.1];decide) (by rw[hx.1];decide)⟩
theorem Rep.at{C:Cx}{h h':Heap}{a:Addr}{o:O}(r:Rep C h a o)(k:∀x,h.get? a=some x->h'.get? a=some x)(t:X7 h h'):Rep C h' a o:=by
 cases o with
 | list vs=>obtain⟨items,p,q⟩:=r;exact⟨items,p.at k,q.mono t⟩
 | sd es=>
  obtain⟨kvs,d,q⟩:=r;obtain⟨o,es',ep,ho,rest⟩:=d;exact⟨kvs,⟨o,es',ep,k _ ho,rest⟩,q.mono t⟩
 | id es=>
  obtain⟨kvs,d,q⟩:=r;obtain⟨o,es',ep,ho,rest⟩:=d;exact⟨kvs,⟨o,es',ep,k _ ho,rest⟩,q.mono t⟩
 | inst c dx=>exact k _ r
 | tab pos q=>
  rcases r with e|⟨c',o,vs,u,e,e2,h1,h2,h3⟩
  ·exact .inl (k _ e)
  ·exact .inr ⟨c',o,vs,u,k _ e,t _ _ (.inr (.inr ⟨h1,vs,h2⟩)) e2,h1,h2,h3⟩
 | exc c=>
  obtain⟨o,vs,e,r⟩:=r;exact⟨o,vs,k _ e,r⟩
 | ie es ep=>
  obtain⟨kvs,d,q⟩:=r;obtain⟨o,es',ho,rest⟩:=d;exact⟨kvs,⟨o,es',k _ ho,rest⟩,q.mono t⟩
structure St(C:Cx)(σ:X0)(s:Shared):Prop where
 base:∀b o,C.h₀.get? b=some o->s.heap.get? b=some o
 rep:∀a o,σ a=some o->Rep C s.heap a o
 above:∀a o,σ a=some o->C.h₀.get? a=none/\(C.n₀<=a\/a∈C.tabs\/C.loose)
 gens:s.gens=C.gens
 os:s.os=C.os
theorem St.size{C:Cx}{σ:X0}{s:Shared}(S:St C σ s):C.n₀<=s.heap.objs.size:=by
 cases q:C.n₀ with
 | zero=>exact Nat.zero_le _
 | succ m=>
  obtain⟨o,e⟩:=C.top m q;exact Heap.lt_size (S.base m o e)
noncomputable def Xv(h':Heap)(b:Addr)(o:Obj):Prop:=h'.get? b=some o\/((∃es n,o.data=.dict es n)/\∃sl,h'.get? b=some { o with slots:=sl })
theorem Xv.got{h':Heap}{b:Addr}{o:Obj}(x:Xv h' b o):∃o',h'.get? b=some o':=by
 rcases x with x|⟨_,_,x⟩<;>exact⟨_,x⟩
theorem Xv.trans{h1 h2:Heap}{b:Addr}{o:Obj}(x:Xv h1 b o)(k:∀o',h1.get? b=some o'->Xv h2 b o'):Xv h2 b o:=by
 rcases x with x|⟨⟨es,n,d⟩,sl,x⟩
 ·exact k _ x
 ·rcases k _ x with y|⟨_,sl',y⟩
  ·exact .inr ⟨⟨es,n,d⟩,sl,y⟩
  ·exact .inr ⟨⟨es,n,d⟩,sl',y⟩
theorem Xv.exact{h':Heap}{b:Addr}{o:Obj}(x:Xv h' b o)(hn:∀es n,o.data≠.dict es n):h'.get? b=some o:=by
 rcases x with x|⟨⟨es,n,d⟩,_⟩
 ·exact x
 ·exact absurd d (hn es n)
theorem Xv.same{h':Heap}{b:Addr}{o:Obj}(x:Xv h' b o):∃o',h'.get? b=some o'/\o'.data=o.data:=by
 rcases x with x|⟨_,_,x⟩
 ·exact⟨_,x,rfl⟩
 ·exact⟨_,x,rfl⟩
structure Evo(σ:X0)(h:Heap)(σ':X0)(h':Heap):Prop where
 keep:∀b o,h.get? b=some o->σ b=none->Xv h' b o
 dom:∀b o,σ' b=some o->(∃o',σ b=some o')\/h.get? b=none
 mono:∀b o,σ b=some o->∃o',σ' b=some o'
 tup:X7 h h'
theorem Evo.refl(σ:X0)(h:Heap):Evo σ h σ h:=⟨fun z z e z=>.inl e,fun z z e=>.inl ⟨_,e⟩,fun z z e=>⟨_,e⟩,.refl _⟩
theorem Evo.trans{σ1 σ2 σ3:X0}{h1 h2 h3:Heap}(x:Evo σ1 h1 σ2 h2)(y:Evo σ2 h2 σ3 h3):Evo σ1 h1 σ3 h3:=by
 refine⟨fun b o e n=>?_,fun b o e=>?_,fun b o e=>?_,x.tup.trans y.tup⟩
 ·refine(x.keep b o e n).trans fun o' e'=>y.keep b o' e' ?_
  cases q:σ2 b with
  | none=>rfl
  | some o2=>
   rcases x.dom b o2 q with⟨o',e'⟩|e'
   ·rw[n]at e';cases e'
   ·rw[e]at e';cases e'
 ·rcases y.dom b o e with⟨o',e'⟩|e'
  ·exact x.dom b o' e'
  ·cases q:h1.get? b with
   | none=>exact .inr rfl
   | some o1=>
    left
    cases q':σ1 b with
    | some o'=>exact⟨o',rfl⟩
    | none=>
     obtain⟨o',z⟩:=(x.keep b o1 q q').got;rw[z]at e';cases e'
 ·obtain⟨o',e'⟩:=x.mono b o e;exact y.mono b o' e'
abbrev XP:=Value->Shared->Prop
inductive EP(C:Cx)(σ:X0)(h:Heap)(Q:V->X0->Prop)(v:Value)(s':Shared):Prop
 | mk (x:V) (σ':X0) (q:Q x σ') (r:VR s'.heap v x) (S:St C σ' s') (e:Evo σ h σ' s'.heap):EP C σ h Q v s'
inductive TP(C:Cx)(σ:X0)(h:Heap)(Q:Bool->X0->Prop)(b:Bool)(s':Shared):Prop
 | mk (σ':X0) (q:Q b σ') (S:St C σ' s') (e:Evo σ h σ' s'.heap):TP C σ h Q b s'
theorem EP.mono{C:Cx}{σ:X0}{h:Heap}{Q Q':V->X0->Prop}{v:Value}{s':Shared}(x:EP C σ h Q v s')(k:∀x σ',Q x σ'->Q' x σ'):EP C σ h Q' v s':=
 let ⟨a,b,c,d,e,f⟩:=x;⟨a,b,k _ _ c,d,e,f⟩
theorem EP.after{C:Cx}{σ σ1:X0}{h h1:Heap}{Q:V->X0->Prop}{v:Value}{s':Shared}(x:EP C σ1 h1 Q v s')(k:Evo σ h σ1 h1):EP C σ h Q v s':=
 let ⟨a,b,c,d,e,f⟩:=x;⟨a,b,c,d,e,k.trans f⟩
abbrev Rho:=List (Str×V)
noncomputable def Rho.get:Rho->Str->Option V
 | [],_=>none
 | (y,v)::r,x=>if x=y then some v else Rho.get r x
noncomputable def Rho.put:Rho->Str->V->Rho
 | [],x,v=>[(x,v)]
 | (y,u)::r,x,v=>if x=y then(x,v)::r else(y,u)::Rho.put r x v
theorem Rho.get_hit{x:Str}{v:V}{r:Rho}:Rho.get ((x,v)::r) x=some v:=by simp[Rho.get]
theorem Rho.get_miss{x y:Str}{u:V}{v:Option V}{r:Rho}(h:x≠y)(k:Rho.get r x=v):Rho.get ((y,u)::r) x=v:=by simp[Rho.get,h,k]
theorem Rho.put_nil{x:Str}{v:V}:Rho.put [] x v=[(x,v)]:=rfl
theorem Rho.put_hit{x:Str}{u v:V}{r:Rho}:Rho.put ((x,u)::r) x v=(x,v)::r:=by simp[Rho.put]
theorem Rho.put_miss{x y:Str}{u v:V}{r r':Rho}(h:x≠y)(k:Rho.put r x v=r'):Rho.put ((y,u)::r) x v=(y,u)::r':=by simp[Rho.put,h,k]
theorem Rho.get_put(x:Str)(v:V):∀(r:Rho) (y:Str),Rho.get (Rho.put r x v) y=if y=x then some v else Rho.get r y
 | [],y=>by simp[Rho.put,Rho.get]
 | (z,u)::r,y=>by
  have ih:=Rho.get_put x v r y
  by_cases h:x=z
  ·subst h;simp only[Rho.put,if_true,Rho.get]
   by_cases h2:y=x<;>simp[h2]
  ·simp only[Rho.put,h,if_false,Rho.get]
   by_cases h2:y=z
   ·subst h2;simp[Ne.symm h]
   ·simp[h2,ih]
structure Fm(C:Cx)(σ:X0)(h:Heap)(env:Env)(ρ:Rho):Prop where
 fn:env.scope.kind=.function
 loc:∃m,h.Ns env.locals m/\∀x v,env.kindOf x=some .local->ρ.get x=some v->∃u,m x=some u/\VR h u v
 locs:σ env.locals=none
 abv:C.n₀<=env.locals
 cell:∀x c,env.cells.lookup x=some c->∃ov,h.IsCell c ov/\(∀v,ρ.get x=some v->∃u,ov=some u/\VR h u v)
 ncell:∀x c,env.cells.lookup x=some c->σ c=none/\c≠env.locals/\C.n₀<=c
 apart:∀x y c,env.cells.lookup x=some c->env.cells.lookup y=some c->x=y
theorem Z4Q{h h':Heap}{c:Addr}{v:Option Value}(x:h.IsCell c v)(k:∀o,h.get? c=some o->h'.get? c=some o):h'.IsCell c v:=by
 unfold Heap.IsCell at *;obtain⟨o,e,r⟩:=x;exact⟨o,k _ e,r⟩
theorem Z3M{h h':Heap}{c:Addr}{v:Option Value}(x:h.IsCell c v)(k:∀o,h.get? c=some o->Xv h' c o):h'.IsCell c v:=by
 unfold Heap.IsCell at *;obtain⟨o,e,r⟩:=x;obtain⟨o',e',d⟩:=(k _ e).same;exact⟨o',e',d.trans r⟩
theorem Z6u{h h':Heap}{L:Addr}{m:Str->Option Value}(x:h.Ns L m)(k:∀o,h.get? L=some o->Xv h' L o):h'.Ns L m:=by
 obtain⟨o,es,ep,ho,hd,rest⟩:=x;obtain⟨o',e',d⟩:=(k _ ho).same;exact⟨o',es,ep,e',d.trans hd,rest⟩
theorem Fm.evo{C:Cx}{σ σ':X0}{h h':Heap}{env:Env}{ρ:Rho}(F:Fm C σ h env ρ)(k:Evo σ h σ' h'):Fm C σ' h' env ρ:=by
 obtain⟨f1,⟨m,hm,f2⟩,f3,f5,f6,f7,f8⟩:=F;have hm':=Z6u hm fun o e=>k.keep _ _ e f3;obtain⟨o,es,ep,ho,rest⟩:=hm;have nd:∀b o,h.get? b=some o->σ b=none->σ' b=none:=fun b o e n=>by
  cases q:σ' b with
  | none=>rfl
  | some o2=>
   rcases k.dom b o2 q with⟨o',e'⟩|e'
   ·rw[n]at e';cases e'
   ·rw[e]at e';cases e'
 refine⟨f1,⟨m,hm',fun x v hx hv=>?_⟩,nd _ _ ho f3,f5,fun x c hc=>?_,fun x c hc=>?_,f8⟩
 ·obtain⟨u,a,b⟩:=f2 x v hx hv;exact⟨u,a,b.mono k.tup⟩
 ·obtain⟨ov,a,b⟩:=f6 x c hc;obtain⟨n1,_,_⟩:=f7 x c hc;refine⟨ov,Z3M a fun o e=>k.keep _ _ e n1,fun v hv=>?_⟩;obtain⟨u,p,q⟩:=b v hv;exact⟨u,p,q.mono k.tup⟩
 ·obtain⟨n1,n2,n3⟩:=f7 x c hc;obtain⟨ov,a,b⟩:=f6 x c hc;have a':=a;unfold Heap.IsCell at a';obtain⟨o,e,_⟩:=a';exact⟨nd _ _ e n1,n2,n3⟩
noncomputable def Ev(C:Cx)(A:Around)(env:Env)(e:Expr)(ρ:Rho)(σ:X0)(Q:V->X0->Prop)(X:XP):Prop:=
 ∀s,St C σ s->Fm C σ s.heap env ρ->wpAny C.M A (eval e env) (EP C σ s.heap Q) X s
noncomputable def Tst(C:Cx)(A:Around)(env:Env)(e:Expr)(ρ:Rho)(σ:X0)(Q:Bool->X0->Prop)(X:XP):Prop:=
 ∀s,St C σ s->Fm C σ s.heap env ρ->wpAny C.M A (isTrue e env (eval e env)) (TP C σ s.heap Q) X s
noncomputable def X9(C:Cx)(A:Around)(op:Operator)(x y:V)(σ:X0)(Q:V->X0->Prop)(X:XP):Prop:=
 ∀s a b,St C σ s->VR s.heap a x->VR s.heap b y->wpAny C.M A (binaryOp op a b) (EP C σ s.heap Q) X s
noncomputable def X4(C:Cx)(A:Around)(op:CmpOp)(x y:V)(σ:X0)(Q:V->X0->Prop)(X:XP):Prop:=
 ∀s a b,St C σ s->VR s.heap a x->VR s.heap b y->wpAny C.M A (compareOp op a b) (EP C σ s.heap Q) X s
noncomputable def UnWP(C:Cx)(A:Around)(op:UnaryOp)(x:V)(σ:X0)(Q:V->X0->Prop)(X:XP):Prop:=
 ∀s a,St C σ s->VR s.heap a x->wpAny C.M A (unaryOp op a) (EP C σ s.heap Q) X s
noncomputable def Xh(C:Cx)(A:Around)(x:V)(σ:X0)(Q:Bool->X0->Prop)(X:XP):Prop:=
 ∀s a,St C σ s->VR s.heap a x->wpAny C.M A (truthy a) (TP C σ s.heap Q) X s
section
variable {X:XP} {A:Around} {env:Env} {C:Cx} {σ:X0} {ρ:Rho}
abbrev wM:=@wpAny_mono
theorem Ev.bin{l r:Expr}{op:Operator}{pos:Pos}{Q:V->X0->Prop}(h:Ev C A env l ρ σ (fun x σ1=>Ev C A env r ρ σ1 (fun y σ2=>X9 C A op x y σ2 Q X) X) X):Ev C A env (.BinOp l op r pos) ρ σ Q X:=by
 intro s S F;refine wpAny_BinOp (wM (h s S F) ?_ fun u u z=>z);rintro a s1 ⟨x,σ1,h1,r1,S1,e1⟩;refine wM (h1 s1 S1 (F.evo e1)) ?_ fun u u z=>z;rintro b s2 ⟨y,σ2,h2,r2,S2,e2⟩;exact wM (h2 s2 a b S2 (r1.mono e2.tup) r2) (fun u u z=>(z.after e2).after e1) fun u u z=>z
end
open PySem.SeqAt PyProof.Rows
noncomputable def Z1L(p:Str×Value):DictEntry:=⟨0,.str p.1 default,p.2⟩
theorem Z7z(l:List (Str×Value))(x:Str):nsFind (l.map Z1L).toArray x=l.lookup x:=by
 unfold nsFind findBy;rw[List.find?_toArray]
 induction l with
 | nil=>rfl
 | cons p l ih=>
  rw[map_cons,List.find?_cons,List.lookup_cons]
  by_cases h:x=p.1
  ·subst h;simp[Z1L,Value.isStr]
  ·have e1:(Z1L p).key.isStr x=false:=by simp[Z1L,Value.isStr];exact fun z=>h z.symm
   have e2:(x==p.1)=false:=by simpa using h
   show Option.map _ (match (Z1L p).key.isStr x with|true=>_|false=>_)=_;rw[e1,e2];exact ih
theorem cx_ne:Nonempty Cx:=by
 let l:=(Manifest.builtinsNames.map fun y=>(ofString y.1,bootValue y.2 y.1)).reverse
 let o:Obj:={ cls:=.none,data:=.dict (l.map Z1L).toArray 0 }
 let h:Heap:={ objs:=#[o,o,o,o] }
 have g:∀a,a<4->h.get? a=some o:=fun a ha=>by
  match a,ha with
  | 0,_=>rfl
  | 1,_=>rfl
  | 2,_=>rfl
  | 3,_=>rfl
 have N:∀a,a<4->h.Ns a bootBuiltins:=fun a ha=>⟨o,_,_,g a ha,rfl,fun e he=>by
  obtain⟨p,_,rfl⟩:=List.mem_map.mp (List.mem_toArray.mp he);exact⟨_,_,rfl⟩,fun x=>Z7z l x⟩
 exact⟨⟨default,⟨fun z z=>0,{ strHash:=fun z=>0,shareClass:=fun z=>0,mergeTok:=id,idOf:=fun z=>0,idOfShared:=fun z z=>0,followText:=fun z=>false,idOfImm:=fun z=>0 }⟩,h,#[],default,4,fun b o' e=>Heap.lt_size e,(fun m e=>by cases e;exact⟨o,g 3 (by decide)⟩),[],(fun a o' e=>by cases e),bootBuiltins,bootBuiltins,N mainGlobals (by decide),N builtinsNs (by decide),fun z z=>rfl,⟨_,N cStatics (by decide),by decide +kernel⟩,[],True⟩⟩
theorem Z7A:Nonempty Around:=⟨callerA⟩
theorem Z7B:Nonempty Shared:=⟨{}⟩
theorem o_ne:Nonempty O:=⟨.list []⟩
theorem w_ne:Nonempty World:=cx_ne.elim fun C=>⟨C.w⟩
theorem Z7C:Nonempty Model:=cx_ne.elim fun C=>⟨C.M⟩
theorem Z7D:Nonempty PyData:=⟨.none⟩
theorem kd_ne:Nonempty SortKind:=by constructor;constructor
theorem Z7E:Nonempty SortSt:=kd_ne.elim fun k=>⟨SortSt.mk' k #[] #[] 0 none⟩
theorem St.toks{C:Cx}{σ:X0}{s:Shared}(x:St C σ s)(t:Nat):St C σ { s with toks:=t }:=⟨x.base,x.rep,x.above,x.gens,x.os⟩
section
variable {X:XP} {A:Around} {env:Env} {C:Cx} {σ:X0} {ρ:Rho}
theorem EP.pure{s:Shared}{Q:V->X0->Prop}{v:Value}{x:V}(S:St C σ s)(q:Q x σ)(r:VR s.heap v x):EP C σ s.heap Q v s:=
 ⟨x,σ,q,r,S,.refl ..⟩
theorem EP.pureT{s:Shared}{Q:V->X0->Prop}{v:Value}{x:V}{t:Nat}(S:St C σ s)(q:Q x σ)(r:VR s.heap v x):EP C σ s.heap Q v { s with toks:=t }:=
 ⟨x,σ,q,r,S.toks t,.refl ..⟩
theorem Ev.mono{e:Expr}{Q Q':V->X0->Prop}(h:Ev C A env e ρ σ Q X)(k:∀x σ',Q x σ'->Q' x σ'):Ev C A env e ρ σ Q' X:=
 fun s S F=>wM (h s S F) (fun u u z=>z.mono k) fun u u z=>z
theorem Ev.cint{i:Int}{k:Nat}{pos:Pos}{Q:V->X0->Prop}(h:Q (.int i) σ):Ev C A env (.Constant (.int i) k pos) ρ σ Q X:=
 fun z S z=>wpAny_Constant_int (EP.pureT S h (.int _ _))
theorem Ev.cstr{i:Str}{k:Nat}{pos:Pos}{Q:V->X0->Prop}(h:Q (.str i) σ):Ev C A env (.Constant (.str i) k pos) ρ σ Q X:=
 fun z S z=>wpAny_Constant_str (EP.pureT S h (.str _ _))
theorem Ev.cbool{i:Bool}{k:Nat}{pos:Pos}{Q:V->X0->Prop}(h:Q (.bool i) σ):Ev C A env (.Constant (.bool i) k pos) ρ σ Q X:=
 fun z S z=>wpAny_Constant_bool (EP.pure S h (.bool _))
theorem Ev.cnone{k:Nat}{pos:Pos}{Q:V->X0->Prop}(h:Q .none σ):Ev C A env (.Constant .none k pos) ρ σ Q X:=
 fun z S z=>wpAny_Constant_none (EP.pure S h .none)
theorem Ev.loc{x:Str}{pos:Pos}{v:V}{Q:V->X0->Prop}(hk:env.kindOf x=some .local)(hv:ρ.get x=some v)(h:Q v σ)(hd:(x==("__debug__":Str))=false):Ev C A env (.Name x pos) ρ σ Q X:=by
 intro s S F;obtain⟨m,hm,f⟩:=F.loc;obtain⟨u,hu,r⟩:=f x v hk hv;exact wpAny_Name (wpAny_loadName_local F.fn hk hm hu (EP.pure S h r)) hd
theorem Ev.cel{x:Str}{pos:Pos}{v:V}{c:Addr}{Q:V->X0->Prop}(hk:env.kindOf x=some .cell)(hc:env.cells.lookup x=some c)(hv:ρ.get x=some v)(h:Q v σ)(hd:(x==("__debug__":Str))=false):Ev C A env (.Name x pos) ρ σ Q X:=by
 intro s S F;obtain⟨ov,a,b⟩:=F.cell x c hc;obtain⟨u,rfl,r⟩:=b v hv;exact wpAny_Name (wpAny_loadName_cell F.fn hk hc a (EP.pure S h r)) hd
theorem Ev.free{x:Str}{pos:Pos}{v:V}{c:Addr}{Q:V->X0->Prop}(hk:env.kindOf x=some .free)(hc:env.cells.lookup x=some c)(hv:ρ.get x=some v)(h:Q v σ)(hd:(x==("__debug__":Str))=false)(hn:(x==("__classdict__":Str))=false):Ev C A env (.Name x pos) ρ σ Q X:=by
 intro s S F;obtain⟨ov,a,b⟩:=F.cell x c hc;obtain⟨u,rfl,r⟩:=b v hv;exact wpAny_Name (wpAny_loadName_free F.fn hk hc a (EP.pure S h r) hn) hd
theorem Ev.cmp{l r:Expr}{op:CmpOp}{pos:Pos}{Q:V->X0->Prop}(h:Ev C A env l ρ σ (fun x σ1=>Ev C A env r ρ σ1 (fun y σ2=>X4 C A op x y σ2 Q X) X) X)(hm:behindInMarks op r=false:=by kernel_rfl):Ev C A env (.Compare l [op] [r] pos) ρ σ Q X:=by
 intro s S F;refine wpAny_Compare1 (wM (h s S F) ?_ fun u u z=>z) hm;rintro a s1 ⟨x,σ1,h1,r1,S1,e1⟩;refine wM (h1 s1 S1 (F.evo e1)) ?_ fun u u z=>z;rintro b s2 ⟨y,σ2,h2,r2,S2,e2⟩;exact wM (h2 s2 a b S2 (r1.mono e2.tup) r2) (fun u u z=>(z.after e2).after e1) fun u u z=>z
theorem Ev.un{e:Expr}{op:UnaryOp}{pos:Pos}{Q:V->X0->Prop}(h:Ev C A env e ρ σ (fun x σ1=>UnWP C A op x σ1 Q X) X):Ev C A env (.UnaryOp op e pos) ρ σ Q X:=by
 intro s S F;refine wpAny_UnaryOp (wM (h s S F) ?_ fun u u z=>z);rintro a s1 ⟨x,σ1,h1,r1,S1,e1⟩;exact wM (h1 s1 a S1 r1) (fun u u z=>z.after e1) fun u u z=>z
theorem TP.after{σ1:X0}{h h1:Heap}{Q:Bool->X0->Prop}{v:Bool}{s':Shared}(x:TP C σ1 h1 Q v s')(k:Evo σ h σ1 h1):TP C σ h Q v s':=
 let ⟨a,b,c,d⟩:=x;⟨a,b,c,k.trans d⟩
theorem TP.pure{s:Shared}{Q:Bool->X0->Prop}{v:Bool}(S:St C σ s)(q:Q v σ):TP C σ s.heap Q v s:=⟨σ,q,S,.refl ..⟩
theorem Tst.mono{e:Expr}{Q Q':Bool->X0->Prop}(h:Tst C A env e ρ σ Q X)(k:∀x σ',Q x σ'->Q' x σ'):Tst C A env e ρ σ Q' X:=
 fun s S F=>wM (h s S F) (fun _ _ ⟨a,b,c,d⟩=>⟨a,k _ _ b,c,d⟩) fun u u z=>z
theorem Tst.cmp{l r:Expr}{op:CmpOp}{pos:Pos}{Q:Bool->X0->Prop}(h:Ev C A env l ρ σ (fun x σ1=>Ev C A env r ρ σ1 (fun y σ2=>X4 C A op x y σ2 (fun c σ3=>Xh C A c σ3 Q X) X) X) X)(hm:behindInMarks op r=false:=by kernel_rfl) :
  Tst C A env (.Compare l [op] [r] pos) ρ σ Q X:=by
 intro s S F;refine wpAny_isTrue_Compare1 (wM (h s S F) ?_ fun u u z=>z) hm;rintro a s1 ⟨x,σ1,h1,r1,S1,e1⟩;refine wM (h1 s1 S1 (F.evo e1)) ?_ fun u u z=>z;rintro b s2 ⟨y,σ2,h2,r2,S2,e2⟩;refine wM (h2 s2 a b S2 (r1.mono e2.tup) r2) ?_ fun u u z=>z;rintro c s3 ⟨z,σ3,h3,r3,S3,e3⟩;exact wM (h3 s3 c S3 r3) (fun u u z=>TP.after z ((e1.trans e2).trans e3)) fun u u z=>z
theorem Tst.not{e:Expr}{pos:Pos}{Q:Bool->X0->Prop}(h:Tst C A env e ρ σ (fun b σ'=>Q (!b) σ') X):Tst C A env (.UnaryOp .Not e pos) ρ σ Q X:=
 fun s S F=>wpAny_isTrue_Not (wM (h s S F) (fun _ _ ⟨a,b,c,d⟩=>⟨a,b,c,d⟩) fun u u z=>z)
theorem Tst.val{e:Expr}{Q:Bool->X0->Prop}(h:Ev C A env e ρ σ (fun x σ1=>Xh C A x σ1 Q X) X)(he:isTrue e env (eval e env)=(do let v <-eval e env;standAt e.pos;holding [v] (truthy v)):=by kernel_rfl):Tst C A env e ρ σ Q X:=by
 intro s S F;refine wpAny_isTrue_value (wM (h s S F) ?_ fun u u z=>z) he;rintro c s3 ⟨z,σ3,h3,r3,S3,e3⟩;exact wM (h3 s3 c S3 r3) (fun u u z=>TP.after z e3) fun u u z=>z
noncomputable def Xw(C:Cx)(A:Around)(env:Env)(op:BoolOp)(es:List Expr)(ρ:Rho)(σ:X0)(Q:Bool->X0->Prop)(X:XP):Prop:=
 ∀s,St C σ s->Fm C σ s.heap env ρ->wpAny C.M A (allTrue op es env) (TP C σ s.heap Q) X s
theorem Tst.boolop{op:BoolOp}{es:List Expr}{pos:Pos}{Q:Bool->X0->Prop}(h:Xw C A env op es ρ σ Q X):Tst C A env (.BoolOp op es pos) ρ σ Q X:=
 fun s S F=>wpAny_isTrue_BoolOp (h s S F)
theorem Xw.and_nil{Q:Bool->X0->Prop}(h:Q true σ):Xw C A env .And [] ρ σ Q X:=fun s S z=>wpAny_allTrue_And_nil (TP.pure S h)
theorem Xw.or_nil{Q:Bool->X0->Prop}(h:Q false σ):Xw C A env .Or [] ρ σ Q X:=fun s S z=>wpAny_allTrue_Or_nil (TP.pure S h)
theorem Xw.and_cons{e:Expr}{es:List Expr}{Q:Bool->X0->Prop}(h:Tst C A env e ρ σ (fun b σ1=>if b then Xw C A env .And es ρ σ1 Q X else Q false σ1) X):Xw C A env .And (e::es) ρ σ Q X:=by
 intro s S F;refine wpAny_allTrue_And_cons (wM (h s S F) ?_ fun u u z=>z);rintro b s1 ⟨σ1,h1,S1,e1⟩
 cases b with
 | true=>exact wM (h1 s1 S1 (F.evo e1)) (fun u u z=>TP.after z e1) fun u u z=>z
 | false=>exact⟨σ1,h1,S1,e1⟩
theorem Xw.or_cons{e:Expr}{es:List Expr}{Q:Bool->X0->Prop}(h:Tst C A env e ρ σ (fun b σ1=>if b then Q true σ1 else Xw C A env .Or es ρ σ1 Q X) X):Xw C A env .Or (e::es) ρ σ Q X:=by
 intro s S F;refine wpAny_allTrue_Or_cons (wM (h s S F) ?_ fun u u z=>z);rintro b s1 ⟨σ1,h1,S1,e1⟩
 cases b with
 | false=>exact wM (h1 s1 S1 (F.evo e1)) (fun u u z=>TP.after z e1) fun u u z=>z
 | true=>exact⟨σ1,h1,S1,e1⟩
noncomputable def BoolE(C:Cx)(A:Around)(env:Env)(pos:Pos)(op:BoolOp)(es:List Expr)(ρ:Rho)(σ:X0)(Q:V->X0->Prop)(X:XP):Prop:=
 ∀s,St C σ s->Fm C σ s.heap env ρ->wpAny C.M A (boolOp pos op (evalEach es env)) (EP C σ s.heap Q) X s
theorem Ev.boolop{op:BoolOp}{es:List Expr}{pos:Pos}{Q:V->X0->Prop}(h:BoolE C A env pos op es ρ σ Q X):Ev C A env (.BoolOp op es pos) ρ σ Q X:=
 fun s S F=>h s S F
theorem BoolE.one{op:BoolOp}{e:Expr}{pos:Pos}{Q:V->X0->Prop}(h:Ev C A env e ρ σ Q X):BoolE C A env pos op [e] ρ σ Q X:=
 fun s S F=>h s S F
abbrev wB:=@wpAny_bind
abbrev wP:=@wpAny_pure
theorem BoolE.and{e e':Expr}{es:List Expr}{pos:Pos}{Q:V->X0->Prop}(h:Ev C A env e ρ σ (fun x σ1=>Xh C A x σ1 (fun b σ2=>if b then BoolE C A env pos .And (e'::es) ρ σ2 Q X else Q x σ2) X) X):BoolE C A env pos .And (e::e'::es) ρ σ Q X:=by
 revert X A env C σ ρ e e' es pos Q;k_extra "q";intro X A env C σ ρ e e' es pos Q h
 intro s S F;show wpAny C.M A (do
  let v <-eval e env
  standAt pos
  let t <-holding [v] (truthy v)
  match BoolOp.And,t with
  | .And,false|.Or,true=>pure v
  | _,_=>boolOp pos .And (evalEach (e'::es) env)) _ _ s
 refine wB (wM (h s S F) ?_ fun u u z=>z);rintro v s1 ⟨x,σ1,h1,r1,S1,e1⟩;refine wB (wpAny_standAt (wB (wpAny_holding (wM (h1 s1 v S1 r1) ?_ fun u u z=>z))));rintro t s2 ⟨σ2,h2,S2,e2⟩
 cases t with
 | true=>exact wM (h2 s2 S2 ((F.evo e1).evo e2)) (fun u u z=>(z.after e2).after e1) fun u u z=>z
 | false=>exact wP ⟨x,σ2,h2,r1.mono e2.tup,S2,e1.trans e2⟩
theorem Ev.chain{l r1 r2:Expr}{op1 op2:CmpOp}{pos:Pos}{Q:V->X0->Prop}(h:Ev C A env l ρ σ (fun x σ1=>Ev C A env r1 ρ σ1 (fun y σ2=>X4 C A op1 x y σ2 (fun c σ3=>Xh C A c σ3 (fun b σ4=>
   if b then Ev C A env r2 ρ σ4 (fun z σ5=>X4 C A op2 y z σ5 Q X) X else Q c σ4) X) X) X) X)(hm:lastMarks [op1,op2] [r1,r2]=false:=by kernel_rfl):Ev C A env (.Compare l [op1,op2] [r1,r2] pos) ρ σ Q X:=by
 revert X A env C σ ρ l r1 r2 op1 op2 pos Q;k_extra "z";intro X A env C σ ρ l r1 r2 op1 op2 pos Q h hm
 intro s S F;refine PyProof.Rows.Compare_chain (wM (h s S F) ?_ fun u u z=>z) hm;rintro a s1 ⟨x,σ1,h1,v1,S1,e1⟩;refine PyProof.Rows.chain_link (wM (h1 s1 S1 (F.evo e1)) ?_ fun u u z=>z);rintro b s2 ⟨y,σ2,h2,v2,S2,e2⟩;refine wM (h2 s2 a b S2 (v1.mono e2.tup) v2) ?_ fun u u z=>z;rintro c s3 ⟨z,σ3,h3,v3,S3,e3⟩;refine wM (h3 s3 c S3 v3) ?_ fun u u z=>z;rintro t s4 ⟨σ4,h4,S4,e4⟩;have e14:=((e1.trans e2).trans e3).trans e4
 cases t with
 | false=>exact⟨z,σ4,h4,v3.mono e4.tup,S4,e14⟩
 | true=>
  refine PyProof.Rows.chain_last (wM (h4 s4 S4 (F.evo e14)) ?_ fun u u z=>z);rintro d s5 ⟨z',σ5,h5,v5,S5,e5⟩;exact wM (h5 s5 b d S5 (((v2.mono e3.tup).mono e4.tup).mono e5.tup) v5) (fun u u z=>z.after (e14.trans e5)) fun u u z=>z
theorem Tst.chain{l r1 r2:Expr}{op1 op2:CmpOp}{pos:Pos}{Q:Bool->X0->Prop}(h:Ev C A env l ρ σ (fun x σ1=>Ev C A env r1 ρ σ1 (fun y σ2=>X4 C A op1 x y σ2 (fun c σ3=>Xh C A c σ3 (fun b σ4=>
   if b then Ev C A env r2 ρ σ4 (fun z σ5=>X4 C A op2 y z σ5 (fun c σ6=>Xh C A c σ6 Q X) X) X else Q false σ4) X) X) X) X)(hm:lastMarks [op1,op2] [r1,r2]=false:=by kernel_rfl):Tst C A env (.Compare l [op1,op2] [r1,r2] pos) ρ σ Q X:=by
 revert X A env C σ ρ l r1 r2 op1 op2 pos Q;k_extra "z";intro X A env C σ ρ l r1 r2 op1 op2 pos Q h hm
 intro s S F;refine PyProof.Rows.isTrue_chain (wM (h s S F) ?_ fun u u z=>z) hm;rintro a s1 ⟨x,σ1,h1,v1,S1,e1⟩;refine PyProof.Rows.test_link (wM (h1 s1 S1 (F.evo e1)) ?_ fun u u z=>z);rintro b s2 ⟨y,σ2,h2,v2,S2,e2⟩;refine wM (h2 s2 a b S2 (v1.mono e2.tup) v2) ?_ fun u u z=>z;rintro c s3 ⟨z,σ3,h3,v3,S3,e3⟩;refine wM (h3 s3 c S3 v3) ?_ fun u u z=>z;rintro t s4 ⟨σ4,h4,S4,e4⟩;have e14:=((e1.trans e2).trans e3).trans e4
 cases t with
 | false=>exact⟨σ4,h4,S4,e14⟩
 | true=>
  refine PyProof.Rows.test_last (wM (h4 s4 S4 (F.evo e14)) ?_ fun u u z=>z);rintro d s5 ⟨z',σ5,h5,v5,S5,e5⟩;refine wM (h5 s5 b d S5 (((v2.mono e3.tup).mono e4.tup).mono e5.tup) v5) ?_ fun u u z=>z;rintro f s6 ⟨z'',σ6,h6,v6,S6,e6⟩;exact wM (h6 s6 f S6 v6) (fun u u z=>TP.after z ((e14.trans e5).trans e6)) fun u u z=>z
theorem X9.add_int{a b:Int}{Q:V->X0->Prop}(h:Q (.int (a+b)) σ):X9 C A .Add (.int a) (.int b) σ Q X:=by
 intro s a b S ra rb;obtain⟨_,rfl⟩:=ra.intI;obtain⟨_,rfl⟩:=rb.intI;exact PySem.P.add_int (EP.pureT S h (.int _ _))
theorem X9.sub_int{a b:Int}{Q:V->X0->Prop}(h:Q (.int (a-b)) σ):X9 C A .Sub (.int a) (.int b) σ Q X:=by
 intro s a b S ra rb;obtain⟨_,rfl⟩:=ra.intI;obtain⟨_,rfl⟩:=rb.intI;exact PySem.P.sub_int (EP.pureT S h (.int _ _))
theorem X9.mul_int{a b:Int}{Q:V->X0->Prop}(h:Q (.int (a*b)) σ)(hm:IntMulOk a b):X9 C A .Mult (.int a) (.int b) σ Q X:=by
 intro s a b S ra rb;obtain⟨_,rfl⟩:=ra.intI;obtain⟨_,rfl⟩:=rb.intI;exact PySem.P.mul_int (EP.pureT S h (.int _ _)) hm
theorem X9.fdiv_int{a b:Int}{Q:V->X0->Prop}(hb:b≠0)(hs:b.natAbs<1073741824)(h:Q (.int (a.fdiv b)) σ):X9 C A .FloorDiv (.int a) (.int b) σ Q X:=by
 intro s a b S ra rb;obtain⟨_,rfl⟩:=ra.intI;obtain⟨_,rfl⟩:=rb.intI;exact PyProof.Rows.floordiv_int hb (EP.pureT S h (.int _ _)) (.inl (PyProof.noPylong_small hs))
theorem X9.fmod_int{a b:Int}{Q:V->X0->Prop}(hb:b≠0)(h:Q (.int (a.fmod b)) σ):X9 C A .Mod (.int a) (.int b) σ Q X:=by
 intro s a b S ra rb;obtain⟨_,rfl⟩:=ra.intI;obtain⟨_,rfl⟩:=rb.intI;exact PyProof.Rows.mod_int' hb (EP.pureT S h (.int _ _))
theorem UnWP.neg_int{a:Int}{Q:V->X0->Prop}(h:Q (.int (-a)) σ):UnWP C A .USub (.int a) σ Q X:=by
 intro s a S r;obtain⟨_,rfl⟩:=r.intI;exact PySem.P.neg_int (EP.pureT S h (.int _ _))
theorem X4.lt_int{a b:Int}{Q:V->X0->Prop}(h:Q (.bool (decide (a<b))) σ):X4 C A .Lt (.int a) (.int b) σ Q X:=by
 intro s a b S ra rb;obtain⟨_,rfl⟩:=ra.intI;obtain⟨_,rfl⟩:=rb.intI;exact PySem.P.lt_int (EP.pure S h (.bool _))
theorem X4.le_int{a b:Int}{Q:V->X0->Prop}(h:Q (.bool (decide (a<=b))) σ):X4 C A .LtE (.int a) (.int b) σ Q X:=by
 intro s a b S ra rb;obtain⟨_,rfl⟩:=ra.intI;obtain⟨_,rfl⟩:=rb.intI;exact PySem.P.le_int (EP.pure S h (.bool _))
theorem X4.gt_int{a b:Int}{Q:V->X0->Prop}(h:Q (.bool (decide (b<a))) σ):X4 C A .Gt (.int a) (.int b) σ Q X:=by
 intro s a b S ra rb;obtain⟨_,rfl⟩:=ra.intI;obtain⟨_,rfl⟩:=rb.intI;exact PySem.P.gt_int (EP.pure S h (.bool _))
theorem X4.ge_int{a b:Int}{Q:V->X0->Prop}(h:Q (.bool (decide (b<=a))) σ):X4 C A .GtE (.int a) (.int b) σ Q X:=by
 intro s a b S ra rb;obtain⟨_,rfl⟩:=ra.intI;obtain⟨_,rfl⟩:=rb.intI;exact PySem.P.ge_int (EP.pure S h (.bool _))
theorem X4.eq_int{a b:Int}{Q:V->X0->Prop}(h:Q (.bool (a==b)) σ):X4 C A .Eq (.int a) (.int b) σ Q X:=by
 intro s a b S ra rb;obtain⟨_,rfl⟩:=ra.intI;obtain⟨_,rfl⟩:=rb.intI;exact PySem.P.eq_int (EP.pure S h (.bool _))
theorem X4.ne_int{a b:Int}{Q:V->X0->Prop}(h:Q (.bool (a != b)) σ):X4 C A .NotEq (.int a) (.int b) σ Q X:=by
 intro s a b S ra rb;obtain⟨_,rfl⟩:=ra.intI;obtain⟨_,rfl⟩:=rb.intI;exact PySem.P.ne_int (EP.pure S h (.bool _))
theorem X9.add_str{a b:Str}{Q:V->X0->Prop}(h:Q (.str (a++b)) σ)(hs:a.length+b.length<=sizeLine):X9 C A .Add (.str a) (.str b) σ Q X:=by
 intro s a b S ra rb;obtain⟨_,rfl⟩:=ra.strI;obtain⟨_,rfl⟩:=rb.strI;exact PyProof.Rows.add_str (fun z z=>EP.pureT S h (.str _ _)) hs
theorem X4.eq_str{a b:Str}{Q:V->X0->Prop}(h:Q (.bool (a==b)) σ):X4 C A .Eq (.str a) (.str b) σ Q X:=by
 intro s a b S ra rb;obtain⟨_,rfl⟩:=ra.strI;obtain⟨_,rfl⟩:=rb.strI;exact PyProof.Rows.eq_str (EP.pure S h (.bool _))
theorem X4.ne_str{a b:Str}{Q:V->X0->Prop}(h:Q (.bool (a != b)) σ):X4 C A .NotEq (.str a) (.str b) σ Q X:=by
 intro s a b S ra rb;obtain⟨_,rfl⟩:=ra.strI;obtain⟨_,rfl⟩:=rb.strI;exact PyProof.Rows.ne_str (EP.pure S h (.bool _))
theorem Xh.bool{b:Bool}{Q:Bool->X0->Prop}(h:Q b σ):Xh C A (.bool b) σ Q X:=by
 intro s a S r;obtain rfl:=r.boolI;exact wpAny_truthy_bool (TP.pure S h)
end
section
variable {X:XP} {A:Around} {env:Env} {C:Cx} {σ:X0} {ρ:Rho} {s:Shared}
theorem Z7{h h':Heap}{a:Addr}(hs:Heap.SameBut a h h')(hn:∀o,h.get? a=some o->¬Imm o):X7 h h':=fun b o i e=>by
 by_cases q:b=a
 ·subst q;exact absurd i (hn _ e)
 ·exact(hs.2 b q).trans e
theorem Rep.notTup{h:Heap}{a:Addr}{o:O}(r:Rep C h a o):∀o,h.get? a=some o->¬Imm o:=fun o e=>by
 obtain⟨x,hx,h1⟩:=r.isSome;rw[hx]at e;cases e;exact h1
theorem St.ne_of{a b:Addr}{o:O}(S:St C σ s)(ha:σ a=some o)(hb:σ b=none):b≠a:=fun e=>by rw[e,ha]at hb;cases hb
theorem St.set{o o':O}{a:Addr}{h':Heap}{t:Nat}(S:St C σ s)(ha:σ a=some o)(hb:Heap.SameBut a s.heap h')(r:Rep C h' a o') :
  St C (σ.upd a o') { s with heap:=h',toks:=t }/\Evo σ s.heap (σ.upd a o') h':=by
 have tk:X7 s.heap h':=Z7 hb (S.rep a o ha).notTup;refine⟨⟨fun b x e=>?_,fun b x e=>?_,fun b x e=>?_,S.gens,S.os⟩,fun b x e n=>?_,fun b x e=>?_,fun b x e=>?_,tk⟩
 ·have:b≠a:=fun q=>by
   subst q;rw[(S.above b o ha).1]at e;cases e
  exact(hb.2 b this).trans (S.base b x e)
 ·by_cases q:b=a
  ·subst q;rw[X0.upd_self]at e;cases e;exact r
  ·rw[X0.upd_ne _ _ q]at e;exact(S.rep b x e).at (fun y hy=>(hb.2 b q).trans hy) tk
 ·by_cases q:b=a
  ·subst q;exact S.above b o ha
  ·rw[X0.upd_ne _ _ q]at e;exact S.above b x e
 ·exact .inl ((hb.2 b (S.ne_of ha n)).trans e)
 ·left
  by_cases q:b=a
  ·subst q;exact⟨_,ha⟩
  ·rw[X0.upd_ne _ _ q]at e;exact⟨_,e⟩
 ·by_cases q:b=a
  ·subst q;exact⟨_,X0.upd_self ..⟩
  ·exact⟨x,by rw[X0.upd_ne _ _ q];exact e⟩
theorem St.fresh(S:St C σ s):σ s.heap.objs.size=none:=by
 cases q:σ s.heap.objs.size with
 | none=>rfl
 | some o=>
  obtain⟨x,hx,_⟩:=(S.rep _ _ q).isSome;exact absurd (Heap.lt_size hx) (Nat.lt_irrefl _)
theorem get?_fresh(h:Heap):h.get? h.objs.size=none:=by
 cases q:h.get? h.objs.size with
 | none=>rfl
 | some o=>exact absurd (Heap.lt_size q) (Nat.lt_irrefl _)
theorem Evo.ext{h h':Heap}(k:∀b o,h.get? b=some o->h'.get? b=some o):Evo σ h σ h':=
 ⟨fun b o e z=>.inl (k b o e),fun b o e=>.inl ⟨o,e⟩,fun b o e=>⟨o,e⟩,fun a o i e=>k _ _ e⟩
theorem St.ext{h':Heap}{t:Nat}(S:St C σ s)(k:∀b o,s.heap.get? b=some o->h'.get? b=some o):St C σ { s with heap:=h',toks:=t }:=
 ⟨fun b o e=>k _ _ (S.base b o e),fun a o e=>(S.rep a o e).at (fun x hx=>k _ _ hx) fun z z z e=>k _ _ e,S.above,S.gens,S.os⟩
theorem Z2Q(h:Heap)(x:Obj):(h.push x).objs.size=h.objs.size+1:=by
 obtain⟨o,l⟩:=h;simp[Heap.push]
theorem St.baseFresh{a:Addr}(S:St C σ s)(h:C.n₀<=a):C.h₀.get? a=none:=by
 cases q:C.h₀.get? a with
 | none=>rfl
 | some o=>exact absurd (C.low _ _ q) (Nat.not_lt.mpr h)
theorem St.new{x:Obj}{o:O}{t:Nat}(S:St C σ s)(r:Rep C (s.heap.push x) s.heap.objs.size o) :
  St C (σ.upd s.heap.objs.size o) { s with heap:=s.heap.push x,toks:=t }/\Evo σ s.heap (σ.upd s.heap.objs.size o) (s.heap.push x):=by
 revert C σ s x o t;k_extra "O";intro C σ s x o t S r
 have k:∀b y,s.heap.get? b=some y->(s.heap.push x).get? b=some y:=fun b y e=>Heap.get?_push_of_some _ e;have S':=S.ext (t:=t) k;refine⟨⟨S'.base,fun b y e=>?_,fun b y e=>?_,S'.gens,S'.os⟩,fun b y e n=>.inl (k b y e),fun b y e=>?_,fun b y e=>?_,fun a o i e=>k _ _ e⟩
 ·by_cases q:b=s.heap.objs.size
  ·subst q;rw[X0.upd_self]at e;cases e;exact r
  ·rw[X0.upd_ne _ _ q]at e;exact S'.rep b y e
 ·by_cases q:b=s.heap.objs.size
  ·subst q;exact⟨S.baseFresh S.size,.inl S.size⟩
  ·rw[X0.upd_ne _ _ q]at e;exact S.above b y e
 ·by_cases q:b=s.heap.objs.size
  ·subst q;exact .inr (get?_fresh _)
  ·rw[X0.upd_ne _ _ q]at e;exact .inl ⟨_,e⟩
 ·by_cases q:b=s.heap.objs.size
  ·subst q;exact⟨_,X0.upd_self ..⟩
  ·exact⟨y,by rw[X0.upd_ne _ _ q];exact e⟩
theorem St.push{x:Obj}{t:Nat}(S:St C σ s):St C σ { s with heap:=s.heap.push x,toks:=t }:=
 S.ext (fun b y e=>Heap.get?_push_of_some _ e)
theorem Evo.push{h:Heap}{x:Obj}:Evo σ h σ (h.push x):=.ext fun b y e=>Heap.get?_push_of_some _ e
inductive AP(C:Cx)(σ:X0)(h:Heap)(Q:List V->X0->Prop)(vs:List Value)(s':Shared):Prop
 | mk (xs:List V) (σ':X0) (q:Q xs σ') (r:VRs s'.heap vs xs) (S:St C σ' s') (e:Evo σ h σ' s'.heap):AP C σ h Q vs s'
noncomputable def Ags(C:Cx)(A:Around)(env:Env)(pos:Pos)(es:List Expr)(ρ:Rho)(σ:X0)(Q:List V->X0->Prop)(X:XP):Prop:=
 ∀s,St C σ s->Fm C σ s.heap env ρ->wpAny C.M A (spliced (backTo pos (starEach es env))) (AP C σ s.heap Q) X s
theorem Ags.nil{pos:Pos}{Q:List V->X0->Prop}(h:Q [] σ):Ags C A env pos [] ρ σ Q X:=
 fun s S F=>wpAny_items_nil ⟨[],σ,h,.nil,S,.refl ..⟩
theorem Ags.cons{pos:Pos}{e:Expr}{es:List Expr}{Q:List V->X0->Prop}(h:Ev C A env e ρ σ (fun x σ1=>Ags C A env pos es ρ σ1 (fun xs σ2=>Q (x::xs) σ2) X) X)(he:starEach (e::es) env=(false,eval e env)::starEach es env:=by kernel_rfl):Ags C A env pos (e::es) ρ σ Q X:=by
 intro s S F;refine wpAny_items_cons (wM (h s S F) ?_ fun u u z=>z) he;rintro v s1 ⟨x,σ1,h1,r1,S1,e1⟩;refine wM (h1 s1 S1 (F.evo e1)) ?_ fun u u z=>z;rintro vs s2 ⟨xs,σ2,h2,r2,S2,e2⟩;exact⟨x::xs,σ2,h2,.cons (r1.mono e2.tup) r2,S2,e1.trans e2⟩
theorem VRs.push{h:Heap}{x:Obj}{vs:List Value}{xs:List V}(r:VRs h vs xs):VRs (h.push x) vs xs:=r.mono fun z z z e=>Heap.get?_push_of_some _ e
theorem Ev.tuple{es:List Expr}{k:Nat}{pos:Pos}{Q:V->X0->Prop}(h:Ags C A env pos es ρ σ (fun xs σ1=>xs.length<=sizeLine/\Q (.tup xs) σ1) X) :
  Ev C A env (.Tuple es k pos) ρ σ Q X:=by
 intro s S F;refine wpAny_Tuple (wM (h s S F) ?_ fun u u z=>z);rintro vs s1 ⟨xs,σ1,⟨hz,q⟩,r1,S1,e1⟩;refine⟨by rw[r1.length];exact hz,.tup xs,σ1,q,.tup (n:=0) (Heap.get?_push_size _ rfl) (by simpa using r1.push),S1.push,e1.trans .push⟩
theorem Z1x{h:Heap}{vs:List Value}{xs:List V}(r:VRs h vs xs):Rep C (h.push { cls:=.type "list",data:=.seq vs.toArray }) h.objs.size (.list xs):=
 ⟨vs.toArray,⟨0,Heap.get?_push_size _ rfl⟩,by simpa using r.push⟩
theorem Ev.list{es:List Expr}{pos:Pos}{Q:V->X0->Prop}(h:Ags C A env pos es ρ σ (fun xs σ1=>xs.length<=sizeLine/\∀a,σ1 a=none->Q (.ref a) (σ1.upd a (.list xs))) X) :
  Ev C A env (.List es pos) ρ σ Q X:=by
 intro s S F;refine wpAny_List (wM (h s S F) ?_ fun u u z=>z);rintro vs s1 ⟨xs,σ1,⟨hz,q⟩,r1,S1,e1⟩;obtain⟨S2,e2⟩:=S1.new (t:=s1.toks) (Z1x r1);exact⟨by rw[r1.length];exact hz,.ref _,_,q _ S1.fresh,.ref _,S2,e1.trans e2⟩
inductive FV where
 | next|brk|cont|ret (v:V)
abbrev pV:=V->X0->Prop
abbrev pW:=FV->Rho->X0->Prop
abbrev pS:=Value->Shared->Prop
abbrev lO:=List (Addr×O)
theorem Z7F:Nonempty FV:=⟨.next⟩
inductive FR(h:Heap):Flow->FV->Prop where
 | next:FR h .next .next
 | brk:FR h .brk .brk
 | cont:FR h .cont .cont
 | ret {v:Value} {x:V}:VR h v x->FR h (.ret v) (.ret x)
noncomputable def Own(env:Env)(b:Addr):Prop:=b=env.locals\/∃x,env.cells.lookup x=some b
structure Xn(env:Env)(σ:X0)(h:Heap)(σ':X0)(h':Heap):Prop where
 keep:∀b o,h.get? b=some o->σ b=none->¬Own env b->Xv h' b o
 dom:∀b o,σ' b=some o->(∃o',σ b=some o')\/h.get? b=none
 mono:∀b o,σ b=some o->∃o',σ' b=some o'
 tup:X7 h h'
 there:∀b o,h.get? b=some o->Own env b->∃o',h'.get? b=some o'
theorem Evo.evoF{σ':X0}{h h':Heap}(x:Evo σ h σ' h')(hown:∀b,Own env b->σ b=none):Xn env σ h σ' h':=
 ⟨fun b o e n z=>x.keep b o e n,x.dom,x.mono,x.tup,fun b o e w=>(x.keep b o e (hown b w)).got⟩
theorem Xn.refl(h:Heap):Xn env σ h σ h:=⟨fun z z e z z=>.inl e,fun z z e=>.inl ⟨_,e⟩,fun z z e=>⟨_,e⟩,.refl _,fun z o e z=>⟨o,e⟩⟩
theorem Xn.trans{σ1 σ2 σ3:X0}{h1 h2 h3:Heap}(x:Xn env σ1 h1 σ2 h2)(y:Xn env σ2 h2 σ3 h3):Xn env σ1 h1 σ3 h3:=by
 refine⟨fun b o e n w=>?_,fun b o e=>?_,fun b o e=>?_,x.tup.trans y.tup,fun b o e w=>?_⟩
 ·refine(x.keep b o e n w).trans fun o' e'=>y.keep b o' e' ?_ w
  cases q:σ2 b with
  | none=>rfl
  | some o2=>
   rcases x.dom b o2 q with⟨o',e'⟩|e'
   ·rw[n]at e';cases e'
   ·rw[e]at e';cases e'
 ·rcases y.dom b o e with⟨o',e'⟩|e'
  ·exact x.dom b o' e'
  ·cases q:h1.get? b with
   | none=>exact .inr rfl
   | some o1=>
    left
    cases q':σ1 b with
    | some o'=>exact⟨o',rfl⟩
    | none=>
     exfalso
     by_cases w:Own env b
     ·obtain⟨o',z⟩:=x.there b o1 q w;rw[z]at e';cases e'
     ·obtain⟨o',z⟩:=(x.keep b o1 q q' w).got;rw[z]at e';cases e'
 ·obtain⟨o',e'⟩:=x.mono b o e;exact y.mono b o' e'
 ·obtain⟨o',z⟩:=x.there b o e w;exact y.there b o' z w
theorem Fm.own{h:Heap}(F:Fm C σ h env ρ):∀b,Own env b->σ b=none:=by
 rintro b (rfl|⟨x,e⟩)
 ·exact F.locs
 ·exact(F.ncell x b e).1
inductive SP(C:Cx)(env:Env)(σ:X0)(h:Heap)(Q:pW)(f:Flow)(s':Shared):Prop
 | mk (g:FV) (ρ':Rho) (σ':X0) (q:Q g ρ' σ') (r:FR s'.heap f g) (S:St C σ' s') (F:Fm C σ' s'.heap env ρ') (e:Xn env σ h σ' s'.heap):SP C env σ h Q f s'
theorem SP.after{σ1:X0}{h h1:Heap}{Q:pW}{f:Flow}{s':Shared}(x:SP C env σ1 h1 Q f s')(k:Xn env σ h σ1 h1):SP C env σ h Q f s':=
 let ⟨a,b,c,d,e,f,g,i⟩:=x;⟨a,b,c,d,e,f,g,k.trans i⟩
theorem SP.mono{h:Heap}{Q Q':pW}{f:Flow}{s':Shared}(x:SP C env σ h Q f s')(k:∀g ρ σ,Q g ρ σ->Q' g ρ σ):SP C env σ h Q' f s':=
 let ⟨a,b,c,d,e,f,g,i⟩:=x;⟨a,b,c,k _ _ _ d,e,f,g,i⟩
noncomputable def Ex(C:Cx)(A:Around)(env:Env)(st:Stmt)(ρ:Rho)(σ:X0)(Q:pW)(X:XP):Prop:=
 ∀s,St C σ s->Fm C σ s.heap env ρ->wpAny C.M A (exec st env) (SP C env σ s.heap Q) X s
noncomputable def Exs(C:Cx)(A:Around)(env:Env)(st:List Stmt)(ρ:Rho)(σ:X0)(Q:pW)(X:XP):Prop:=
 ∀s,St C σ s->Fm C σ s.heap env ρ->wpAny C.M A (execs st env) (SP C env σ s.heap Q) X s
theorem Exs.mono{ss:List Stmt}{Q Q':pW}(h:Exs C A env ss ρ σ Q X)(k:∀g ρ σ,Q g ρ σ->Q' g ρ σ):Exs C A env ss ρ σ Q' X:=
 fun s S F=>wM (h s S F) (fun u u z=>z.mono k) fun u u z=>z
theorem Ex.mono{ss:Stmt}{Q Q':pW}(h:Ex C A env ss ρ σ Q X)(k:∀g ρ σ,Q g ρ σ->Q' g ρ σ):Ex C A env ss ρ σ Q' X:=
 fun s S F=>wM (h s S F) (fun u u z=>z.mono k) fun u u z=>z
noncomputable def Then(C:Cx)(A:Around)(env:Env)(ss:List Stmt)(Q:pW)(X:XP)(g:FV)(ρ:Rho)(σ:X0):Prop:=
 match g with
 | .next=>Exs C A env ss ρ σ Q X
 | g=>Q g ρ σ
theorem Exs.nil{Q:pW}(h:Q .next ρ σ):Exs C A env [] ρ σ Q X:=
 fun s S F=>wpAny_execs_nil ⟨.next,ρ,σ,h,.next,S,F,.refl _⟩
theorem Exs.cons{st:Stmt}{ss:List Stmt}{Q:pW}(h:Ex C A env st ρ σ (Then C A env ss Q X) X):Exs C A env (st::ss) ρ σ Q X:=by
 intro s S F;refine wpAny_execs_cons (wM (h s S F) ?_ fun u u z=>z);rintro f s1 ⟨g,ρ1,σ1,h1,r1,S1,F1,e1⟩
 cases r1 with
 | next=>exact wM (h1 s1 S1 F1) (fun u u z=>z.after e1) fun u u z=>z
 | brk=>exact⟨_,_,_,h1,.brk,S1,F1,e1⟩
 | cont=>exact⟨_,_,_,h1,.cont,S1,F1,e1⟩
 | ret r=>exact⟨_,_,_,h1,.ret r,S1,F1,e1⟩
theorem Ex.ret{e:Expr}{pos:Pos}{Q:pW}(h:Ev C A env e ρ σ (fun x σ1=>Q (.ret x) ρ σ1) X):Ex C A env (.Return (some e) pos) ρ σ Q X:=by
 intro s S F;refine wpAny_Return_some (wM (h s S F) ?_ fun u u z=>z);rintro v s1 ⟨x,σ1,h1,r1,S1,e1⟩;exact⟨_,_,_,h1,.ret r1,S1,F.evo e1,e1.evoF F.own⟩
theorem Ex.ret0{pos:Pos}{Q:pW}(h:Q (.ret .none) ρ σ):Ex C A env (.Return none pos) ρ σ Q X:=
 fun s S F=>wpAny_Return_none ⟨_,ρ,σ,h,.ret .none,S,F,.refl _⟩
theorem Ex.ite{t:Expr}{b1 b2:List Stmt}{pos:Pos}{Q:pW}(h:Tst C A env t ρ σ (fun b σ1=>if b then Exs C A env b1 ρ σ1 Q X else Exs C A env b2 ρ σ1 Q X) X) :
  Ex C A env (.If t b1 b2 pos) ρ σ Q X:=by
 intro s S F;refine wpAny_If (wM (h s S F) ?_ fun u u z=>z);rintro b s1 ⟨σ1,h1,S1,e1⟩
 cases b
 ·exact wM (h1 s1 S1 (F.evo e1)) (fun u u z=>z.after (e1.evoF F.own)) fun u u z=>z
 ·exact wM (h1 s1 S1 (F.evo e1)) (fun u u z=>z.after (e1.evoF F.own)) fun u u z=>z
noncomputable def Z3b(C:Cx)(l:Addr)(xs:List V):Prop:=∃items,C.h₀.IsList l items/\VRs C.h₀ items.toList xs
noncomputable def X8(C:Cx)(σ:X0)(l:Addr)(xs:List V):Prop:=σ l=some (.list xs)\/Z3b C l xs
theorem X8.raw{l:Addr}{xs:List V}(h:X8 C σ l xs)(S:St C σ s):∃items,s.heap.IsList l items/\VRs s.heap items.toList xs:=by
 rcases h with h|⟨items,⟨o,e,r⟩,h2⟩
 ·obtain⟨items,pl,r⟩:=S.rep _ _ h;exact⟨items,pl.isList,r⟩
 ·exact⟨items,⟨o,S.base _ _ e,r⟩,h2.mono fun z z z e=>S.base _ _ e⟩
end
section
variable {X:XP} {A:Around} {env:Env} {C:Cx} {σ:X0} {ρ:Rho} {s:Shared}
theorem Ex.expr{e:Expr}{pos:Pos}{Q:pW}(h:Ev C A env e ρ σ (fun x σ1=>Q .next ρ σ1) X)(hi:interactive env=false:=by kernel_rfl)(hs:swapsWith e none pos.line env=pure false:=by kernel_rfl):Ex C A env (.Expr e pos) ρ σ Q X:=by
 intro s S F;refine wpAny_Expr_any (wM (h s S F) ?_ fun u u z=>z) hi hs;rintro v s1 ⟨x,σ1,h1,r1,S1,e1⟩;exact⟨_,_,_,h1,.next,S1,F.evo e1,e1.evoF F.own⟩
noncomputable def Asg(C:Cx)(A:Around)(env:Env)(t:Expr)(x:V)(ρ:Rho)(σ:X0)(Q:Rho->X0->Prop)(X:XP):Prop:=
 ∀s v,St C σ s->Fm C σ s.heap env ρ->VR s.heap v x->wpAny C.M A (assign t env v) (fun z s'=>∃ρ' σ',Q ρ' σ'/\St C σ' s'/\Fm C σ' s'.heap env ρ'/\Xn env σ s.heap σ' s'.heap) X s
theorem Fm.storeLocal{h h':Heap}{x:Str}{v:Value}{y:V}{m:Str->Option Value}{t:Nat}(S:St C σ s)(F:Fm C σ s.heap env ρ)(hk:env.kindOf x=some .local)(hm:s.heap.Ns env.locals m)(f:∀x v,env.kindOf x=some .local->ρ.get x=some v->∃u,m x=some u/\VR s.heap u v)(hn:h'.Ns env.locals (fun z=>if z=x then some v else m z))(hs:Heap.SameBut env.locals s.heap h')(r:VR s.heap v y)(hc:env.cells.lookup x=none) :
  St C σ { s with heap:=h',toks:=t }/\Fm C σ h' env (ρ.put x y)/\Xn env σ s.heap σ h':=by
 revert env C σ ρ s h h' x v y m t;k_extra "x";intro env C σ ρ s h h' x v y m t S F hk hm f hn hs r hc
 have nt:∀o,s.heap.get? env.locals=some o->¬Imm o:=fun o e=>by obtain⟨o',es,ep,ho,hd,_⟩:=hm;rw[ho]at e;cases e;exact Imm.notDict hd
 have tk:=Z7 hs nt;have ne:∀b o,σ b=some o->b≠env.locals:=fun b o e q=>by rw[q,F.locs]at e;cases e
 refine⟨⟨fun b o e=>?_,fun b o e=>?_,S.above,S.gens,S.os⟩,⟨F.fn,⟨_,hn,fun z u hz hu=>?_⟩,F.locs,F.abv,fun z c hz=>?_,F.ncell,F.apart⟩,fun b o e n w=>?_,fun b o e=>.inl ⟨o,e⟩,fun b o e=>⟨o,e⟩,tk,fun b o e w=>?_⟩
 ·refine(hs.2 b fun q=>?_).trans (S.base b o e);subst q;exact absurd (C.low _ _ e) (Nat.not_lt.mpr F.abv)
 ·exact(S.rep b o e).at (fun y hy=>(hs.2 b (ne b o e)).trans hy) tk
 ·rw[Rho.get_put]at hu
  by_cases q:z=x
  ·subst q;rw[if_pos rfl]at hu;cases hu;exact⟨v,by simp,r.mono tk⟩
  ·rw[if_neg q]at hu;obtain⟨a,b,d⟩:=f z u hz hu;exact⟨a,by simp[q,b],d.mono tk⟩
 ·obtain⟨ov,a,b⟩:=F.cell z c hz;obtain⟨n1,n2,n3⟩:=F.ncell z c hz;refine⟨ov,a.sameBut hs n2,fun u hu=>?_⟩;rw[Rho.get_put,if_neg (fun q=>by subst q;rw[hc]at hz;cases hz)]at hu;obtain⟨p,q1,q2⟩:=b u hu;exact⟨p,q1,q2.mono tk⟩
 ·exact .inl ((hs.2 b fun q=>w (.inl q)).trans e)
 ·by_cases q:b=env.locals
  ·subst q;obtain⟨o',_,_,ho,_⟩:=hn;exact⟨o',ho⟩
  ·exact⟨o,(hs.2 b q).trans e⟩
theorem Asg.loc{x:Str}{pos:Pos}{y:V}{ρ':Rho}{Q:Rho->X0->Prop}(hk:env.kindOf x=some .local)(hc:env.cells.lookup x=none)(hp:ρ.put x y=ρ')(h:Q ρ' σ) :
  Asg C A env (.Name x pos) y ρ σ Q X:=by
 revert X A env C σ ρ x pos y ρ' Q;k_extra "q";intro X A env C σ ρ x pos y ρ' Q hk hc hp h
 intro s v S F r;obtain⟨m,hm,f⟩:=F.loc;refine wpAny_assign_Name (wpAny_storeName_local hk hm (fun h' hn hs=>?_) (by rw[F.fn];rfl));obtain⟨a,b,c⟩:=Fm.storeLocal (h:=s.heap) (t:=s.toks+1) S F hk hm f hn hs r hc;exact⟨_,_,h,a,hp▸b,c⟩
theorem Asg.cel{x:Str}{pos:Pos}{y:V}{c:Addr}{ρ':Rho}{Q:Rho->X0->Prop}(hk:env.kindOf x=some .cell)(hc:env.cells.lookup x=some c)(hp:ρ.put x y=ρ')(h:Q ρ' σ) :
  Asg C A env (.Name x pos) y ρ σ Q X:=by
 revert X A env C σ ρ x pos y c ρ' Q;k_extra "x";intro X A env C σ ρ x pos y c ρ' Q hk hc hp h
 intro s v S F r;obtain⟨ov,a,b⟩:=F.cell x c hc;obtain⟨n1,n2,n3⟩:=F.ncell x c hc;refine wpAny_assign_Name (wpAny_storeName_cell F.fn hk hc a (fun h' hcl hs=>?_));have nt:∀o,s.heap.get? c=some o->¬Imm o:=fun o e=>by obtain⟨o',ho,hd⟩:=a;rw[ho]at e;cases e;exact Imm.notCell hd
 have tk:=Z7 hs nt;have ne:∀b o,σ b=some o->b≠c:=fun b o e q=>by rw[q,n1]at e;cases e
 obtain⟨m,hm,f⟩:=F.loc;refine⟨ρ',σ,h,⟨fun b o e=>?_,fun b o e=>?_,S.above,S.gens,S.os⟩,hp▸⟨F.fn,⟨m,hm.sameBut hs n2.symm,fun z u hz hu=>?_⟩,F.locs,F.abv,fun z d hz=>?_,F.ncell,F.apart⟩,fun b o e n w=>?_,fun b o e=>.inl ⟨o,e⟩,fun b o e=>⟨o,e⟩,tk,fun b o e w=>?_⟩
 ·refine(hs.2 b fun q=>?_).trans (S.base b o e);subst q;exact absurd (C.low _ _ e) (Nat.not_lt.mpr n3)
 ·exact(S.rep b o e).at (fun y hy=>(hs.2 b (ne b o e)).trans hy) tk
 ·rw[Rho.get_put,if_neg (fun q=>by subst q;rw[hk]at hz;cases hz)]at hu;obtain⟨a,b,d⟩:=f z u hz hu;exact⟨a,b,d.mono tk⟩
 ·by_cases q:z=x
  ·subst q;rw[hc]at hz;cases hz;exact⟨some v,hcl,fun u hu=>by rw[Rho.get_put,if_pos rfl]at hu;cases hu;exact⟨v,rfl,r.mono tk⟩⟩
  ·have dc:d≠c:=fun e=>q (F.apart z x d hz (e▸hc));obtain⟨ov',a',b'⟩:=F.cell z d hz;refine⟨ov',a'.sameBut hs dc,fun u hu=>?_⟩;rw[Rho.get_put,if_neg q]at hu;obtain⟨p,q1,q2⟩:=b' u hu;exact⟨p,q1,q2.mono tk⟩
 ·exact .inl ((hs.2 b fun q=>w (.inr ⟨x,q▸hc⟩)).trans e)
 ·by_cases q:b=c
  ·subst q;obtain⟨o',ho,_⟩:=hcl;exact⟨o',ho⟩
  ·exact⟨o,(hs.2 b q).trans e⟩
theorem Ex.assign{t value:Expr}{pos:Pos}{Q:pW}(h:Ev C A env value ρ σ (fun x σ1=>Asg C A env t x ρ σ1 (fun ρ' σ'=>Q .next ρ' σ') X) X)(hs:swapsWithSole [t] value pos.line env=pure false:=by kernel_rfl)(hw:swappedStores [t] value env=pure none:=by kernel_rfl)(ht:(assignEach [t] env).map (fun x=>x.2)=[assign t env]:=by kernel_rfl):Ex C A env (.Assign [t] value pos) ρ σ Q X:=by
 intro s S F;refine wpAny_Assign_stores (wM (h s S F) ?_ fun u u z=>z) hs hw;rintro v s1 ⟨x,σ1,h1,r1,S1,e1⟩;rw[ht];refine wM (h1 s1 v S1 (F.evo e1) r1) ?_ fun u u z=>z;rintro _ s2 ⟨ρ',σ',q,S2,F2,e2⟩;exact⟨_,_,_,q,.next,S2,F2,(e1.evoF F.own).trans e2⟩
noncomputable def AsgO(C:Cx)(A:Around)(env:Env)(ts:List Expr)(xs:List V)(ρ:Rho)(σ:X0)(Q:Rho->X0->Prop)(X:XP):Prop:=
 ∀s vs,St C σ s->Fm C σ s.heap env ρ->VRs s.heap vs xs->wpAny C.M A (assignInOrder ((assignEach ts env).map (fun x=>x.2)) vs) (fun z s'=>∃ρ' σ',Q ρ' σ'/\St C σ' s'/\Fm C σ' s'.heap env ρ'/\Xn env σ s.heap σ' s'.heap) X s
theorem AsgO.nil{Q:Rho->X0->Prop}(h:Q ρ σ):AsgO C A env [] [] ρ σ Q X:=
 fun s vs S F r=>by cases r;exact wP ⟨ρ,σ,h,S,F,.refl _⟩
theorem AsgO.cons{t:Expr}{ts:List Expr}{x:V}{xs:List V}{Q:Rho->X0->Prop}(h:Asg C A env t x ρ σ (fun ρ1 σ1=>AsgO C A env ts xs ρ1 σ1 Q X) X)(ht:(assignEach (t::ts) env).map (fun x=>x.2)=assign t env::(assignEach ts env).map (fun x=>x.2):=by kernel_rfl):AsgO C A env (t::ts) (x::xs) ρ σ Q X:=by
 revert X A env C σ ρ t ts x xs Q;k_extra "q";intro X A env C σ ρ t ts x xs Q h ht
 intro s vs S F r
 cases r with
 | cons r1 r2=>
  rw[ht];refine wpAny_assignInOrder_more (wM (h s _ S F r1) ?_ fun u u z=>z);rintro _ s1 ⟨ρ1,σ1,q,S1,F1,e1⟩;refine wM (q s1 _ S1 F1 (r2.mono e1.tup)) ?_ fun u u z=>z;rintro _ s2 ⟨ρ2,σ2,q2,S2,F2,e2⟩;exact⟨ρ2,σ2,q2,S2,F2,e1.trans e2⟩
theorem Asg.tup{ts:List Expr}{xs:List V}{k:Nat}{pos:Pos}{Q:Rho->X0->Prop}(hh:A.handled=none)(hl:ts.length=xs.length)(h:AsgO C A env ts xs ρ σ Q X)(hn:(assignEach ts env).length=ts.length:=by kernel_rfl)(hstar:(assignEach ts env).findIdx? (fun x=>x.1)=none:=by kernel_rfl):Asg C A env (.Tuple ts k pos) (.tup xs) ρ σ Q X:=by
 revert X A env C σ ρ ts xs k pos Q;k_extra "q";intro X A env C σ ρ ts xs k pos Q hh hl h hn hstar
 intro s v S F r
 cases r with
 | @tup a items n _ ha hr=>
  refine wpAny_assign_Tuple hh (t:=a) (items:=items) ⟨_,ha,rfl,n,rfl⟩ ?_ hstar (fun h' he=>?_)
  ·rw[hn,hl,<-hr.length];simp
  ·have k:∀b o,s.heap.get? b=some o->h'.get? b=some o:=fun b o e=>he b o (Nat.ne_of_lt (Heap.lt_size e)) e;have e0:Evo σ s.heap σ h':=.ext k;refine wM (h { s with heap:=h' } items.toList (S.ext (t:=s.toks) k) (F.evo e0) (hr.mono e0.tup)) ?_ fun u u z=>z;rintro _ s2 ⟨ρ2,σ2,q2,S2,F2,e2⟩;exact⟨ρ2,σ2,q2,S2,F2,(e0.evoF F.own).trans e2⟩
end
noncomputable def FV.val:FV->V
 | .ret v=>v
 | _=>.none
noncomputable def fval:Flow->Value
 | .ret v=>v
 | _=>.none
theorem FR.val{h:Heap}{f:Flow}{g:FV}(r:FR h f g):VR h (fval f) g.val:=by
 cases r<;>first|exact .none|assumption
noncomputable def X1(C:Cx)(A:Around)(f:Value)(args:List V)(σ:X0)(Q:pV)(X:XP):Prop:=
 ∀s vs,St C σ s->VRs s.heap vs args->wpAny C.M A (call f vs) (EP C σ s.heap Q) X s
section
variable {kindOf:Str->Option NameKind} {h:Heap}
theorem Z1W{x:Str}:∀(names:List Str) (vals:List Value) (m:Str->Option Value),x∉names->bindL kindOf (names.zip vals) m x=m x
 | [],_,_,_=>rfl
 | _::_,[],_,_=>rfl
 | n::names,v::vals,m,hx=>by
  show bindL kindOf (names.zip vals) _ x=m x;rw[Z1W names vals _ fun q=>hx (.tail _ q)]
  split
  ·exact if_neg fun(q:x=n)=>hx (q▸.head _)
  ·rfl
theorem Z1X{x:Str}:∀(names:List Str) (vals:List Value) (m:Str->Option Value),x∉names->bindC kindOf (names.zip vals) m x=m x
 | [],_,_,_=>rfl
 | _::_,[],_,_=>rfl
 | n::names,v::vals,m,hx=>by
  show bindC kindOf (names.zip vals) _ x=m x;rw[Z1X names vals _ fun q=>hx (.tail _ q)]
  split
  ·rfl
  ·exact if_neg fun(q:x=n)=>hx (q▸.head _)
theorem Z4R{x:Str}{y:V}:∀(names:List Str) (vals:List Value) (args:List V) (m:Str->Option Value),VRs h vals args->names.Nodup->kindOf x=some .local->
  Rho.get (names.zip args) x=some y->∃u,bindL kindOf (names.zip vals) m x=some u/\VR h u y:=by
 revert kindOf h x y;k_extra "J";intro kindOf h x y
 intro names
 induction names with
 | nil=>intro _ _ _ _ _ _ e;cases e
 | cons n names ih=>
  intro vals args m rr nd hk e
  cases args with
  | nil=>cases e
  | cons a args=>
  obtain⟨v,vals,rfl,r,rs⟩:=rr.consI;have nd':=List.nodup_cons.mp nd;show ∃u,bindL kindOf (names.zip vals) _ x=some u/\_;have e':(if x=n then some a else Rho.get (names.zip args) x)=some y:=e
  by_cases q:x=n
  ·subst q;rw[if_pos rfl]at e';cases e';rw[Z1W names vals _ nd'.1,if_pos hk];exact⟨v,if_pos rfl,r⟩
  ·rw[if_neg q]at e';exact ih vals args _ rs nd'.2 hk e'
theorem Z4S{x:Str}{y:V}:∀(names:List Str) (vals:List Value) (args:List V) (m:Str->Option Value),VRs h vals args->names.Nodup->kindOf x≠some .local->
  Rho.get (names.zip args) x=some y->∃u,bindC kindOf (names.zip vals) m x=some u/\VR h u y:=by
 intro names
 induction names with
 | nil=>intro _ _ _ _ _ _ e;cases e
 | cons n names ih=>
  intro vals args m rr nd hk e
  cases args with
  | nil=>cases e
  | cons a args=>
  obtain⟨v,vals,rfl,r,rs⟩:=rr.consI;have nd':=List.nodup_cons.mp nd;show ∃u,bindC kindOf (names.zip vals) _ x=some u/\_;have e':(if x=n then some a else Rho.get (names.zip args) x)=some y:=e
  by_cases q:x=n
  ·subst q;rw[if_pos rfl]at e';cases e';rw[Z1X names vals _ nd'.1,if_neg hk];exact⟨v,if_pos rfl,r⟩
  ·rw[if_neg q]at e';exact ih vals args _ rs nd'.2 hk e'
end
set_option tactic.hygienic true in
theorem ZU:∀(names:List (Str×NameKind)) (n:Nat) (acc:List (Str×Addr)) (x:Str) (c:Addr),(x,c)∈cellsFrom n names acc->(x,c)∈acc\/(x,NameKind.cell)∈names
 | [],_,_,_,_,h=>.inl h
 | (nm,k)::r,n,acc,x,c,h=>by
  unfold cellsFrom at h
  split at h
  ·rename_i hk
   rcases ZU r _ _ x c h with q|q
   ·rcases List.mem_cons.mp q with q|q
    ·cases q
     right
     rw[<-beq_iff_eq.mp hk];exact .head _
    ·exact .inl q
   ·exact .inr (.tail _ q)
  ·rcases ZU r _ _ x c h with q|q
   ·exact .inl q
   ·exact .inr (.tail _ q)
noncomputable def Zd(scope:Scope):Bool:=scope.names.all fun p=>p.2 != .cell||scope.names.lookup p.1==some .cell
section
variable {X:XP} {A:Around} {env:Env} {C:Cx} {σ:X0} {ρ:Rho} {s:Shared}
theorem St.callee{fd:FuncData}{f:Addr}{names:List Str}{vals:List Value}{args:List V}{s₁:Shared}(S:St C σ s)(r:VRs s.heap vals args)(nd:names.Nodup)(hk:fd.scope.kind=.function)(hsc:Zd fd.scope=true)(x:InCallC s (callEnvC fd s.heap.objs.size f).locals (bindL (callEnvC fd s.heap.objs.size f).kindOf (names.zip vals) fun u=>none) (callEnvC fd s.heap.objs.size f).cells
    (bindC (callEnvC fd s.heap.objs.size f).kindOf (names.zip vals) fun u=>none) s₁) :
  St C σ s₁/\Fm C σ s₁.heap (callEnvC fd s.heap.objs.size f) (names.zip args)/\(∀b o,s.heap.get? b=some o->s₁.heap.get? b=some o):=by
 revert C σ s fd f names vals args s₁;k_extra "F";intro C σ s fd f names vals args s₁ S r nd hk hsc x
 obtain⟨⟨⟨h,tk,rfl⟩,ns,keep,fr⟩,cell,apart,above⟩:=x;have L:(callEnvC fd s.heap.objs.size f).locals=s.heap.objs.size:=rfl;have e0:Evo σ s.heap σ h:=.ext keep;have fresh:∀b,s.heap.objs.size<=b->σ b=none:=fun b hb=>by
  cases q:σ b with
  | none=>rfl
  | some o=>
   obtain⟨y,hy,_⟩:=(S.rep _ _ q).isSome;exact absurd (Heap.lt_size hy) (Nat.not_lt.mpr hb)
 have up:∀n c,(callEnvC fd s.heap.objs.size f).cells.lookup n=some c->s.heap.objs.size<c:=fun n c hc=>L▸above n c (mem_of_lookup hc);refine⟨S.ext keep,⟨hk,⟨_,ns,fun y v hy hv=>Z4R names vals args _ (r.mono e0.tup) nd hy hv⟩,fresh _ (L▸Nat.le_refl _),L▸S.size,fun y c hc=>⟨_,cell y c hc,fun v hv=>?_⟩,fun y c hc=>?_,fun y z c hy hz=>?_⟩,keep⟩
 ·refine Z4S names vals args _ (r.mono e0.tup) nd ?_ hv;rcases ZU _ _ _ _ _ (mem_of_lookup hc) with q|q
  ·cases q
  ·have:=List.all_eq_true.mp hsc _ q;intro z;have z':fd.scope.names.lookup y=some .local:=z;simp only[bne_self_eq_false,Bool.false_or,beq_iff_eq]at this;rw[z']at this;cases this
 ·have:=up y c hc;exact⟨fresh c (Nat.le_of_lt this),fun q=>by rw[q,L]at this;exact Nat.lt_irrefl _ this,Nat.le_trans S.size (Nat.le_of_lt this)⟩
 ·exact name_of_addr apart (mem_of_lookup hy) (mem_of_lookup hz)
theorem EP.ret{s₁:Shared}{fd:FuncData}{f:Addr}{Q:pV}{fl:Flow}{s':Shared}(S:St C σ s)(keep:∀b o,s.heap.get? b=some o->s₁.heap.get? b=some o)(hup:∀n c,(callEnvC fd s.heap.objs.size f).cells.lookup n=some c->s.heap.objs.size<c)(z:SP C (callEnvC fd s.heap.objs.size f) σ s₁.heap (fun g u σ'=>Q g.val σ') fl s'):EP C σ s.heap Q (fval fl) s':=by
 obtain⟨g,ρ',σ',q,r,S',F',e⟩:=z;refine⟨g.val,σ',q,r.val,S',fun b o hb n=>?_,fun b o hb=>?_,e.mono,fun a o i h=>e.tup _ _ i (keep _ _ h)⟩
 ·refine e.keep b o (keep b o hb) n ?_;have hlt:=Heap.lt_size hb;rintro(q|⟨x,hx⟩)
  ·rw[q]at hlt;exact Nat.lt_irrefl _ hlt
  ·exact absurd (hup x b hx) (Nat.not_lt.mpr (Nat.le_of_lt hlt))
 ·rcases e.dom b o hb with h|h
  ·exact .inl h
  ·right
   cases q:s.heap.get? b with
   | none=>rfl
   | some y=>rw[keep b y q]at h;cases h
theorem X1.fn{f:Addr}{o:Obj}{fd:FuncData}{body:List Stmt}{names:List Str}{args:List V}{Q:pV}(ho:C.h₀.get? f=some o)(hd:o.data=.func fd)(hlim:C.h₀.NoLimit)(hcd:C.h₀.CodeRec fd.code fd.qualname)(hbody:fd.body=.stmts body)(hbind:∀vals:List Value,vals.length=args.length->bindArgs fd ⟨vals,[]⟩=pure (names.zip vals))(hclo:fd.closure=[])(nd:names.Nodup)(hkind:∀x∈names,fd.scope.names.lookup x=some .local\/(fd.scope.names.lookup x=some .cell/\∀L,((cellsFrom L fd.scope.names []).lookup x).isSome=true))(hroom:A.depth<recursionLimit)(hsc:Zd fd.scope=true)(hco:fd.scope.isCoroutine=false)(hgen:fd.scope.isGenerator=false)(hk:fd.scope.kind=.function)(h:∀L,Exs C (A.deeper (callEnvC fd L f)) (callEnvC fd L f) body (names.zip args) σ (fun g u σ'=>Q g.val σ') (fun u u=>False)):X1 C A (.ref f) args σ Q X:=by
 revert X A C σ f o fd body names args Q;k_extra "q";intro X A C σ f o fd body names args Q ho hd hlim hcd hbody hbind hclo nd hkind hroom hsc hco hgen hk h
 intro s vs S r;have hk':∀b o,C.h₀.get? b=some o->s.heap.get? b=some o:=S.base;refine wpAny_call (codeAny_call_cells (fd:=fd) hroom (hk' _ _ ho) hd (hlim.keeps hk') (hcd.keeps hk') hbody (hbind vs r.length) hclo ?_ (fun s₁ x=>?_) hco hgen hk)
 ·intro y hy;rcases hkind y.1 (List.of_mem_zip hy).1 with q|⟨q,q'⟩
  ·exact .inl q
  ·exact .inr ⟨q,q' _⟩
 ·obtain⟨S₁,F₁,keep⟩:=S.callee r nd hk hsc x;refine wM (h s.heap.objs.size s₁ S₁ F₁) (fun fl s' z=>?_) (fun u u z=>z.elim);have y:=EP.ret S keep (fun n c hc=>x.above n c (mem_of_lookup hc)) z
  cases fl<;>exact y
end
section
variable {X:XP} {A:Around} {env:Env} {C:Cx} {σ:X0} {ρ:Rho} {s:Shared}
theorem St.K(S:St C σ s):C.K.In s.heap:=fun a o e=>S.base _ _ (C.KX a o e)
theorem VR.base{v:Value}{x:V}(r:VR C.h₀ v x)(S:St C σ s):VR s.heap v x:=r.mono fun z z z e=>S.base _ _ e
theorem Ev.glob{x:Str}{pos:Pos}{v:Value}{y:V}{Q:pV}(hk:env.kindOf x=some .globalImplicit)(e:nsIn C.K mainGlobals x=some (some v))(r:VR C.h₀ v y)(h:Q y σ)(hg:env.globals=mainGlobals)(hd:(x==("__debug__":Str))=false):Ev C A env (.Name x pos) ρ σ Q X:=by
 intro s S F;refine Calls.Name_function_global F.fn hk (Calls.loadGlobal_global (mg:=C.mg) ?_ (mg_of C.KX C.hg e) (EP.pure S h (r.base S))) hd;rw[hg];exact C.hg.keeps S.base
theorem Ev.gblt{x:Str}{pos:Pos}{v:Value}{y:V}{Q:pV}(hk:env.kindOf x=some .globalImplicit)(e:nsIn C.K mainGlobals x=some none)(hv:bootBuiltins x=some v)(r:VR C.h₀ v y)(h:Q y σ)(hn:x≠"__name__")(hg:env.globals=mainGlobals)(hb:env.builtins=builtinsNs)(hd:(x==("__debug__":Str))=false):Ev C A env (.Name x pos) ρ σ Q X:=by
 intro s S F;refine Calls.Name_function_global F.fn hk (Calls.loadGlobal_builtin (mg:=C.mg) (mb:=C.mb) ?_ (mg_none_of C.KX C.hg e) ?_ ((C.blt x hn).trans hv) (EP.pure S h (r.base S))) hd
 ·rw[hg];exact C.hg.keeps S.base
 ·rw[hb];exact C.hb.keeps S.base
noncomputable def Kp(C:Cx)(f:Value):Prop:=∀h:Heap,(∀b o,C.h₀.get? b=some o->h.get? b=some o)->∃k,(k=Keeper.frame\/k=Keeper.machine\/k=Keeper.boundFrame)/\Looks C.M h (keeperOf f) k
theorem Kp.ref{f:Value}(e:keepIn C.K f=true):Kp C f:=fun h k=>keeps_K e h fun a o q=>k _ _ (C.KX a o q)
theorem Kp.blt{i:String}:Kp C (.builtin i):=fun h k=>⟨.machine,.inr (.inl rfl),.now⟩
theorem Kp.typ{i:String}:Kp C (.type i):=fun h k=>⟨.machine,.inr (.inl rfl),.now⟩
theorem Z1Y{M:Model}{E:XP}{f:Value}{Q:Args->Shared->Prop}:∀{trees:List (Bool×Sem Value)},trees.any (fun x=>x.1)=false->wpAny M A (spliced trees) (fun vs s'=>Q ⟨vs,[]⟩ s') E s->wpAny M A (evalArgs f true trees []) Q E s
 | [],_,h=>by
  unfold evalArgs;show wpAny M A (spliced []>>=_) Q E s;refine wB (wM h (fun vs s' h'=>?_) fun z z x=>x);refine wpAny_holding ?_;exact wB (wP (wB (wP (wP h'))))
 | (false,x)::rest,_,h=>Calls.evalArgs_plain h
 | (true,x)::rest,e,_=>by simp at e
theorem Zl{pos:Pos}{f:Value}{first:List Value}{fx:List V}{args:List Expr}{Q:pV}(kp:Kp C f)(S:St C σ s)(F:Fm C σ s.heap env ρ)(rf:VRs s.heap first fx)(h:Ags C A env pos args ρ σ (fun xs σ1=>X1 C A f (fx++xs) σ1 Q X) X)(he:(backTo pos (starEach args env)).any (fun x=>x.1)=false) :
  wpAny C.M A (callWith pos f first (backTo pos (starEach args env)) []) (EP C σ s.heap Q) X s:=by
 refine callWith_of (P:=fun h=>∀b o,C.h₀.get? b=some o->h.get? b=some o) (by rw[he];rfl) kp ?_;refine Z1Y he (wM (h s S F) ?_ fun u u z=>z);rintro vs s1 ⟨xs,σ1,q,r1,S1,e1⟩;exact⟨S1.base,wM (q s1 _ S1 ((rf.mono e1.tup).append r1)) (fun u u z=>z.after e1) fun u u z=>z⟩
theorem Z26{kvs:List (Str×Value)}{h:Heap}{dx:Addr}(D:h.DictOf (strKind C.prog C.w) dx kvs):∃es n,h.get? dx=some (dictOf es n)/\Pairs (strKind C.prog C.w) es kvs/\KeysOf (strKind C.prog C.w) es.toArray/\(kvs.map (fun x=>x.1)).Nodup:=by
 revert C kvs h dx;k_extra "J";intro C kvs h dx D
 obtain⟨⟨c,d,dt,sl⟩,es,ep,ho,⟨hc,hd,hs⟩,hdt,hk,hp,hn⟩:=D;dsimp only at hc hd hs hdt;subst hc hd hs hdt;exact⟨es.toList,ep,by simpa using ho,hp,by simpa using hk,hn⟩
theorem PR.find{h:Heap}{K:Type}[DecidableEq K]{x:K}{y:V}{kvs:List (K×Value)}{es:List (K×V)}(z:PR h kvs es):(es.find? fun p=>decide (p.1=x)).map (fun x=>x.2)=some y->∃v,(kvs.find? fun p=>decide (p.1=x)).map (fun x=>x.2)=some v/\VR h v y:=by
 induction z with
 | nil=>intro e;cases e
 | @cons k _ _ _ _ r rs ih=>
  intro e
  by_cases q:k=x
  ·subst q;simp only[List.find?_cons,decide_true,Option.map_some,Option.some.injEq]at e ⊢;subst e;exact⟨_,rfl,r⟩
  ·simp only[List.find?_cons,q,decide_false]at e ⊢;exact ih e
theorem PR.find_none{h:Heap}{K:Type}[DecidableEq K]{x:K}{kvs:List (K×Value)}{es:List (K×V)}(z:PR h kvs es):(es.find? fun p=>decide (p.1=x))=none->(kvs.find? fun p=>decide (p.1=x))=none:=by
 induction z with
 | nil=>intro _;rfl
 | @cons k _ _ _ _ r rs ih=>
  intro e
  by_cases q:k=x
  ·subst q;simp at e
  ·simp only[List.find?_cons,q,decide_false]at e ⊢;exact ih e
theorem Z5N(x:Str)(v:Value):v.isStr x=Value.isStrOf x v:=by cases v<;>rfl
theorem Z2R(x:Str):(fun e:DictEntry=>e.key.isStr x)=fun e=>(strKind C.prog C.w).is x e.key:=by
 funext e;exact Z5N x e.key
theorem Z1y{es:List DictEntry}(hk:KeysOf (strKind C.prog C.w) es.toArray):es.any (fun x=>x.refKey)=false:=by
 rw[List.any_eq_false];intro e he;obtain⟨k,q,_⟩:=hk e (by simpa using he);obtain⟨t,hx⟩:=Value.isStrOf_shape q;simp[DictEntry.refKey,hx]
theorem Z42{kvs:List (Str×Value)}{es:List DictEntry}{x:Str}(hp:Pairs (strKind C.prog C.w) es kvs)(hk:KeysOf (strKind C.prog C.w) es.toArray):getL x es=some (valueAt kvs x):=by
 revert C kvs es x;k_extra "J";intro C kvs es x hp hk
 have:=hp.find x;unfold getL;rw[Z2R (C:=C)]
 cases q:es.find? fun e=>(strKind C.prog C.w).is x e.key with
 | some e=>rw[q]at this;simpa using this
 | none=>
  rw[q]at this;dsimp only;rw[Z1y hk,<-this];rfl
noncomputable def sget(es:List (Str×V))(x:Str):Option V:=(es.find? fun p=>decide (p.1=x)).map (fun x=>x.2)
theorem Ev.attr{o:Expr}{name:Str}{pos:Pos}{Q:pV}(h:Ev C A env o ρ σ (fun x σ1=>∃a c dx es y attr,x=.ref a/\σ1 a=some (.inst c dx)/\σ1 dx=some (.sd es)/\sget es name=some y/\plainGet C.K c name=true/\hasDictIn C.K c=true/\
   findIn C.K (.ref c) name=some attr/\noGet C.K attr=true/\(∀i,y≠.blt i)/\Q y σ1) X)(hbase:attributeBase o name env (eval o env)=eval o env:=by kernel_rfl):Ev C A env (.Attribute o name pos) ρ σ Q X:=by
 revert X A env C σ ρ o name pos Q;k_extra "t";intro X A env C σ ρ o name pos Q h hbase
 intro s S F;rw[arm_eval_Attribute,hbase];refine wB (wM (h s S F) ?_ fun w w z=>z);rintro v s1 ⟨x,σ1,⟨a,c,dx,es,y,attr,rfl,ha,hdx,hy,k1,k2,k3,k4,k5,q⟩,r1,S1,e1⟩
 cases r1
 have I0:=S1.rep _ _ ha;obtain⟨kvs,D,pr⟩:=S1.rep _ _ hdx;obtain⟨des,n,hd,hp,hk,hn⟩:=Z26 D;obtain⟨u,hu,ru⟩:=pr.find (x:=name) (y:=y) hy;have hv:handedIn u=true:=by
  cases ru<;>try rfl
  exact absurd rfl (k5 _)
 refine wB (wpAny_standAt (wB (wpAny_holding ?_)));refine get_value S1.K ⟨I0,rfl,rfl,hd⟩ (plainGet_of k1).1 (findObj_own k2 k3 k4 ?_) hv ?_
 ·rw[lookIn_dict,Z42 hp hk];exact congrArg some hu
 ·refine wB (wpAny_letTemporaryGo (wP ?_));exact⟨y,σ1,q,ru,S1.toks _,e1⟩
end
noncomputable def sput:List (Str×V)->Str->V->List (Str×V)
 | [],x,v=>[(x,v)]
 | (y,u)::r,x,v=>if x=y then(x,v)::r else(y,u)::sput r x v
section
variable {X:XP} {A:Around} {env:Env} {C:Cx} {σ:X0} {ρ:Rho} {s:Shared}
theorem PR.length{K:Type}{h:Heap}{a:List (K×Value)}{b:List (K×V)}(z:PR h a b):a.length=b.length:=by
 induction z with
 | nil=>rfl
 | cons _ _ ih=>exact congrArg (·+1) ih
theorem Z3N{K:Type}[DecidableEq K]{k x:K}{u v:Value}{r:List (K×Value)}(hn:(((k,u)::r).map (fun x=>x.1)).Nodup) :
  stored ((k,u)::r) x v=if x=k then(x,v)::r else(k,u)::stored r x v:=by
 by_cases q:x=k
 ·subst q;have:x∉r.map (fun x=>x.1):=(List.nodup_cons.mp hn).1;simp only[stored,List.any_cons,decide_true,Bool.true_or,if_true,map_cons];rw[map_store_of_not_mem r x v this]
 ·have q':¬k=x:=fun e=>q e.symm;simp only[stored,List.any_cons,q',decide_false,Bool.false_or,map_cons,if_false,q]
  split<;>rfl
theorem PR.stored{h:Heap}{x:Str}{v:Value}{y:V}(r:VR h v y){kvs:List (Str×Value)}{es:List (Str×V)}(z:PR h kvs es):(kvs.map (fun x=>x.1)).Nodup->PR h (stored kvs x v) (sput es x y):=by
 induction z with
 | nil=>
  intro _;show PR h (PySem.stored [] x v) [(x,y)];simp only[PySem.stored,List.any_nil,Bool.false_eq_true,if_false,nil_append];exact .cons r .nil
 | @cons k _ _ _ _ a b ih=>
  intro hn;rw[Z3N hn];unfold sput
  by_cases q:x=k
  ·rw[if_pos q,if_pos q];exact .cons r b
  ·rw[if_neg q,if_neg q];exact .cons a (ih (List.nodup_cons.mp hn).2)
theorem Z3i{h:Heap}{d:Addr}{kvs:List (Str×Value)}{name:Str}{v:Value}{t:Tok}(D:h.DictOf (strKind C.prog C.w) d kvs) :
  ∃es n,(h.update d (Obj.putName name (hashStr C.w name) (.str name t) v)).get? d=some (dictOf es n)/\es.length<=kvs.length+1/\
  (h.update d (Obj.putName name (hashStr C.w name) (.str name t) v)).DictOf (strKind C.prog C.w) d (stored kvs name v):=by
 revert C h d kvs name v t;k_extra "B";intro C h d kvs name v t D
 obtain⟨⟨c,dd,dt,sl⟩,es,ep,ho,⟨hc,hd,hs⟩,hdt,hk,hp,hn⟩:=D;dsimp only at hc hd hs hdt;subst hc hd hs hdt;have hkey:(strKind C.prog C.w).is name (.str name t)=true:=by show(name==name)=true;simp
 have hidx:(es.findIdx? fun e=>(strKind C.prog C.w).is name e.key)=kvs.findIdx? fun kv=>decide (kv.1=name):=by
  rw[<-hp.findIdx name];obtain⟨l⟩:=es;simp
 have hlen:=hp.length;have e0:(es.findIdx? fun e=>e.key.isStr name)=es.findIdx? fun e=>(strKind C.prog C.w).is name e.key:=by rw[Z2R (C:=C)]
 cases hi:es.findIdx? fun e=>(strKind C.prog C.w).is name e.key with
 | some i=>
  have e1:Obj.putName name (hashStr C.w name) (.str name t) v ⟨.type "dict",none,.dict es ep,#[]⟩=dictOf (es.modify i fun e=>{ e with val:=v }).toList ep:=by
   rw[Obj.putName_eq];unfold Obj.putNameByArray;dsimp only;rw[e0,hi]
  have g:(h.update d (Obj.putName name (hashStr C.w name) (.str name t) v)).get? d=some (dictOf (es.modify i fun e=>{ e with val:=v }).toList ep):=by
   rw[Heap.get?_update_self _ ho (by rw[e1];rfl),e1]
  refine⟨_,_,g,by simp at hlen ⊢;exact Y38 hlen,_,_,ep,g,⟨rfl,rfl,rfl⟩,rfl,by rw[Array.toArray_toList];exact hk.modify i v,?_,?_⟩
  ·rw[stored,if_pos (any_of_findIdx_some (hidx▸hi))];have hl:(es.toList.findIdx? fun e=>(strKind C.prog C.w).is name e.key)=some i:=by rw[<-hi];obtain⟨l⟩:=es;simp
   have:=hp.modify hn hl v;obtain⟨l⟩:=es;simpa using this
  ·rw[stored,if_pos (any_of_findIdx_some (hidx▸hi)),keys_map_store];exact hn
 | none=>
  have hnot:name∉kvs.map (fun x=>x.1):=not_mem_of_findIdx_none (hidx▸hi);have hany:¬(kvs.any fun kv=>decide (kv.1=name))=true:=by
   rw[List.any_eq_true];rintro⟨kv,hkv,he⟩;exact hnot (List.mem_map.mpr ⟨kv,hkv,of_decide_eq_true he⟩)
  have e1:Obj.putName name (hashStr C.w name) (.str name t) v ⟨.type "dict",none,.dict es ep,#[]⟩=dictOf (es.push ⟨hashStr C.w name,.str name t,v⟩).toList (ep+1):=by
   rw[Obj.putName_eq];unfold Obj.putNameByArray;dsimp only;rw[e0,hi]
  have g:(h.update d (Obj.putName name (hashStr C.w name) (.str name t) v)).get? d=some (dictOf (es.push ⟨hashStr C.w name,.str name t,v⟩).toList (ep+1)):=by
   rw[Heap.get?_update_self _ ho (by rw[e1];rfl),e1]
  refine⟨_,_,g,by simp at hlen ⊢;exact Y2s hlen,_,_,ep+1,g,⟨rfl,rfl,rfl⟩,rfl,by rw[Array.toArray_toList];exact hk.push hkey v,?_,?_⟩
  ·rw[stored,if_neg hany];have:=hp.append hkey (hashStr C.w name) v;obtain⟨l⟩:=es;simpa using this
  ·rw[stored,if_neg hany,map_append,List.nodup_append];refine⟨hn,by simp,?_⟩;intro a ha b hb;simp only[map_cons,List.map_nil,List.mem_singleton]at hb;subst hb;exact fun e=>hnot (e▸ha)
theorem Z3j{x c dx:Addr}{kvs:List (Str×Value)}{name:Str}{v:Value}{E:XP}{Q:Unit->Shared->Prop}(KX:C.K.In s.heap)(hx:s.heap.get? x=some (Z3a c dx))(D:s.heap.DictOf (strKind C.prog C.w) dx kvs)(hs:findIn C.K (.ref c) "__setattr__" = some (some (.builtin "object.__setattr__")))(hp:plainOver C.K c=true)(ht:takerIn C.K c name=some none)(hh:hasDictIn C.K c=true)(hz:kvs.length<=1000)(h:∀h',h'.DictOf (strKind C.prog C.w) dx (stored kvs name v)->Heap.SameBut dx s.heap h'->Q () { s with heap:=h',toks:=s.toks+1+1 }):wpAny C.M A (setAttr (.ref x) name v) Q E s:=by
 revert A C s x c dx kvs name v E Q;k_extra "q";intro A C s x c dx kvs name v E Q KX hx D hs hp ht hh hz h
 obtain⟨es,n,hd,hpr,hk,hn⟩:=Z26 D;have I:InstAt s.heap x (Z3a c dx) c (some (dictOf es n)):=⟨hx,rfl,rfl,hd⟩;refine set_plain KX I hs (osa_open (s:={ s with toks:=s.toks+1 }) KX I hp ht fun b=>?_);obtain⟨cd,hc,hd'⟩:=any_some hh;refine wB (wP (wB (wB (wpAny_loadPart (s:={ s with toks:=s.toks+1 }) hx (wB (Looks.here (s:={ s with toks:=s.toks+1 }) (looks_clsIn KX hc) ?_))))));rw[hd'];refine wP (a:=some dx) (wB (wP (wB ?_)));unfold nsSet;refine wB (wB (wpAny_askSetting (wP (wB (wpAny_mkText (wB (wpAny_loadPart (s:={ s with toks:=s.toks+1+1 }) hd ?_)))))));have cc:(!es.toArray.any (·.key.isStr name)&&es.toArray.any (fun x=>x.refKey))=false:=by
  rw[<-Array.any_toList,<-Array.any_toList];simp only[Z1y hk,Bool.and_false]
 dsimp only;rw[aRefKeyMayBeTheName_at,cc];obtain⟨es',n',g,hl,D'⟩:=Z3i (name:=name) (v:=v) (t:=s.toks+1) D;refine wpAny_updatePart (s:={ s with toks:=s.toks+1+1 }) hd ?_;refine wB (wpAny_lookBehind g (pastItsLine_dict (by rw[List.size_toArray,sizeLine_eq];exact(Nq 0x1c000080000066c100700b040900000003e8c8009) hz hl)) ?_);exact wP (h _ D' (Heap.SameBut.update ..))
theorem Asg.attr{o:Expr}{name:Str}{pos:Pos}{y:V}{Q:Rho->X0->Prop}(h:Ev C A env o ρ σ (fun x σ1=>∃a c dx es,x=.ref a/\σ1 a=some (.inst c dx)/\σ1 dx=some (.sd es)/\es.length<=1000/\
   findIn C.K (.ref c) "__setattr__" = some (some (.builtin "object.__setattr__"))/\plainOver C.K c=true/\takerIn C.K c name=some none/\hasDictIn C.K c=true/\Q ρ (σ1.upd dx (.sd (sput es name y)))) X) :
  Asg C A env (.Attribute o name pos) y ρ σ Q X:=by
 revert X A env C σ ρ o name pos y Q;k_extra "q";intro X A env C σ ρ o name pos y Q h
 intro s v S F r;rw[assign_Attribute];refine wB (wpAny_holding (wM (h s S F) ?_ fun u u z=>z));rintro ov s1 ⟨x,σ1,⟨a,c,dx,es,rfl,ha,hdx,hz,k1,k2,k3,k4,q⟩,r1,S1,e1⟩
 cases r1
 have I0:=S1.rep _ _ ha;have hdx':=S1.rep _ _ hdx;obtain⟨kvs,D,pr⟩:=hdx';have hl:kvs.length=es.length:=pr.length;have hnd:(kvs.map (fun x=>x.1)).Nodup:=by obtain⟨_,_,_,_,_,_,_,_,hn⟩:=D;exact hn
 refine wB (wpAny_standAt (wB (wpAny_holding (Z3j S1.K I0 D k1 k2 k3 k4 (by exact(Nq 0x1f464200044900000003e8c8009) hz hl) fun h' D' sb=>?_))));refine PyProof.Rows.wpAny_release' ?_;have tk:X7 s1.heap h':=Z7 sb (S1.rep _ _ hdx).notTup;obtain⟨S2,e2⟩:=S1.set (t:=s1.toks+1+1) (o':=.sd (sput es name y)) hdx sb ⟨_,D',PR.stored ((r.mono e1.tup).mono tk) (pr.mono tk) hnd⟩;exact⟨ρ,_,q,S2,(F.evo e1).evo e2,(e1.trans e2).evoF F.own⟩
theorem Ev.meth{o:Expr}{name:Str}{apos pos:Pos}{args:List Expr}{Q:pV}{pl:Sem Bool}(h:Ev C A env o ρ σ (fun x σ1=>∃a c dx es f,x=.ref a/\σ1 a=some (.inst c dx)/\σ1 dx=some (.sd es)/\sget es name=none/\plainGet C.K c name=true/\
   findIn C.K (.ref c) name=some (some (.ref f))/\isFn C.K (.ref f)=true/\keepIn C.K (.ref f)=true/\Ags C A env pos args ρ σ1 (fun xs σ2=>X1 C A (.ref f) (.ref a::xs) σ2 Q X) X) X)(he:eval (.Call (.Attribute o name apos) args [] pos) env=(do
   let ov <-eval o env
   standAt apos.atName
   let (f,first) <-holding [ov] (getMethod ov name pl)
   callWith pos f first (backTo pos (starEach args env)) (backToKw pos (keywordEach [] env))):=by kernel_rfl)(hst:(backTo pos (starEach args env)).any (fun x=>x.1)=false:=by kernel_rfl):Ev C A env (.Call (.Attribute o name apos) args [] pos) ρ σ Q X:=by
 revert X A env C σ ρ o name apos pos args Q pl;k_extra "z";intro X A env C σ ρ o name apos pos args Q pl h he hst
 intro s S F;refine methodCall_KW (wM (h s S F) ?_ fun u u z=>z) he;rintro ov s1 ⟨x,σ1,⟨a,c,dx,es,f,rfl,ha,hdx,hy,k1,k2,k3,k4,q⟩,r1,S1,e1⟩
 cases r1
 have I0:=S1.rep _ _ ha;obtain⟨kvs,D,pr⟩:=S1.rep _ _ hdx;obtain⟨des,n,hd,hp,hk,hn⟩:=Z26 D;have hy':(es.find? fun p=>decide (p.1=name))=none:=by
  unfold sget at hy
  cases q:es.find? fun p=>decide (p.1=name) with
  | none=>rfl
  | some z=>rw[q]at hy;cases hy
 have I:InstAt s1.heap a (Z3a c dx) c (some (dictOf des n)):=⟨I0,rfl,rfl,hd⟩;refine method_fn S1.K I (plainGet_of k1).1 (plainGet_of k1).2 k2 (beq_iff_eq.mp k3) ?_ ?_
 ·show(lookIn name (dictOf des n)).map _=_;rw[lookIn_dict,Z42 hp hk];unfold valueAt;rw[pr.find_none hy'];rfl
 ·exact wM (Zl (first:=[.ref a]) (fx:=[.ref a]) (Kp.ref k4) S1 (F.evo e1) (.cons (.ref _) .nil) q hst) (fun u u z=>z.after e1) fun u u z=>z
end
structure Itr(C:Cx)(A:Around)(target:Expr)(it:Value)(ow:Addr->Prop)(J:Nat->Heap->Prop)(ok:X0->Prop)(xs:List V):Prop where
 frame:∀k h h',J k h->X7 h h'->(∀b o,ow b->h.get? b=some o->h'.get? b=some o)->J k h'
 notTup:∀k h b o,J k h->ow b->h.get? b=some o->¬Imm o
 notD:∀k h b o,J k h->ow b->h.get? b=some o->∀es n,o.data≠.dict es n
 there:∀k h b,J k h->ow b->∃o,h.get? b=some o
 more:∀k σ s x (Q:Option Value->Shared->Prop) (X:XP),St C σ s->ok σ->J k s.heap->xs[k]?=some x->(∀b,ow b->σ b=none)->
  (∀v h' tk,VR h' v x->(∀b o,¬ow b->s.heap.get? b=some o->h'.get? b=some o)->(∀b o,ow b->h'.get? b=some o->¬Imm o)->
   (∀(Q':Unit->Shared->Prop) (X':XP),(∀h'' tk',J (k+1) h''->(∀b o,¬ow b->h'.get? b=some o->h''.get? b=some o)->Q' () { s with heap:=h'',toks:=tk' })->
    wpAny C.M A (letOwnedTupleGo target it v) Q' X' { s with heap:=h',toks:=tk })->Q (some v) { s with heap:=h',toks:=tk })->wpAny C.M A (pyNext it) Q X s
 self:∀k (s:Shared) (Q:pS) (X:XP),J k s.heap->Q it s->wpAny C.M A (pyIter it) Q X s
 done:∀k σ s (Q:Option Value->Shared->Prop) (X:XP),St C σ s->ok σ->J k s.heap->xs[k]?=none->(∀b,ow b->σ b=none)->
  (∀h' tk,(∀b o,¬ow b->s.heap.get? b=some o->h'.get? b=some o)->Q none { s with heap:=h',toks:=tk })->wpAny C.M A (pyNext it) Q X s
section
variable {X:XP} {A:Around} {env:Env} {C:Cx} {σ:X0} {ρ:Rho} {s:Shared}
theorem Zw{h h':Heap}{ow:Addr->Prop}(k:∀b o,¬ow b->h.get? b=some o->h'.get? b=some o)(nt:∀b o,ow b->h.get? b=some o->¬Imm o):X7 h h':=
 fun a o i e=>k a _ (fun q=>nt a o q e i) e
theorem St.ow{h':Heap}{t:Nat}{ow:Addr->Prop}(S:St C σ s)(k:∀b o,¬ow b->s.heap.get? b=some o->h'.get? b=some o)(nt:∀b o,ow b->s.heap.get? b=some o->¬Imm o)(no:∀b,ow b->σ b=none)(nb:∀b,ow b->C.h₀.get? b=none):St C σ { s with heap:=h',toks:=t }:=
 ⟨fun b o e=>k b o (fun q=>by rw[nb b q]at e;cases e) (S.base b o e),fun a o e=>(S.rep a o e).at (fun x hx=>k a x (fun q=>by rw[no a q]at e;cases e) hx) (Zw k nt),S.above,S.gens,S.os⟩
theorem Fm.ow{h h':Heap}{ow:Addr->Prop}(F:Fm C σ h env ρ)(k:∀b o,¬ow b->h.get? b=some o->h'.get? b=some o)(nt:∀b o,ow b->h.get? b=some o->¬Imm o)(no:∀b,ow b->¬Own env b):Fm C σ h' env ρ:=by
 revert env C σ ρ h h' ow;k_extra "B";intro env C σ ρ h h' ow F k nt no
 obtain⟨f1,⟨m,hm,f2⟩,f3,f5,f6,f7,f8⟩:=F;have tk:=Zw k nt;obtain⟨o,es,ep,ho,rest⟩:=hm;refine⟨f1,⟨m,⟨o,es,ep,k _ _ (fun q=>no _ q (.inl rfl)) ho,rest⟩,fun x v hx hv=>?_⟩,f3,f5,fun x c hc=>?_,f7,f8⟩
 ·obtain⟨u,a,b⟩:=f2 x v hx hv;exact⟨u,a,b.mono tk⟩
 ·obtain⟨ov,a,b⟩:=f6 x c hc;refine⟨ov,Z4Q a fun o e=>k _ _ (fun q=>no _ q (.inr ⟨x,hc⟩)) e,fun v hv=>?_⟩;obtain⟨u,p,q⟩:=b v hv;exact⟨u,p,q.mono tk⟩
theorem Xn.ow{σ0:X0}{h0 h h':Heap}{ow:Addr->Prop}(e:Xn env σ0 h0 σ h)(k:∀b o,¬ow b->h.get? b=some o->h'.get? b=some o)(fr:∀b,ow b->h0.get? b=none):Xn env σ0 h0 σ h':=by
 refine⟨fun b o q n w=>(e.keep b o q n w).trans fun o' q'=>.inl (k b o' (fun z=>by rw[fr b z]at q;cases q) q'),e.dom,e.mono,fun a i n q=>k a _ (fun z=>by rw[fr a z]at q;cases q) (e.tup a i n q),fun b o q w=>?_⟩;obtain⟨o',q'⟩:=e.there b o q w;exact⟨o',k b o' (fun z=>by rw[fr b z]at q;cases q) q'⟩
theorem Z4T{target:Expr}{it:Value}{body:List Stmt}{ow:Addr->Prop}{J:Nat->Heap->Prop}{ok:X0->Prop}{xs:List V}{σ0:X0}{h0:Heap}(W:Itr C A target it ow J ok xs)(I:Nat->Rho->X0->Prop)(Q:pW)(fr:∀b,ow b->h0.get? b=none)(fro:∀b,ow b->¬Own env b)(frb:∀b,ow b->C.h₀.get? b=none)(turn:∀k ρ σ,I k ρ σ->ok σ/\match xs[k]? with
   | none=>Q .next ρ σ
   | some x=>Asg C A env target x ρ σ (fun ρ1 σ1=>Exs C A env body ρ1 σ1 (fun g ρ2 σ2=>match g with
     | .next|.cont=>I (k+1) ρ2 σ2
     | .brk=>Q .next ρ2 σ2
     | .ret v=>Q (.ret v) ρ2 σ2) (fun u u=>False)) (fun u u=>False)) :
  ∀m k ρ σ s,xs.length-k=m->I k ρ σ->St C σ s->Fm C σ s.heap env ρ->Xn env σ0 h0 σ s.heap->J k s.heap->(∀b,ow b->σ b=none)->
   codeAny C.M A (.forLoop target it body [] env) (fun r s'=>match r with|.ok f=>SP C env σ0 h0 Q f s'|.error _=>False) s:=by
 revert A env C target it body ow J ok xs σ0 h0 W I Q fr fro frb turn;k_extra "x";intro A env C target it body ow J ok xs σ0 h0 W I Q fr fro frb turn
 intro m
 induction m using Nat.strongRecOn with
 | ind m ih=>
 intro k ρ σ s hm hI S F e0 hJ no;obtain⟨hok,tn⟩:=turn k ρ σ hI;refine codeAny_of_tree ?_;show wpAny C.M _ ((forTurn target it body [] env).onRaise (fun x=>do noteFrame x env;theTreesLotGoes x)) _ _ s;rw[show A.under (.forLoop target it body [] env)=A from Around.under_of_weight (by rfl)];refine wpAny_noted ?_;unfold forTurn;refine wB (wpAny_standAt (wB (wpAny_onRaise ?_)));have nt:∀b o,ow b->s.heap.get? b=some o->¬Imm o:=fun b o q=>W.notTup k _ b o hJ q
 cases hx:xs[k]? with
 | none=>
  rw[hx]at tn;refine W.done k σ s _ _ S hok hJ hx no fun h' tk kp=>?_;refine wP ⟨rfl,codeAny_of_tree ?_⟩;show wpAny C.M _ (do return Fin.done (<-(execs [] env).onRaise (fun x=>do noteFrame x env;theTreesLotGoes x))) _ _ _;refine wB (wpAny_noted (wpAny_execs_nil (wP ?_)));exact⟨.next,ρ,σ,tn,.next,S.ow kp nt no frb,F.ow kp nt fro,e0.ow kp fr⟩
 | some x=>
  rw[hx]at tn;have hk:k<xs.length:=by
   have:=List.getElem?_eq_some_iff.mp hx;exact this.1
  refine W.more k σ s x _ _ S hok hJ hx no fun v h' tk rv kp nt' go=>?_;refine wB (go _ _ fun h'' tk' J' kp'=>?_);have kp2:∀b o,¬ow b->s.heap.get? b=some o->h''.get? b=some o:=fun b o q e=>kp' b o q (kp b o q e);have S2:St C σ { s with heap:=h'',toks:=tk' }:=S.ow kp2 nt no frb;have F2:Fm C σ h'' env ρ:=F.ow kp2 nt fro;have rv2:VR h'' v x:=rv.mono (Zw kp' nt');refine wB (wM (tn { s with heap:=h'',toks:=tk' } v S2 F2 rv2) ?_ fun u u z=>z.elim);rintro _ s3 ⟨ρ1,σ1,q1,S3,F3,e3⟩;refine wB (wM (q1 s3 S3 F3) ?_ fun u u z=>z.elim);rintro f s4 ⟨g,ρ2,σ2,q2,r2,S4,F4,e4⟩;have e04:Xn env σ0 h0 σ2 s4.heap:=((e0.ow kp2 fr).trans e3).trans e4;have al2:∀b,ow b->∃o,h''.get? b=some o:=fun b q=>W.there _ _ b J' q;have e24:Xn env σ h'' σ2 s4.heap:=e3.trans e4;have kpo:∀b o,ow b->h''.get? b=some o->s4.heap.get? b=some o:=fun b o q e=>(e24.keep b o e (no b q) (fro b q)).exact (W.notD _ _ b o J' q e);have no4:∀b,ow b->σ2 b=none:=fun b q=>by
   cases z:σ2 b with
   | none=>rfl
   | some o=>
    rcases e24.dom b o z with⟨o',e'⟩|e'
    ·rw[no b q]at e';cases e'
    ·obtain⟨o',e2⟩:=al2 b q;rw[e2]at e';cases e'
  have again':I (k+1) ρ2 σ2->codeAny C.M A (.forLoop target it body [] env) (fun r s'=>match r with|.ok f=>SP C env σ0 h0 Q f s'|.error _=>False) s4:=fun hI'=>
   ih (xs.length-(k+1)) (by exact Y6s hm hk) (k+1) ρ2 σ2 s4 rfl hI' S4 F4 e04 (W.frame _ _ _ J' e24.tup kpo) no4
  cases r2 with
  | next=>exact wP ⟨rfl,again' q2⟩
  | cont=>exact wP ⟨rfl,again' q2⟩
  | brk=>exact wP ⟨.next,ρ2,σ2,q2,.next,S4,F4,e04⟩
  | ret r=>exact wP ⟨_,ρ2,σ2,q2,.ret r,S4,F4,e04⟩
noncomputable def Xi(C:Cx)(A:Around)(env:Env)(target:Expr)(body:List Stmt)(ok:X0->Prop)(Q:pW):List V->Rho->X0->Prop
 | [],ρ,σ=>Q .next ρ σ
 | x::xs,ρ,σ=>Asg C A env target x ρ σ (fun ρ1 σ1=>Exs C A env body ρ1 σ1 (fun g ρ2 σ2=>match g with
   | .next|.cont=>ok σ2/\Xi C A env target body ok Q xs ρ2 σ2
   | .brk=>Q .next ρ2 σ2
   | .ret v=>Q (.ret v) ρ2 σ2) (fun z z=>False)) (fun z z=>False)
theorem Z6v{target:Expr}{it:Value}{body:List Stmt}{ow:Addr->Prop}{J:Nat->Heap->Prop}{ok:X0->Prop}{xs:List V}(W:Itr C A target it ow J ok xs){σ0:X0}{h0:Heap}{Q:pW}(fr:∀b,ow b->h0.get? b=none)(fro:∀b,ow b->¬Own env b)(frb:∀b,ow b->C.h₀.get? b=none)(no:∀b,ow b->σ b=none)(S:St C σ s)(F:Fm C σ s.heap env ρ)(e0:Xn env σ0 h0 σ s.heap)(hJ:J 0 s.heap)(hok:ok σ)(h:Xi C A env target body ok Q xs ρ σ) :
  codeAny C.M A (.forLoop target it body [] env) (fun r s'=>match r with|.ok f=>SP C env σ0 h0 Q f s'|.error _=>False) s:=by
 refine Z4T W (fun k ρ σ=>ok σ/\Xi C A env target body ok Q (xs.drop k) ρ σ) Q fr fro frb (fun k ρ σ hI=>⟨hI.1,?_⟩) _ 0 ρ σ s rfl ⟨hok,by simpa using h⟩ S F e0 hJ no
 cases hx:xs[k]? with
 | none=>
  have:xs.drop k=[]:=List.drop_eq_nil_of_le (List.getElem?_eq_none_iff.mp hx);have h2:=hI.2;rw[this]at h2;exact h2
 | some x=>
  obtain⟨hk,rfl⟩:=List.getElem?_eq_some_iff.mp hx;have h2:=hI.2;rw[List.drop_eq_getElem_cons hk]at h2;exact h2
theorem ZN{target:Expr}{it:Addr}{v:Value}{o:Obj}{T:String}{Q:Unit->Shared->Prop}{E:XP}(e:s.heap.get? it=some o)(hc:o.cls=.type T)(hT:["enumerate","zip","dict_itemiterator","dict_reverseitemiterator","odict_iterator","itertools.zip_longest","itertools.pairwise"].contains T=false)(h:Q () s):wpAny C.M A (letOwnedTupleGo target (.ref it) v) Q E s:=by
 have key:∀(v:Value),wpAny C.M A (do
   let (.ref r,.ref a):=((Value.ref it,v):Value×Value)|return
   let o <-load r
   match o.cls,o.data with
   | .type n,.fields vs=>
    if ["enumerate","zip","dict_itemiterator","dict_reverseitemiterator","odict_iterator","itertools.zip_longest","itertools.pairwise"].contains n&&vs[0]?==some (rawInt a) then
     rule "for.unpacks-the-owned-tuple"
     updateField r 0 .none
   | _,_=>pure ()) Q E s:=fun v=>by
  cases v<;>try exact wP h
  refine wB (wpAny_load e ?_);rw[hc]
  cases o.data<;>try exact wP h
  simp only[hT,Bool.false_and,Bool.false_eq_true,if_false];exact wP h
 cases target<;>first|exact wP h|exact key v
theorem Itr.list{target:Expr}{it l:Addr}{xs:List V}(hh:A.handled=none)(hne:it≠l) :
  Itr C A target (.ref it) (fun b=>b=it) (fun k h=>h.IsListIter it l k) (fun σ=>X8 C σ l xs) xs where
 frame:=fun k h h' ⟨o,e,r⟩ _ kp=>⟨o,kp it o rfl e,r⟩
 notTup:=fun k h b o' ⟨o,e,c,_⟩ q z=>by subst q;rw[e]at z;cases z;exact Imm.not (by rw[c];simp) (by rw[c];simp) (by rw[c];simp)
 notD:=fun k h b o' ⟨o,e,c,d⟩ q z es n w=>by subst q;rw[e]at z;cases z;rw[d]at w;cases w
 there:=fun k h b ⟨o,e,_⟩ q=>by subst q;exact⟨o,e⟩
 more:=fun k σ s x Q X S hok hJ hx no hQ=>by
  obtain⟨items,hl,hr⟩:=hok.raw S;obtain⟨u,hu,ru⟩:=hr.get hx;refine wpAny_pyNext_list_item hJ hl (by simpa using hu) fun h' J' sb=>?_;have kp:∀b o,¬b=it->s.heap.get? b=some o->h'.get? b=some o:=fun b o q e=>(sb.2 b q).trans e;have tk:X7 s.heap h':=Zw (ow:=fun b=>b=it) kp fun b o' q=>by
   subst q;obtain⟨o,e,c,_⟩:=hJ;intro z;rw[e]at z;cases z;exact Imm.not (by rw[c];simp) (by rw[c];simp) (by rw[c];simp)
  refine hQ u h' s.toks (ru.mono tk) kp (fun b o' q z=>?_) (fun Q' X' hq=>by
   obtain⟨o,e,c,_⟩:=id J';exact ZN (s:={ s with heap:=h' }) e c (by decide) (hq h' s.toks J' fun y y y e=>e))
  subst q;obtain⟨o,e,c,_⟩:=J';rw[e]at z;cases z;exact Imm.not (by rw[c];simp) (by rw[c];simp) (by rw[c];simp)
 self:=fun k s Q X hJ hq=>wpAny_pyIter_listiter hJ hq
 done:=fun k σ s Q X S hok hJ hx no hQ=>by
  obtain⟨items,hl,hr⟩:=hok.raw S;have hn:items[k]?=none:=by
   have h1:=List.getElem?_eq_none_iff.mp hx;have h2:=hr.length;simp only[Array.length_toList]at h2;exact Array.getElem?_eq_none_iff.mpr (by exact Y5L h1 h2)
  exact wpAny_pyNext_list_end hh hJ hl hn fun h' kp=>hQ h' s.toks fun b o q e=>kp b o q e
end
section
variable {X:XP} {A:Around} {env:Env} {C:Cx} {σ:X0} {ρ:Rho} {s:Shared}
theorem Evo.ow{σ0:X0}{h0 h h':Heap}{ow:Addr->Prop}(e:Evo σ0 h0 σ h)(k:∀b o,¬ow b->h.get? b=some o->h'.get? b=some o)(fr:∀b,ow b->h0.get? b=none):Evo σ0 h0 σ h':=
 ⟨fun b o q n=>(e.keep b o q n).trans fun o' q'=>.inl (k b o' (fun z=>by rw[fr b z]at q;cases q) q'),e.dom,e.mono,fun a i n q=>k a _ (fun z=>by rw[fr a z]at q;cases q) (e.tup a i n q)⟩
theorem Z2j{h h':Heap}{a:Addr}{items:Array Value}(x:h.PlainList a items)(k:∀o,h.get? a=some o->Xv h' a o):h'.PlainList a items:=by
 obtain⟨n,e⟩:=x;exact⟨n,(k _ e).exact fun es n z=>(by cases z)⟩
theorem Fm.less{h:Heap}{ρ':Rho}(F:Fm C σ h env ρ)(k:∀x v,ρ'.get x=some v->ρ.get x=some v):Fm C σ h env ρ':=by
 revert env C σ ρ h ρ';k_extra "O";intro env C σ ρ h ρ' F k
 obtain⟨f1,⟨m,hm,f2⟩,f3,f5,f6,f7,f8⟩:=F;refine⟨f1,⟨m,hm,fun x v hx hv=>f2 x v hx (k x v hv)⟩,f3,f5,fun x c hc=>?_,f7,f8⟩;obtain⟨ov,a,b⟩:=f6 x c hc;exact⟨ov,a,fun v hv=>b v (k x v hv)⟩
noncomputable def Ifs(C:Cx)(A:Around)(env:Env)(ifs:List Expr)(ρ:Rho)(σ:X0)(Q:Bool->X0->Prop)(X:XP):Prop:=
 match ifs with
 | []=>Q true σ
 | [c]=>Tst C A env c ρ σ Q X
 | _=>False
theorem Ifs.run{ifs:List Expr}{Q:Bool->X0->Prop}(h:Ifs C A env ifs ρ σ Q X)(S:St C σ s)(F:Fm C σ s.heap env ρ) :
  wpAny C.M A (forIn ifs true fun c r=>if r=true then do let ok <-isTrue c env (eval c env);pure (ForInStep.yield ok) else pure (ForInStep.yield r)) (TP C σ s.heap Q) X s:=by
 match ifs,h with
 | [],h=>exact wpAny_tests_nil (TP.pure S h)
 | [c],h=>exact wpAny_tests_one (h s S F)
noncomputable def Xa(C:Cx)(A:Around)(env:Env)(x:Str)(ifs:List Expr)(elt:Expr)(ok:X0->Prop)(ρ:Rho)(R:List V->X0->Prop):List V->List V->X0->Prop
 | [],out,σ=>R out σ
 | y::ys,out,σ=>Ifs C A env ifs (ρ.put x y) σ (fun b σ1=>
   if b then Ev C A env elt (ρ.put x y) σ1 (fun z σ2=>out.length<=sizeLine/\ok σ2/\Xa C A env x ifs elt ok ρ R ys (out++[z]) σ2) (fun u u=>False)
   else ok σ1/\Xa C A env x ifs elt ok ρ R ys out σ1) (fun u u=>False)
theorem Z4u{x:Str}{px pos:Pos}{elt iter:Expr}{ifs:List Expr}{scope:Scope}{it:Value}{ow:Addr->Prop}{J:Nat->Heap->Prop}{ok:X0->Prop}{xs:List V}{acc:Addr}{σ0:X0}{h0:Heap}{R:List V->X0->Prop}{RR:Result->Shared->Prop}(W:Itr C A (.Name x px) it ow J ok xs)(hx:env.kindOf x=some .local)(hxc:env.cells.lookup x=none)(hxr:ρ.get x=none)(fr:∀b,ow b->h0.get? b=none)(fra:h0.get? acc=none)(frl:h0.get? env.locals=none)(frb:∀b,ow b->C.h₀.get? b=none)(frba:C.h₀.get? acc=none)(nac:¬ow acc)(nal:acc≠env.locals)(nol:¬ow env.locals)(noo:∀b,ow b->¬Own env b)(nao:¬Own env acc)(hR:∀out σ s items,R out σ->St C σ s->Evo σ0 h0 σ s.heap->s.heap.PlainList acc items->VRs s.heap items.toList out->σ acc=none->(∃m,s.heap.Ns env.locals m)->σ env.locals=none->RR (.ok .next) s) :
  ∀m k out σ s items,xs.length-k=m->ok σ->Xa C A env x ifs elt ok ρ R (xs.drop k) out σ->St C σ s->Fm C σ s.heap env ρ->Evo σ0 h0 σ s.heap->J k s.heap->(∀b,ow b->σ b=none)->
   s.heap.PlainList acc items->VRs s.heap items.toList out->σ acc=none->
   codeAny C.M A (.compLoop (.ListComp elt [⟨.Name x px,iter,ifs,0⟩] scope pos) 0 it (.ref acc) env) RR s:=by
 revert A env C ρ x px pos elt iter ifs scope it ow J ok xs acc σ0 h0 R RR;k_extra "l";intro A env C ρ x px pos elt iter ifs scope it ow J ok;k_extra "O";intro xs acc σ0 h0 R RR W hx hxc hxr fr fra frl frb frba nac nal nol noo nao hR
 intro m
 induction m using Nat.strongRecOn with
 | ind m ih=>
 intro k out σ s items hm hok hL S F e0 hJ no pl rl na;have nt:∀b o,ow b->s.heap.get? b=some o->¬Imm o:=fun b o q=>W.notTup k _ b o hJ q;have dn:∀(σ':X0) (h h':Heap),Evo σ h σ' h'->∀b o,h.get? b=some o->σ b=none->σ' b=none:=fun σ' h h' e b o q n=>by
  cases z:σ' b with
  | none=>rfl
  | some o2=>
   rcases e.dom b o2 z with⟨o',e'⟩|e'
   ·rw[n]at e';cases e'
   ·rw[q]at e';cases e'
 refine codeAny_of_tree ?_;show wpAny C.M _ ((compTurn (.ListComp elt [⟨.Name x px,iter,ifs,0⟩] scope pos) 0 it (.ref acc) env).onRaise (fun x=>do noteFrame x env;theTreesLotGoes x)) _ _ s;rw[show A.under (.compLoop (.ListComp elt [⟨.Name x px,iter,ifs,0⟩] scope pos) 0 it (.ref acc) env)=A from Around.under_of_weight (by rfl)];refine wpAny_noted ?_;rw[compTurn_list];refine wB (wpAny_standAt (wB ?_))
 cases hxk:xs[k]? with
 | none=>
  have hd:xs.drop k=[]:=List.drop_eq_nil_of_le (List.getElem?_eq_none_iff.mp hxk);rw[hd]at hL;refine W.done k σ s _ _ S hok hJ hxk no fun h' tk kp=>?_;refine wP ?_;have S':St C σ { s with heap:=h',toks:=tk }:=S.ow kp nt no frb;obtain⟨m',hm',_⟩:=(F.ow kp nt noo).loc;exact hR out σ _ items hL S' (e0.ow kp fr) (pl.at fun o e=>kp _ _ nac e) (rl.mono (Zw kp nt)) na ⟨m',hm'⟩ F.locs
 | some y=>
  obtain⟨hk,rfl⟩:=List.getElem?_eq_some_iff.mp hxk;rw[List.drop_eq_getElem_cons hk]at hL;refine W.more k σ s _ _ _ S hok hJ hxk no fun v h' tk rv kp nt' go=>?_;refine wB (go _ _ fun h'' tk' J' kp'=>?_);have kp2:∀b o,¬ow b->s.heap.get? b=some o->h''.get? b=some o:=fun b o q e=>kp' b o q (kp b o q e);have S2:St C σ { s with heap:=h'',toks:=tk' }:=S.ow kp2 nt no frb;have F2:Fm C σ h'' env ρ:=F.ow kp2 nt noo;have rv2:VR h'' v xs[k]:=rv.mono (Zw kp' nt');have e2:Evo σ0 h0 σ h'':=e0.ow kp2 fr;have pl2:h''.PlainList acc items:=pl.at fun o e=>kp2 _ _ nac e;have rl2:VRs h'' items.toList out:=rl.mono (Zw kp2 nt);obtain⟨m0,hm0,fm0⟩:=F2.loc;refine wB (wpAny_assign_Name (wpAny_storeName_local (s:={ s with heap:=h'',toks:=tk' }) hx hm0 (fun h3 hn3 hs3=>?_) (by rw[F2.fn];rfl)));obtain⟨S3,F3,e3⟩:=Fm.storeLocal (h:=h'') (t:=tk'+1) (s:={ s with heap:=h'',toks:=tk' }) S2 F2 hx hm0 fm0 hn3 hs3 rv2 hxc;have e03:Evo σ0 h0 σ h3:=e2.ow (ow:=fun b=>b=env.locals) (fun b o q e=>(hs3.2 b q).trans e) (fun b q=>q▸frl);have J3:J (k+1) h3:=W.frame _ _ _ J' e3.tup fun b o q e=>(hs3.2 b fun z=>nol (z▸q)).trans e;have pl3:h3.PlainList acc items:=pl2.at fun o e=>(hs3.2 _ nal).trans e;have rl3:VRs h3 items.toList out:=rl2.mono e3.tup;have nx:∀(s4:Shared) (σ4:X0) (out':List V) (items':Array Value),ok σ4->Xa C A env x ifs elt ok ρ R (xs.drop (k+1)) out' σ4->St C σ4 s4->Fm C σ4 s4.heap env (ρ.put x xs[k])->Evo σ0 h0 σ4 s4.heap->J (k+1) s4.heap->
    (∀b,ow b->σ4 b=none)->s4.heap.PlainList acc items'->VRs s4.heap items'.toList out'->σ4 acc=none->
    codeAny C.M A (.compLoop (.ListComp elt [⟨.Name x px,iter,ifs,0⟩] scope pos) 0 it (.ref acc) env) RR s4:=fun s4 σ4 out' items' hok4 hL4 S4 F4 e4 J4 no4 pl4 rl4 na4=>
   ih (xs.length-(k+1)) (by exact Y6s hm hk) (k+1) out' σ4 s4 items' rfl hok4 hL4 S4 (F4.less fun z u hz=>by
    rw[Rho.get_put,if_neg (fun q=>by rw[q,hxr]at hz;cases hz)];exact hz) e4 J4 no4 pl4 rl4 na4
  refine wB (wM (Ifs.run hL S3 F3) ?_ fun w w z=>z.elim);rintro b s4 ⟨σ4,q4,S4,e4⟩;have no4:∀b,ow b->σ4 b=none:=fun b q=>by
   obtain⟨o',eo⟩:=W.there _ _ b J3 q;exact dn σ4 _ _ e4 b o' eo (no b q)
  have na4:σ4 acc=none:=by obtain⟨n,eo⟩:=pl3;exact dn σ4 _ _ e4 acc _ eo na
  have J4:J (k+1) s4.heap:=W.frame _ _ _ J3 e4.tup fun b o q e=>(e4.keep b o e (no b q)).exact (W.notD _ _ b o J3 q e);have pl4:s4.heap.PlainList acc items:=Z2j pl3 fun o e=>e4.keep _ _ e na;have rl4:=rl3.mono e4.tup;have F4:=F3.evo e4
  cases b with
  | false=>
   simp only[Bool.false_eq_true,if_false]at q4 ⊢;exact wP ⟨rfl,nx s4 σ4 out items q4.1 q4.2 S4 F4 (e03.trans e4) J4 no4 pl4 rl4 na4⟩
  | true=>
   simp only[if_true]at q4 ⊢;refine wB (wB (wM (q4 s4 S4 F4) ?_ fun w w z=>z.elim));rintro u s5 ⟨z,σ5,⟨hz,hok5,q5⟩,r5,S5,e5⟩;have dn5:∀b o,s4.heap.get? b=some o->σ4 b=none->σ5 b=none:=fun b o q n=>by
    cases z:σ5 b with
    | none=>rfl
    | some o2=>
     rcases e5.dom b o2 z with⟨o',e'⟩|e'
     ·rw[n]at e';cases e'
     ·rw[q]at e';cases e'
   have no5:∀b,ow b->σ5 b=none:=fun b q=>by
    obtain⟨o',eo⟩:=W.there _ _ b J4 q;exact dn5 b o' eo (no4 b q)
   have na5:σ5 acc=none:=by obtain⟨n,eo⟩:=pl4;exact dn5 acc _ eo na4
   have J5:J (k+1) s5.heap:=W.frame _ _ _ J4 e5.tup fun b o q e=>(e5.keep b o e (no4 b q)).exact (W.notD _ _ b o J4 q e);have pl5:s5.heap.PlainList acc items:=Z2j pl4 fun o e=>e5.keep _ _ e na4;have rl5:=rl4.mono e5.tup;have F5:=F4.evo e5;refine wB (wpAny_list_append_plain pl5 (fun h6 pl6 sb6=>?_) (by have:=rl5.length;simp only[Array.length_toList]at this;exact Y5L hz this));have nt6:∀b o,b=acc->s5.heap.get? b=some o->¬Imm o:=fun b o q=>by
    subst q;obtain⟨n,eo⟩:=pl5;intro z;rw[eo]at z;cases z;exact Imm.not (by simp) (by simp) (by simp)
   have kp6:∀b o,¬b=acc->s5.heap.get? b=some o->h6.get? b=some o:=fun b o q e=>(sb6.2 b q).trans e;have S6:St C σ5 { s5 with heap:=h6,toks:=s5.toks }:=S5.ow (ow:=fun b=>b=acc) kp6 nt6 (fun b q=>q▸na5) (fun b q=>q▸frba);have F6:Fm C σ5 h6 env (ρ.put x xs[k]):=F5.ow (ow:=fun b=>b=acc) kp6 nt6 (fun b q=>q▸nao);have tk6:X7 s5.heap h6:=Zw (ow:=fun b=>b=acc) kp6 nt6;refine wP (wP ⟨rfl,nx _ σ5 (out++[z]) (items.push u) hok5 q5 S6 F6 (((e03.trans e4).trans e5).ow (ow:=fun b=>b=acc) kp6 (fun b q=>q▸fra)) ?_ no5 pl6 ?_ na5⟩)
   ·exact W.frame _ _ _ J5 tk6 fun b o q e=>kp6 b o (fun z=>nac (z▸q)) e
   ·simp only[Array.toList_push];exact(rl5.mono tk6).append (.cons (r5.mono tk6) .nil)
end
section
variable {X:XP} {A:Around} {env:Env} {C:Cx} {σ:X0} {ρ:Rho} {s:Shared}
noncomputable def SrcP(C:Cx)(A:Around)(target:Expr)(σ:X0)(h:Heap)(Q:List V->(X0->Prop)->X0->Prop)(it:Value)(s2:Shared):Prop:=
 ∃xs ok σ' ow J,Q xs ok σ'/\Itr C A target it ow J ok xs/\ok σ'/\St C σ' s2/\Evo σ h σ' s2.heap/\(∀b,ow b->h.get? b=none/\σ' b=none)/\J 0 s2.heap
noncomputable def Src(C:Cx)(A:Around)(env:Env)(target iter:Expr)(ρ:Rho)(σ:X0)(Q:List V->(X0->Prop)->X0->Prop)(X:XP):Prop:=
 ∀s,St C σ s->Fm C σ s.heap env ρ->wpAny C.M A (eval iter env) (fun x s1=>wpAny C.M A (pyIter x) (SrcP C A target σ s.heap Q) X s1) X s
theorem Fm.own_there{h:Heap}(F:Fm C σ h env ρ){b:Addr}(w:Own env b):∃o,h.get? b=some o:=by
 rcases w with rfl|⟨x,e⟩
 ·obtain⟨m,⟨o,_,_,ho,_⟩,_⟩:=F.loc;exact⟨o,ho⟩
 ·obtain⟨ov,⟨o,ho,_⟩,_⟩:=F.cell x b e;exact⟨o,ho⟩
theorem Ex.for{target iter:Expr}{body:List Stmt}{pos:Pos}{Q:pW}(h:Src C A env target iter ρ σ (fun xs ok σ1=>Xi C A env target body ok Q xs ρ σ1) X)(hs:∀x,foldedSetIterable iter env x=pure x:=by intro _;kernel_rfl):Ex C A env (.For target iter body [] pos) ρ σ Q X:=by
 revert X A env C σ ρ target iter body pos Q;k_extra "q";intro X A env C σ ρ target iter body pos Q h hs
 intro s S F;refine wpAny_For (wM (h s S F) (fun x s1 h1=>wM h1 ?_ fun u u z=>z) fun u u z=>z) hs;rintro it s2 ⟨xs,ok,σ',ow,J,q,W,hok,S2,e2,fr,hJ⟩;refine codeAny_mono (Z6v (σ0:=σ) (h0:=s.heap) W (fun b w=>(fr b w).1) (fun b w z=>?_) (fun b w=>?_) (fun b w=>(fr b w).2) S2 (F.evo e2) (e2.evoF F.own) hJ hok q) ?_
 ·obtain⟨o,e⟩:=F.own_there z;rw[(fr b w).1]at e;cases e
 ·cases z:C.h₀.get? b with
  | none=>rfl
  | some o=>have:=S.base _ _ z;rw[(fr b w).1]at this;cases this
 ·rintro(e|f) s' z
  ·exact z.elim
  ·exact z
noncomputable def ItV(C:Cx)(A:Around)(target:Expr)(x:V)(σ:X0)(xs:List V)(ok:X0->Prop):Prop:=
 ok σ/\∀s v (Q:pS) (X:XP),St C σ s->VR s.heap v x->(∀it ow J h' tk,Itr C A target it ow J ok xs->(∀b o,s.heap.get? b=some o->h'.get? b=some o)->(∀b,ow b->s.heap.objs.size<=b)->J 0 h'->
  Q it { s with heap:=h',toks:=tk })->wpAny C.M A (pyIter v) Q X s
theorem St.fresh'(S:St C σ s){b:Addr}(hb:s.heap.objs.size<=b):σ b=none:=by
 cases q:σ b with
 | none=>rfl
 | some o=>
  obtain⟨y,hy,_⟩:=(S.rep _ _ q).isSome;exact absurd (Heap.lt_size hy) (Nat.not_lt.mpr hb)
theorem get?_fresh'{h:Heap}{b:Addr}(hb:h.objs.size<=b):h.get? b=none:=by
 cases q:h.get? b with
 | none=>rfl
 | some o=>exact absurd (Heap.lt_size q) (Nat.not_lt.mpr hb)
theorem Evo.fresh{σ':X0}{h h':Heap}{b:Addr}(S:St C σ' s)(e:Evo σ h σ' s.heap)(hb:s.heap.objs.size<=b):h.get? b=none:=by
 cases q:h.get? b with
 | none=>rfl
 | some o=>
  have f:=get?_fresh' hb
  cases z:σ b with
  | none=>
   obtain⟨o',z'⟩:=(e.keep _ _ q z).got;rw[z']at f;cases f
  | some o'=>
   obtain⟨o'',e''⟩:=e.mono _ _ z;rw[S.fresh' hb]at e'';cases e''
theorem Src.of{target iter:Expr}{Q:List V->(X0->Prop)->X0->Prop}(h:Ev C A env iter ρ σ (fun x σ1=>∃xs ok,ItV C A target x σ1 xs ok/\Q xs ok σ1) X):Src C A env target iter ρ σ Q X:=by
 revert X A env C σ ρ target iter Q;k_extra "F";intro X A env C σ ρ target iter Q h
 intro s S F;refine wM (h s S F) ?_ fun u u z=>z;rintro v s1 ⟨x,σ1,⟨xs,ok,⟨hok,hi⟩,q⟩,r1,S1,e1⟩;refine hi s1 v _ _ S1 r1 fun it ow J h' tk W kp fr hJ=>?_;exact⟨xs,ok,σ1,ow,J,q,W,hok,S1.ext kp,e1.trans (.ext kp),fun b w=>⟨Evo.fresh (h':=s1.heap) S1 e1 (fr b w),S1.fresh' (fr b w)⟩,hJ⟩
theorem ItV.list{target:Expr}{l:Addr}{xs:List V}(hh:A.handled=none)(hl:X8 C σ l xs):ItV C A target (.ref l) σ xs (fun σ=>X8 C σ l xs):=by
 refine⟨hl,fun s v Q X S r hQ=>?_⟩
 cases r
 obtain⟨items,pl,hr⟩:=hl.raw S;refine wpAny_pyIter_list pl ?_;have hlt:l<s.heap.objs.size:=by obtain⟨o,e,_⟩:=pl;exact Heap.lt_size e
 exact hQ _ _ _ _ s.toks (Itr.list hh (Nat.ne_of_gt hlt)) (fun b o e=>Heap.get?_push_of_some _ e) (fun b w=>w▸Nat.le_refl _) ⟨_,Heap.get?_push_size _ rfl,rfl,rfl⟩
theorem Itr.tup{target:Expr}{it t:Addr}{items:Array Value}{xs:List V}{n:Nat}(hh:A.handled=none)(hne:it≠t) :
  Itr C A target (.ref it) (fun b=>b=it) (fun k h=>h.IsTupleIter it t k/\h.get? t=some (Zf items n)/\VRs h items.toList xs) (fun y=>True) xs where
 frame:=fun k h h' ⟨⟨o,e,r⟩,a,b⟩ tk kp=>⟨⟨o,kp it o rfl e,r⟩,tk _ _ (.tup _ _) a,b.mono tk⟩
 notTup:=fun k h b o' ⟨⟨o,e,c,_⟩,_⟩ q z=>by subst q;rw[e]at z;cases z;exact Imm.not (by rw[c];simp) (by rw[c];simp) (by rw[c];simp)
 notD:=fun k h b o' ⟨⟨o,e,c,d⟩,_⟩ q z es n w=>by subst q;rw[e]at z;cases z;rw[d]at w;cases w
 there:=fun k h b ⟨⟨o,e,_⟩,_⟩ q=>by subst q;exact⟨o,e⟩
 more:=fun k σ s x Q X S hok ⟨hJ,ha,hr⟩ hx no hQ=>by
  obtain⟨u,hu,ru⟩:=hr.get hx;have it':s.heap.IsTuple t items:=⟨_,ha,rfl,n,rfl⟩;refine wpAny_pyNext_tuple_item hJ it' (by simpa using hu) fun h' J' sb=>?_;have kp:∀b o,¬b=it->s.heap.get? b=some o->h'.get? b=some o:=fun b o q e=>(sb.2 b q).trans e;have tk:X7 s.heap h':=Zw (ow:=fun b=>b=it) kp fun b o' q=>by
   subst q;obtain⟨o,e,c,_⟩:=hJ;intro z;rw[e]at z;cases z;exact Imm.not (by rw[c];simp) (by rw[c];simp) (by rw[c];simp)
  refine hQ u h' s.toks (ru.mono tk) kp (fun b o' q z=>?_) (fun Q' X' hq=>by
   obtain⟨o,e,c,_⟩:=id J';exact ZN (s:={ s with heap:=h' }) e c (by decide) (hq h' s.toks ⟨J',tk _ _ (.tup _ _) ha,hr.mono tk⟩ fun y y y e=>e))
  subst q;obtain⟨o,e,c,_⟩:=J';rw[e]at z;cases z;exact Imm.not (by rw[c];simp) (by rw[c];simp) (by rw[c];simp)
 self:=fun k s Q X hJ hq=>wpAny_pyIter_tupleiter hJ.1 hq
 done:=fun k σ s Q X S hok ⟨hJ,ha,hr⟩ hx no hQ=>by
  have hn:items[k]?=none:=by
   have h1:=List.getElem?_eq_none_iff.mp hx;have h2:=hr.length;simp only[Array.length_toList]at h2;exact Array.getElem?_eq_none_iff.mpr (by exact Y5L h1 h2)
  exact wpAny_pyNext_tuple_end hh hJ ⟨_,ha,rfl,n,rfl⟩ hn fun h' kp=>hQ h' s.toks fun b o q e=>kp b o q e
theorem ItV.tup{target:Expr}{xs:List V}(hh:A.handled=none):ItV C A target (.tup xs) σ xs (fun z=>True):=by
 refine⟨trivial,fun s v Q X S r hQ=>?_⟩
 cases r with
 | @tup a items n _ ha hr=>
  refine wpAny_pyIter_tuple (items:=items) ⟨_,ha,rfl,n,rfl⟩ ?_;have hlt:a<s.heap.objs.size:=Heap.lt_size ha;exact hQ _ _ _ _ s.toks (Itr.tup (t:=a) (items:=items) (n:=n) hh (Nat.ne_of_gt hlt)) (fun b o e=>Heap.get?_push_of_some _ e) (fun b w=>w▸Nat.le_refl _) ⟨⟨_,Heap.get?_push_size _ rfl,rfl,rfl⟩,Heap.get?_push_of_some _ ha,hr.push⟩
noncomputable def Zv(a b:Int):List V:=(List.range (b-a).toNat).map fun(i:Nat)=>V.int (a+(i:Int))
theorem Itr.rng{target:Expr}{it:Addr}{a b:Int}(hh:A.handled=none) :
  Itr C A target (.ref it) (fun b=>b=it) (fun k h=>IsRangeIter h it (a+k) (((b-a).toNat:Int)-k) 1) (fun u=>True) (Zv a b) where
 frame:=fun k h h' e u kp=>kp it _ rfl e
 notTup:=fun k h b o' e q z=>by subst q;rw[e]at z;cases z;exact Imm.not (by simp) (by simp) (by simp)
 notD:=fun k h b o' e q z es n w=>by subst q;rw[e]at z;cases z;cases w
 there:=fun k h b e q=>by subst q;exact⟨_,e⟩
 more:=fun k σ s x Q X S hok hJ hx no hQ=>by
  obtain⟨hk,rfl⟩:=List.getElem?_eq_some_iff.mp hx;have hk':k<(b - a).toNat:=by simpa [Zv] using hk
  refine wpAny_pyNext_range_item hJ (by exact Y6h hk') fun h' J' sb=>?_;refine hQ _ h' (s.toks+1) ?_ (fun b o q e=>(sb.2 b q).trans e) (fun b o' q z=>?_) (fun Q' X' hq=>by
   exact ZN (s:={ s with heap:=h',toks:=s.toks+1 }) J' rfl (by decide) (hq h' (s.toks+1) (by
    have e1:a+(k:Int)+1=a+((k+1:Nat):Int):=by exact Y6i
    have e2:((b-a).toNat:Int)-k-1=((b-a).toNat:Int)-((k+1:Nat):Int):=by exact Y6j
    rw[e1,e2]at J';exact J') fun u u u e=>e))
  ·simp only[Zv,getElem_map,List.getElem_range];exact .int _ _
  ·subst q;rw[J']at z;cases z;exact Imm.not (by simp) (by simp) (by simp)
 self:=fun k s Q X hJ hq=>wpAny_pyIter_rangeiter hJ hq
 done:=fun k σ s Q X S hok hJ hx no hQ=>by
  have h1:=List.getElem?_eq_none_iff.mp hx;simp only[Zv,length_map,List.length_range]at h1;exact wpAny_pyNext_range_end hh hJ (by exact Y6k h1) fun h' kp=>hQ h' s.toks fun b o q e=>kp b o q e
theorem ItV.rng{target:Expr}{a b:Int}(hh:A.handled=none)(ha:-(2 ^ 62)<=a)(ha':a<2 ^ 62)(hb:-(2 ^ 62)<=b)(hb':b<2 ^ 62):ItV C A target (.rng a b) σ (Zv a b) (fun z=>True):=by
 refine⟨trivial,fun s v Q X S r hQ=>?_⟩
 cases r with
 | rng hr=>
  refine wpAny_pyIter_range hr (small_one ha ha' hb hb') ?_;refine hQ _ _ _ _ s.toks (Itr.rng (a:=a) (b:=b) hh) (fun b o e=>Heap.get?_push_of_some _ e) (fun b w=>w▸Nat.le_refl _) ?_;have e2:Builtin.Range.rangeSize a b 1=((b-a).toNat:Int):=by rw[rangeSize_one];split<;>(first|lia|omega)
  rw[e2];simpa using Heap.get?_push_size s.heap (o:={ cls:=.type "range_iterator",data:=.fields #[rawInt a,rawInt ((b - a).toNat:Int),rawInt 1] }) rfl
end
noncomputable def clOf(cells:List (Str×Addr)):List (Str×NameKind)->List (Str×Addr)->List (Str×Addr)
 | [],acc=>acc
 | (n,k)::r,acc=>if k==.free then clOf cells r ((n,(cells.lookup n).getD 0)::acc) else clOf cells r acc
theorem Z1k{env:Env}:∀(names:List (Str×NameKind)) (acc:List (Str×Addr)),(names.all fun p=>p.2 != .free||(env.cells.lookup p.1).isSome)=true->
  (forIn names acc fun(x:Str×NameKind) (r:List (Str×Addr))=>(if x.2==NameKind.free then(do let c <-cellOf env x.1;pure (ForInStep.yield ((x.1,c)::r))) else pure (ForInStep.yield r):Sem (ForInStep (List (Str×Addr)))))=pure (clOf env.cells names acc)
 | [],acc,_=>rfl
 | (n,k)::r,acc,h=>by
  simp only[List.all_cons,Bool.and_eq_true]at h;rw[List.forIn_cons];unfold clOf
  by_cases q:(k==.free)=true
  ·have hk:k=.free:=by cases k<;>first|rfl|cases q
   subst hk;have h1:(env.cells.lookup n).isSome=true:=by simpa using h.1
   obtain⟨c,hc⟩:=Option.isSome_iff_exists.mp h1;have e:cellOf env n=pure c:=by unfold cellOf;rw[hc]
   simp only[q,if_true,e,pure_bind,hc,Option.getD_some];exact Z1k r _ h.2
  ·simp only[q,if_false,pure_bind];exact Z1k r _ h.2
theorem Z11{env:Env}{scope:Scope}(h:(scope.names.all fun p=>p.2 != .free||(env.cells.lookup p.1).isSome)=true):closureFor scope env=pure (clOf env.cells scope.names []):=by
 unfold closureFor;have:=Z1k (env:=env) scope.names [] h;simp only[bind_pure];exact this
set_option tactic.hygienic true in
theorem Z1l{cells:List (Str×Addr)}:∀{names:List (Str×NameKind)} {acc:List (Str×Addr)} {x:Str} {c:Addr},(x,c)∈clOf cells names acc->(x,c)∈acc\/((x,NameKind.free)∈names/\c=(cells.lookup x).getD 0)
 | [],_,_,_,h=>.inl h
 | (n,k)::r,acc,x,c,h=>by
  unfold clOf at h
  split at h
  ·rename_i q
   have hk:k=.free:=by cases k<;>first|rfl|cases q
   subst hk;rcases Z1l h with z|⟨z,e⟩
   ·rcases List.mem_cons.mp z with z|z
    ·cases z;exact .inr ⟨.head _,rfl⟩
    ·exact .inl z
   ·exact .inr ⟨.tail _ z,e⟩
  ·rcases Z1l h with z|⟨z,e⟩
   ·exact .inl z
   ·exact .inr ⟨.tail _ z,e⟩
inductive Xo(ρ:Rho):List (Str×NameKind)->Rho->Prop
 | nil:Xo ρ [] []
 | skip {n:Str} {k:NameKind} {r:List (Str×NameKind)} {ρc:Rho}:k≠.free->Xo ρ r ρc->Xo ρ ((n,k)::r) ρc
 | take {n:Str} {v:V} {r:List (Str×NameKind)} {ρc:Rho}:ρ.get n=some v->Xo ρ r ρc->Xo ρ ((n,.free)::r) ((n,v)::ρc)
theorem Xo.get:∀{ρ:Rho}{x:Str}{v:V}{names:List (Str×NameKind)}{ρc:Rho}(z:Xo ρ names ρc),ρc.get x=some v->ρ.get x=some v/\(x,NameKind.free)∈names:=by
 k_extra "K";intro ρ x v names ρc z
 induction z with
 | nil=>intro h;cases h
 | skip _ _ ih=>exact fun h=>⟨(ih h).1,.tail _ (ih h).2⟩
 | @take n u _ ρc e c ih=>
  intro h;have h':(if x=n then some u else Rho.get ρc x)=some v:=h
  by_cases q:x=n
  ·subst q;rw[if_pos rfl]at h';cases h';exact⟨e,.head _⟩
  ·rw[if_neg q]at h';exact⟨(ih h').1,.tail _ (ih h').2⟩
noncomputable def Z1z(scope:Scope):Bool:=scope.names.all fun p=>p.2 != .cell&&(p.2 != .free||scope.names.lookup p.1==some .free)&&(p.2 != .local||scope.names.lookup p.1==some .local)
theorem Z12{g:Str->NameKind->NameKind}{x:Str}:∀(names:List (Str×NameKind)),(names.map fun(n,k)=>(n,g n k)).lookup x=(names.lookup x).map (g x)
 | []=>rfl
 | (n,k)::r=>by
  simp only[map_cons,List.lookup_cons]
  cases q:x==n with
  | true=>rw[beq_iff_eq.mp q];rfl
  | false=>exact Z12 r
theorem Z2I:∀{scope:Scope}{env:Env}{x:Str},(relabel scope env).names.lookup x=(scope.names.lookup x).map fun k=>if (k==.free&&env.scope.kind==.function&&env.kindOf x==some .cell) then .cell else k:=by
 k_extra "A";intro scope env x;have e:(relabel scope env).names=scope.names.map fun(n,k)=>(n,(fun(n:Str) (k:NameKind)=>if (k==.free&&env.scope.kind==.function&&env.kindOf n==some .cell) then NameKind.cell else k) n k):=by
  unfold relabel;refine List.map_congr_left fun p z=>?_;obtain⟨n,k⟩:=p;dsimp only
  split<;>rfl
 rw[e];exact Z12 (g:=fun n k=>if (k==.free&&env.scope.kind==.function&&env.kindOf n==some .cell) then NameKind.cell else k) scope.names
section
variable {X:XP} {A:Around} {env:Env} {C:Cx} {σ:X0} {ρ:Rho} {s:Shared}
theorem St.adopt{a:Addr}{o:O}{σ0:X0}{h0:Heap}(S:St C σ s)(r:Rep C s.heap a o)(hn:C.n₀<=a)(e:Evo σ0 h0 σ s.heap)(hf:h0.get? a=none):St C (σ.upd a o) s/\Evo σ0 h0 (σ.upd a o) s.heap:=by
 refine⟨⟨S.base,fun b x hx=>?_,fun b x hx=>?_,S.gens,S.os⟩,e.keep,fun b x hx=>?_,fun b x hx=>?_,e.tup⟩
 ·by_cases q:b=a
  ·subst q;rw[X0.upd_self]at hx;cases hx;exact r
  ·rw[X0.upd_ne _ _ q]at hx;exact S.rep b x hx
 ·by_cases q:b=a
  ·subst q;exact⟨S.baseFresh hn,.inl hn⟩
  ·rw[X0.upd_ne _ _ q]at hx;exact S.above b x hx
 ·by_cases q:b=a
  ·subst q;exact .inr hf
  ·rw[X0.upd_ne _ _ q]at hx;exact e.dom b x hx
 ·obtain⟨o',h'⟩:=e.mono b x hx
  by_cases q:b=a
  ·subst q;exact⟨_,X0.upd_self ..⟩
  ·exact⟨o',by rw[X0.upd_ne _ _ q];exact h'⟩
theorem Z3k{x:Str}{px pos:Pos}{elt iter:Expr}{ifs:List Expr}{scope:Scope}{ρc:Rho}{use:Option (Value->Sem Unit)}{Qr:pS}{R:List V->X0->Prop}(hfree:(scope.names.all fun p=>p.2 != .free||(env.cells.lookup p.1).isSome)=true)(hck:Z1z scope=true)(hk:scope.kind=.function)(hx:scope.names.lookup x=some .local)(cap:Xo ρ scope.names ρc)(hs:∀x,foldedSetIterable iter env x=pure x)(S:St C σ s)(F:Fm C σ s.heap env ρ)(h:Src C A env (.Name x px) iter ρ σ (fun xs ok σ1=>∀L,Xa C A (compEnvC scope (clOf env.cells scope.names []) L env) x ifs elt ok ρc R xs [] σ1) X)(fin:∀acc L σ2 s2 out items,R out σ2->St C σ2 s2->Evo σ s.heap σ2 s2.heap->s2.heap.PlainList acc items->VRs s2.heap items.toList out->σ2 acc=none->(∃m,s2.heap.Ns L m)->σ2 L=none->C.n₀<=acc->C.n₀<=L->acc≠L->s.heap.get? acc=none->s.heap.get? L=none->
   compPost C.M A X use Qr (.ref acc) L (.ok .next) s2) :
  wpAny C.M A (comprehension (.ListComp elt [⟨.Name x px,iter,ifs,0⟩] scope pos) scope env (firstIterPos [⟨.Name x px,iter,ifs,0⟩] pos) (newList []) false (eval iter env) use) Qr X s:=by
 revert X A env C σ ρ s x px pos elt iter ifs scope ρc use Qr R;k_extra "l";intro X A env C σ ρ s x px pos elt iter ifs scope ρc;k_extra "A";intro use Qr R hfree hck hk hx cap hs S F h fin
 have names_of:∀p∈scope.names,p.2≠.cell/\(p.2=.free->scope.names.lookup p.1=some .free)/\(p.2=.local->scope.names.lookup p.1=some .local):=fun p hp=>by
  have:=List.all_eq_true.mp hck p hp;simp only[Bool.and_eq_true,bne_iff_ne,ne_eq,Bool.or_eq_true,beq_iff_eq]at this;refine⟨this.1.1,fun e=>?_,fun e=>?_⟩
  ·rcases this.1.2 with z|z
   ·exact absurd e z
   ·exact z
  ·rcases this.2 with z|z
   ·exact absurd e z
   ·exact z
 refine wpAny_comprehension_free (cl:=clOf env.cells scope.names []) rfl hs (Z11 hfree) hk (fun p hp e=>(names_of p hp).2.2 e) ?_;refine wM (h s S F) (fun v s1 h1=>wM h1 ?_ fun u u z=>z) fun u u z=>z;rintro it s2 ⟨xs,ok,σ',ow,J,q,W,hok,S2,e2,fr,hJ⟩;refine wpAny_newObj_type (wpAny_newFunctionEnv (fun p hp=>(names_of p hp).1) (by intro y hy;simp at hy) (fun h₁ hns₁ hsb₁=>?_) hk);dsimp only at hns₁ hsb₁ ⊢;generalize hH2:s2.heap.push { cls:=.type "list",dict:=none,data:=.seq ([]:List Value).toArray }=H2 at hns₁ hsb₁ ⊢;have hC:H2.objs.size=s2.heap.objs.size+1:=by rw[<-hH2,Z2Q]
 have hDC:s2.heap.objs.size≠H2.objs.size:=by rw[hC];exact Nat.ne_of_lt (Nat.lt_succ_self _)
 have old:∀b o,s2.heap.get? b=some o->h₁.get? b=some o:=fun b o e=>
  hsb₁.extBut b o (by rw[hC];exact Nat.ne_of_lt (Nat.lt_succ_of_lt (Heap.lt_size e))) (Heap.get?_push_of_some _ (hH2▸Heap.get?_push_of_some _ e))
 have hacc:h₁.PlainList s2.heap.objs.size #[]:=⟨_,hsb₁.extBut _ _ hDC (Heap.get?_push_of_some _ (hH2▸Heap.get?_push_size _ rfl))⟩;have F2:=F.evo e2;have e12:Evo σ' s2.heap σ' h₁:=.ext old;have fresh2:∀b,s2.heap.objs.size<=b->s.heap.get? b=none:=fun b hb=>Evo.fresh (h':=s2.heap) S2 e2 hb;have hLle:s2.heap.objs.size<=H2.objs.size:=by rw[hC];exact Nat.le_succ _
 have cl_of:∀y c,(clOf env.cells scope.names []).lookup y=some c->env.cells.lookup y=some c/\scope.names.lookup y=some .free:=fun y c hy=>by
  rcases Z1l (mem_of_lookup hy) with z|⟨z,e⟩
  ·cases z
  ·have h1:=List.all_eq_true.mp hfree _ z;have h2:(env.cells.lookup y).isSome=true:=by simpa using h1
   obtain⟨c',hc'⟩:=Option.isSome_iff_exists.mp h2;rw[hc']at e;exact⟨by rw[hc',e];rfl,(names_of _ z).2.1 rfl⟩
 have S3:St C σ' { s2 with heap:=h₁,toks:=s2.toks }:=S2.ext old;have F3:Fm C σ' h₁ (compEnvC scope (clOf env.cells scope.names []) H2.objs.size env) ρc:=by
  refine⟨by show(relabel scope env).kind=_;exact hk,⟨_,hns₁,fun y v hy hv=>?_⟩,S2.fresh' hLle,Nat.le_trans S2.size hLle,fun y c hy=>?_,fun y c hy=>?_,fun y z c hy hz=>?_⟩
  ·exfalso
   obtain⟨_,m⟩:=cap.get hv;have h1:=(names_of _ m).2.1 rfl;have h2:(relabel scope env).names.lookup y=some .local:=hy;rw[Z2I,h1]at h2;simp only[Option.map_some,Option.some.injEq]at h2
   split at h2<;>cases h2
  ·obtain⟨h1,_⟩:=cl_of y c hy;obtain⟨ov,a,b⟩:=(F2.evo e12).cell y c h1;exact⟨ov,a,fun v hv=>b v (cap.get hv).1⟩
  ·obtain⟨h1,_⟩:=cl_of y c hy;obtain⟨n1,n2,n3⟩:=F2.ncell y c h1;refine⟨n1,?_,n3⟩;obtain⟨ov,a,b⟩:=F2.cell y c h1;exact Nat.ne_of_lt (Nat.lt_of_lt_of_le a.lt hLle)
  ·exact F.apart y z c (cl_of y c hy).1 (cl_of z c hz).1
 have ownc:∀b,Own (compEnvC scope (clOf env.cells scope.names []) H2.objs.size env) b->b=H2.objs.size\/Own env b:=by
  rintro b (z|⟨y,z⟩)
  ·exact .inl z
  ·exact .inr (.inr ⟨y,(cl_of y b z).1⟩)
 have own_lt:∀b,Own env b->b<s2.heap.objs.size:=fun b w=>by
  obtain⟨o,e⟩:=F2.own_there w;exact Heap.lt_size e
 have owlt:∀b,ow b->b<s2.heap.objs.size:=fun b w=>by
  obtain⟨o,e⟩:=W.there 0 _ b hJ w;exact Heap.lt_size e
 have loop:∀s₃:Shared,s₃={ s2 with heap:=h₁,toks:=s2.toks+([]:List (Str×Value)).length }->
   codeAny C.M A (.compLoop (.ListComp elt [⟨.Name x px,iter,ifs,0⟩] scope pos) 0 it (.ref s2.heap.objs.size) (compEnvC scope (clOf env.cells scope.names []) H2.objs.size env))
    (compPost C.M A X use Qr (.ref s2.heap.objs.size) H2.objs.size) s₃:=by
  rintro s₃ rfl;refine Z4u (σ0:=σ) (h0:=s.heap) (R:=R) W ?_ ?_ ?_ (fun b w=>(fr b w).1) (fresh2 _ (Nat.le_refl _)) (fresh2 _ hLle) (fun b w=>?_) ?_ (fun w=>Nat.lt_irrefl _ (owlt _ w)) hDC
   (fun w=>absurd (owlt _ w) (Nat.not_lt.mpr hLle)) (fun b w z=>?_) (fun z=>?_) ?_ _ 0 [] σ' _ #[] rfl hok (by simpa using q H2.objs.size) S3 F3 (e2.trans e12) (W.frame _ _ _ hJ e12.tup fun b o u e=>old b o e)
   (fun b w=>(fr b w).2) hacc .nil (S2.fresh' (Nat.le_refl _))
  ·exact lookup_relabel_local hx
  ·cases z:(clOf env.cells scope.names []).lookup x with
   | none=>exact z
   | some c=>have:=(cl_of x c z).2;rw[hx]at this;cases this
  ·cases z:ρc.get x with
   | none=>rfl
   | some v=>have:=(names_of _ (cap.get z).2).2.1 rfl;rw[hx]at this;cases this
  ·cases z:C.h₀.get? b with
   | none=>rfl
   | some o=>have:=S.base _ _ z;rw[(fr b w).1]at this;cases this
  ·cases z:C.h₀.get? s2.heap.objs.size with
   | none=>rfl
   | some o=>have:=S.base _ _ z;rw[fresh2 _ (Nat.le_refl _)]at this;cases this
  ·rcases ownc b z with y|y
   ·exact absurd (owlt _ w) (by rw[y];exact Nat.not_lt.mpr hLle)
   ·obtain⟨o,e⟩:=F.own_there y;rw[(fr b w).1]at e;cases e
  ·rcases ownc _ z with y|y
   ·exact hDC y
   ·exact Nat.lt_irrefl _ (own_lt _ y)
  ·intro out σ2 s4 items hR S4 e4 pl4 r4 na4 ns4 nl4;exact fin _ _ σ2 s4 out items hR S4 e4 pl4 r4 na4 ns4 nl4 S2.size (Nat.le_trans S2.size hLle) hDC (fresh2 _ (Nat.le_refl _)) (fresh2 _ hLle)
 exact codeAny_compStart_list (loop _ rfl) (W.self 0 _ _ _ (W.frame _ _ _ hJ e12.tup fun b o u e=>old b o e) (loop _ rfl))
theorem Ev.comp{x:Str}{px pos:Pos}{elt iter:Expr}{ifs:List Expr}{scope:Scope}{ρc:Rho}{Q:pV}(hfree:(scope.names.all fun p=>p.2 != .free||(env.cells.lookup p.1).isSome)=true)(hck:Z1z scope=true)(hk:scope.kind=.function)(hx:scope.names.lookup x=some .local)(cap:Xo ρ scope.names ρc)(h:Src C A env (.Name x px) iter ρ σ (fun xs ok σ1=>∀L,Xa C A (compEnvC scope (clOf env.cells scope.names []) L env) x ifs elt ok ρc (fun out σ2=>∀a,σ2 a=Option.none->Q (.ref a) (σ2.upd a (.list out))) xs [] σ1) X)(hs:∀x,foldedSetIterable iter env x=Pure.pure x:=by intro _;kernel_rfl):Ev C A env (.ListComp elt [⟨.Name x px,iter,ifs,0⟩] scope pos) ρ σ Q X:=by
 intro s S F;rw[eval_ListComp];refine Z3k hfree hck hk hx cap hs S F h ?_;intro acc L σ2 s2 out items q S2 e2 pl2 r2 na2 ⟨m,hm⟩ nl2 n1 n2 hne fa fl;refine⟨m,hm,fun h' sb=>?_⟩;have kp:∀b o,¬b=L->s2.heap.get? b=some o->h'.get? b=some o:=fun b o w e=>(sb.2 b w).trans e;have nt:∀b o,b=L->s2.heap.get? b=some o->¬Imm o:=fun b o w z=>by
  subst w;obtain⟨o',es,ep,ho,hd,_⟩:=hm;rw[ho]at z;cases z;exact Imm.notDict hd
 have S3:St C σ2 { s2 with heap:=h',toks:=s2.toks }:=S2.ow (ow:=fun b=>b=L) kp nt (fun b w=>w▸nl2) (fun b w=>by
  subst w
  cases z:C.h₀.get? b with
  | none=>rfl
  | some o=>exact absurd (C.low _ _ z) (Nat.not_lt.mpr n2))
 have e3:Evo σ s.heap σ2 h':=e2.ow (ow:=fun b=>b=L) kp (fun b w=>w▸fl);obtain⟨S4,e4⟩:=S3.adopt (a:=acc) (o:=.list out) ⟨items,pl2.at fun o e=>kp _ _ hne e,r2.mono (Zw (ow:=fun b=>b=L) kp nt)⟩ n1 e3 fa;exact⟨.ref acc,_,q acc na2,.ref _,S4,e4⟩
theorem Ex.assignComp{x y:Str}{px py pos spos:Pos}{elt iter:Expr}{ifs:List Expr}{scope:Scope}{ρc:Rho}{Q:pW}(hfree:(scope.names.all fun p=>p.2 != .free||(env.cells.lookup p.1).isSome)=true)(hck:Z1z scope=true)(hk:scope.kind=.function)(hx:scope.names.lookup x=some .local)(cap:Xo ρ scope.names ρc)(hy:env.kindOf y=some .local)(hyc:env.cells.lookup y=none)(h:Src C A env (.Name x px) iter ρ σ (fun xs ok σ1=>∀L,Xa C A (compEnvC scope (clOf env.cells scope.names []) L env) x ifs elt ok ρc (fun out σ2=>∀a,σ2 a=none->Q .next (ρ.put y (.ref a)) (σ2.upd a (.list out))) xs [] σ1) X)(hsw:swapsWith (.ListComp elt [⟨.Name x px,iter,ifs,0⟩] scope pos) (some (.Name y py)) spos.line env=pure true:=by kernel_rfl)(hs:∀x,foldedSetIterable iter env x=pure x:=by intro _;kernel_rfl):Ex C A env (.Assign [.Name y py] (.ListComp elt [⟨.Name x px,iter,ifs,0⟩] scope pos) spos) ρ σ Q X:=by
 revert X A env C σ ρ x y px py pos spos elt iter ifs scope ρc Q;k_extra "l";intro X A env C σ ρ x y px py pos spos elt iter ifs;k_extra "A";intro scope ρc Q hfree hck hk hx cap hy hyc h hsw hs
 intro s S F;rw[exec_Assign_Name_used _ _ _ _ hsw];refine wB (wpAny_standAt (wB ?_));rw[arm_evalThenUse_ListComp];refine wB ?_;refine Z3k (Qr:=fun u s'=>wpAny C.M A (pure PUnit.unit) (fun u s'=>wpAny C.M A (pure Flow.next) (SP C env σ s.heap Q) X s') X s') hfree hck hk hx cap hs S F h ?_;intro acc L σ2 s2 out items q S2 e2 pl2 r2 na2 ⟨m,hm⟩ nl2 n1 n2 hne fa fl;have F2:=F.evo e2;obtain⟨m2,hm2,f2⟩:=F2.loc;have hLe:L≠env.locals:=fun z=>by
  obtain⟨o,e⟩:=F.own_there (.inl rfl);rw[z,e]at fl;cases fl
 obtain⟨S4,e4⟩:=S2.adopt (a:=acc) (o:=.list out) ⟨items,pl2,r2⟩ n1 e2 fa;have F4:Fm C (σ2.upd acc (.list out)) s2.heap env ρ:=F.evo e4;refine wpAny_assign_Name (wpAny_storeName_local hy hm2 (fun h3 hn3 hs3=>?_) (by rw[F2.fn];rfl));obtain⟨S5,F5,e5⟩:=Fm.storeLocal (h:=s2.heap) (t:=s2.toks+1) S4 F4 hy hm2 f2 hn3 hs3 (VR.ref acc) hyc;have hm3:h3.Ns L m:=hm.sameBut hs3 hLe;refine⟨m,hm3,fun h' sb=>?_⟩;have kp:∀b o,¬b=L->h3.get? b=some o->h'.get? b=some o:=fun b o w e=>(sb.2 b w).trans e;have nt:∀b o,b=L->h3.get? b=some o->¬Imm o:=fun b o w z=>by
  subst w;obtain⟨o',es,ep,ho,hd,_⟩:=hm3;rw[ho]at z;cases z;exact Imm.notDict hd
 have nl4:(σ2.upd acc (.list out)) L=none:=by rw[X0.upd_ne _ _ hne.symm];exact nl2
 have S6:St C (σ2.upd acc (.list out)) { s2 with heap:=h',toks:=s2.toks+1 }:=St.ow (s:={ s2 with heap:=h3,toks:=s2.toks+1 }) (ow:=fun b=>b=L) S5 kp nt (fun b w=>w▸nl4) (fun b w=>by
  subst w
  cases z:C.h₀.get? b with
  | none=>rfl
  | some o=>exact absurd (C.low _ _ z) (Nat.not_lt.mpr n2))
 refine wP (wP ⟨.next,_,_,q acc na2,.next,S6,F5.ow (ow:=fun b=>b=L) kp nt (fun b w z=>?_),((e4.evoF F.own).trans e5).ow (ow:=fun b=>b=L) kp (fun b w=>w▸fl)⟩);subst w;obtain⟨o,e⟩:=F.own_there z;rw[e]at fl;cases fl
end
section
variable {X:XP} {A:Around} {env:Env} {C:Cx} {σ:X0} {ρ:Rho} {s:Shared}
mutual
inductive DR(C:Cx)(σ:X0):V->PyData->Prop where
 | none:DR C σ .none .none
 | bool (b:Bool):DR C σ (.bool b) (.bool b)
 | int (i:Int):DR C σ (.int i) (.int i)
 | str (x:Str):DR C σ (.str x) (.str x)
 | tup {xs:List V} {ds:List PyData}:DRs C σ xs ds->DR C σ (.tup xs) (.tuple ds)
 | list {l:Addr} {xs:List V} {ds:List PyData}:X8 C σ l xs->DRs C σ xs ds->DR C σ (.ref l) (.list ds)
inductive DRs(C:Cx)(σ:X0):List V->List PyData->Prop where
 | nil:DRs C σ [] []
 | cons {x:V} {xs:List V} {d:PyData} {ds:List PyData}:DR C σ x d->DRs C σ xs ds->DRs C σ (x::xs) (d::ds)
end
mutual
theorem DR.reads(S:St C σ s){x:V}{d:PyData}{v:Value}(h:DR C σ x d)(r:VR s.heap v x):∃as,Reads s.heap v d as:=by
 cases h with
 | none=>obtain rfl:=r.noneI;exact⟨_,.none⟩
 | bool b=>obtain rfl:=r.boolI;exact⟨_,.bool b⟩
 | int i=>obtain⟨t,rfl⟩:=r.intI;exact⟨_,.int i t⟩
 | str x=>obtain⟨t,rfl⟩:=r.strI;exact⟨_,.str x t⟩
 | tup ds=>
  obtain⟨a,items,n,rfl,e,r⟩:=r.tupI;obtain⟨as,h⟩:=DRs.reads S ds r;exact⟨_,.tuple e rfl rfl h⟩
 | list hl ds=>
  obtain rfl:=r.refI;obtain⟨items,⟨o,e,c,n,hd⟩,r⟩:=hl.raw S;obtain⟨as,h⟩:=DRs.reads S ds r;exact⟨_,.list e c hd h⟩
theorem DRs.reads(S:St C σ s){xs:List V}{ds:List PyData}{vs:List Value}(h:DRs C σ xs ds)(r:VRs s.heap vs xs):∃as,ReadsAll s.heap vs ds as:=by
 cases h with
 | nil=>obtain rfl:=r.nilI;exact⟨_,.nil⟩
 | cons a b=>
  obtain⟨_,_,rfl,r,rs⟩:=r.consI;obtain⟨as,h⟩:=DR.reads S a r;obtain⟨bs,h'⟩:=DRs.reads S b rs;exact⟨_,.cons h h'⟩
end
theorem X4.eq{x y:V}{d e:PyData}{Q:pV}(hx:DR C σ x d)(hy:DR C σ y e)(h1:d.canLay0=true)(h2:e.canLay0=true)(hu:A.units+min d.depth e.depth<cLine)(h:Q (.bool (PyData.eqv d e)) σ) :
  X4 C A .Eq x y σ Q X:=by
 intro s a b S ra rb;obtain⟨as,r1⟩:=hx.reads S ra;obtain⟨bs,r2⟩:=hy.reads S rb;exact eqOverData _ _ _ _ _ _ _ _ _ _ _ _ r1 r2 h1 h2 hu (EP.pure S h (.bool _))
theorem X4.inL{x:V}{l:Addr}{xs:List V}{d:PyData}{ds:List PyData}{Q:pV}(hl:X8 C σ l xs)(hx:DR C σ x d)(hy:DRs C σ xs ds)(h1:d.canLay0=true)(h2:PyData.canLayAll0 ds=true)(hu:A.units+1+min (PyData.depthAll ds) d.depth<cLine)(h:Q (.bool (ds.any fun y=>PyData.eqv y d)) σ):X4 C A .In x (.ref l) σ Q X:=by
 intro s a b S ra rb;obtain⟨as,r1⟩:=hx.reads S ra;obtain⟨bs,r2⟩:=(DR.list hl hy).reads S rb;exact in_list_reads r2 r1 h2 h1 hu (EP.pure S h (.bool _))
theorem X4.notInL{x:V}{l:Addr}{xs:List V}{d:PyData}{ds:List PyData}{Q:pV}(hl:X8 C σ l xs)(hx:DR C σ x d)(hy:DRs C σ xs ds)(h1:d.canLay0=true)(h2:PyData.canLayAll0 ds=true)(hu:A.units+1+min (PyData.depthAll ds) d.depth<cLine)(h:Q (.bool (!ds.any fun y=>PyData.eqv y d)) σ):X4 C A .NotIn x (.ref l) σ Q X:=by
 intro s a b S ra rb;obtain⟨as,r1⟩:=hx.reads S ra;obtain⟨bs,r2⟩:=(DR.list hl hy).reads S rb;exact notIn_list_reads r2 r1 h2 h1 hu (EP.pure S h (.bool _))
theorem X4.inT{x:V}{xs:List V}{d:PyData}{ds:List PyData}{Q:pV}(hx:DR C σ x d)(hy:DRs C σ xs ds)(h1:d.canLay0=true)(h2:PyData.canLayAll0 ds=true)(hu:A.units+1+min (PyData.depthAll ds) d.depth<cLine)(h:Q (.bool (ds.any fun y=>PyData.eqv y d)) σ):X4 C A .In x (.tup xs) σ Q X:=by
 intro s a b S ra rb;obtain⟨as,r1⟩:=hx.reads S ra;obtain⟨bs,r2⟩:=(DR.tup hy).reads S rb;exact in_tuple_reads r2 r1 h2 h1 hu (EP.pure S h (.bool _))
theorem X4.isNone{x:V}{Q:pV}(h:Q (.bool (match x with|.none=>true|_=>false)) σ):X4 C A .Is x .none σ Q X:=by
 intro s a b S ra rb;obtain rfl:=rb.noneI;refine is_none (EP.pure S h ?_)
 cases ra<;>exact .bool _
theorem X4.isNotNone{x:V}{Q:pV}(h:Q (.bool (match x with|.none=>false|_=>true)) σ):X4 C A .IsNot x .none σ Q X:=by
 intro s a b S ra rb;obtain rfl:=rb.noneI;refine isNot_none (EP.pure S h ?_)
 cases ra<;>exact .bool _
theorem Xh.list{l:Addr}{xs:List V}{Q:Bool->X0->Prop}(hl:X8 C σ l xs)(hz:xs.length<2 ^ 62)(h:Q (!xs.isEmpty) σ):Xh C A (.ref l) σ Q X:=by
 intro s a S r;obtain rfl:=r.refI;obtain⟨items,il,rl⟩:=hl.raw S;have e:=rl.length;simp only[Array.length_toList]at e;refine wpAny_truthy_list il (by exact Y5y hz e) ⟨σ,?_,S.toks _,.refl ..⟩;have:items.isEmpty=xs.isEmpty:=by
  unfold Array.isEmpty;rw[e]
  cases xs<;>simp
 rw[this];exact h
noncomputable def BltWP(C:Cx)(A:Around)(id:String)(args:List V)(σ:X0)(Q:pV)(X:XP):Prop:=X1 C A (.builtin id) args σ Q X
theorem BltWP.len_list{l:Addr}{xs:List V}{Q:pV}(hl:X8 C σ l xs)(hz:xs.length<2 ^ 62)(h:Q (.int xs.length) σ):X1 C A (.builtin "len") [.ref l] σ Q X:=by
 intro s vs S r;obtain⟨_,rfl,r1⟩:=r.one;obtain rfl:=r1.refI;obtain⟨items,il,rl⟩:=hl.raw S;have e:=rl.length;simp only[Array.length_toList]at e;refine Calls.call_len_list il (by exact Y5y hz e) ⟨_,σ,h,?_,S.toks _,.refl ..⟩;rw[e];exact .int _ _
end
noncomputable def Gets(s:Shared)(a:Value):Prop:=∃T id,s.TypeIs a T/\typeLookup (.type T) "__getitem__" = pure (some (.builtin id))
noncomputable def X5(C:Cx)(A:Around)(o i:V)(σ:X0)(Q:pV)(X:XP):Prop:=
 ∀s a b,St C σ s->VR s.heap a o->VR s.heap b i->Gets s a/\wpAny C.M A (getItem a b) (EP C σ s.heap Q) X s
section
variable {X:XP} {A:Around} {env:Env} {C:Cx} {σ:X0} {ρ:Rho} {s:Shared}
theorem Gets.list{a:Addr}{items:Array Value}(h:s.heap.IsList a items):Gets s (.ref a):=⟨_,_,h.typeIs,PySem.slot_list_getitem.lookup⟩
theorem Gets.tup{a:Addr}{items:Array Value}{n:Nat}(h:s.heap.get? a=some (Zf items n)):Gets s (.ref a):=⟨_,_,⟨_,h,rfl⟩,PyProof.Rows.slot_tuple_getitem.lookup⟩
theorem Gets.str{x:Str}{t:Tok}:Gets s (.str x t):=⟨_,_,typeIs_str s x t,PyProof.Rows.slot_str_getitem.lookup⟩
set_option tactic.hygienic true in
theorem ZX{o i:Value}{slice value:Expr}{Q:pS}{E:XP}(g:Gets s o)(h:wpAny C.M A (getItem o i) Q E s) :
  wpAny C.M A (do let r <-subscripted slice (<-getitemInPython o) o i;letTemporaryGo value o r;pure r) Q E s:=by
 revert A C s o i slice value Q E;k_extra "F";intro A C s o i slice value Q E g h
 obtain⟨T,id,hT,hl⟩:=g;refine wB ?_;rw[getitemInPython_of_ne hT.not_modules];refine wB (wpAny_specialOf hT hl (wP ?_));refine wB (wM (Q:=Q) ?_ (fun r s' q=>wB (wpAny_letTemporaryGo (wP q))) fun u u z=>z)
 cases slice<;>first|exact wpAny_operating h|(rename_i st _;cases st<;>exact wpAny_operating h)
theorem Ev.sub{value slice:Expr}{pos:Pos}{Q:pV}(h:Ev C A env value ρ σ (fun o σ1=>Ev C A env slice ρ σ1 (fun i σ2=>X5 C A o i σ2 Q X) X) X):Ev C A env (.Subscript value slice pos) ρ σ Q X:=by
 intro s S F;rw[eval_Subscript];refine wB (wM (h s S F) ?_ fun u u z=>z);rintro o s1 ⟨x,σ1,h1,r1,S1,e1⟩;refine wB (wpAny_holding (wM (h1 s1 S1 (F.evo e1)) ?_ fun u u z=>z));rintro i s2 ⟨y,σ2,h2,r2,S2,e2⟩;obtain⟨g,w⟩:=h2 s2 o i S2 (r1.mono e2.tup) r2;exact wB (wpAny_standAt (wM (ZX g w) (fun u u z=>(z.after e2).after e1) fun u u z=>z))
theorem X5.list{l:Addr}{xs:List V}{k:Int}{y:V}{Q:pV}(hl:X8 C σ l xs)(h0:0<=k)(hk:k<2 ^ 63)(hx:xs[k.toNat]?=some y)(h:Q y σ):X5 C A (.ref l) (.int k) σ Q X:=by
 intro s a b S ra rb;obtain rfl:=ra.refI;obtain⟨_,rfl⟩:=rb.intI;obtain⟨items,il,rl⟩:=hl.raw S;obtain⟨u,hu,ru⟩:=rl.get hx;exact⟨.list il,wpAny_getItem_list il h0 hk (by simpa using hu) (EP.pure S h ru)⟩
theorem X5.listNeg{l:Addr}{xs:List V}{k:Int}{y:V}{Q:pV}(hl:X8 C σ l xs)(h0:k<0)(h1:-(xs.length:Int)<=k)(hf:-(2 ^ 63)<=k)(hx:xs[(k+xs.length).toNat]?=some y)(h:Q y σ):X5 C A (.ref l) (.int k) σ Q X:=by
 intro s a b S ra rb;obtain rfl:=ra.refI;obtain⟨_,rfl⟩:=rb.intI;obtain⟨items,il,rl⟩:=hl.raw S;obtain⟨u,hu,ru⟩:=rl.get hx;have e:=rl.length;simp only[Array.length_toList]at e;exact⟨.list il,wpAny_getItem_list_neg il h0 (by rw[e];exact h1) hf (by rw[e];simpa using hu) (EP.pure S h ru)⟩
theorem X5.tup{xs:List V}{k:Int}{j:Nat}{y:V}{Q:pV}(hlo:-(2 ^ 63)<=k)(hhi:k<2 ^ 63)(hj:seqIndex? k xs.length=some j)(hx:xs[j]?=some y)(h:Q y σ):X5 C A (.tup xs) (.int k) σ Q X:=by
 revert X A C σ xs k j y Q;k_extra "F";intro X A C σ xs k j y Q hlo hhi hj hx h
 intro s a b S ra rb;obtain⟨_,rfl⟩:=rb.intI
 cases ra with
 | @tup t items n _ ha hr=>
  obtain⟨u,hu,ru⟩:=hr.get hx;have e:=hr.length;simp only[Array.length_toList]at e;exact⟨.tup ha,PyProof.Rows.getItem_tuple (t:=t) (items:=items) ⟨_,ha,rfl,n,rfl⟩ hlo hhi (by rw[e];exact hj) (by simpa using hu) (EP.pure S h ru)⟩
theorem X5.str{x:Str}{k:Int}{c:Nat}{Q:pV}(hlo:-(2 ^ 63)<=k)(hhi:k<2 ^ 63)(hc:(seqIndex? k x.length).bind (x.cps[·]?)=some c)(h:Q (.str ⟨#[c]⟩) σ):X5 C A (.str x) (.int k) σ Q X:=by
 intro s a b S ra rb;obtain⟨_,rfl⟩:=rb.intI;obtain⟨_,rfl⟩:=ra.strI;exact⟨.str,PyProof.Rows.getItem_str (by simp;exact Y6v hlo hhi) hc (EP.pureT S h (.str _ _))⟩
set_option tactic.hygienic true in
theorem X5.sd{d:Addr}{es:List (Str×V)}{k:Str}{y:V}{Q:pV}(hd:σ d=some (.sd es))(hx:sget es k=some y)(h:Q y σ):X5 C A (.ref d) (.str k) σ Q X:=by
 intro s a b S ra rb
 cases ra;cases rb
 rename_i t
 obtain⟨kvs,D,pr⟩:=S.rep _ _ hd;obtain⟨u,hu,ru⟩:=pr.find (x:=k) (y:=y) hx;refine⟨⟨_,_,D.typeIs,PySem.slot_dict_getitem.lookup⟩,?_⟩;exact wpAny_getItem_of (knd:=strKind C.prog C.w) (k:=k) (by show(k==k)=true;simp) D.mapOf hu (EP.pureT S h ru)
noncomputable def Prt(C:Cx)(A:Around)(env:Env)(e:Option Expr)(ρ:Rho)(σ:X0)(Q:Option Int->X0->Prop)(X:XP):Prop:=
 match e with
 | none=>Q none σ
 | some e=>Ev C A env e ρ σ (fun x σ1=>∃i,x=.int i/\Q (some i) σ1) X
theorem Prt.none{Q:Option Int->X0->Prop}(h:Q Option.none σ):Prt C A env Option.none ρ σ Q X:=h
theorem Prt.some{e:Expr}{Q:Option Int->X0->Prop}(h:Ev C A env e ρ σ (fun x σ1=>∃i,x=.int i/\Q (Option.some i) σ1) X):Prt C A env (Option.some e) ρ σ Q X:=h
theorem Prt.run{e:Option Expr}{Q:Option Int->X0->Prop}(h:Prt C A env e ρ σ Q X)(S:St C σ s)(F:Fm C σ s.heap env ρ) :
  wpAny C.M A (valueOrNone (evalOpt e env)) (fun v s'=>∃k σ',Q k σ'/\IsPart v k/\St C σ' s'/\Evo σ s.heap σ' s'.heap) X s:=by
 match e,h with
 | Option.none,h=>exact wP ⟨Option.none,σ,h,.none,S,.refl ..⟩
 | Option.some e,h=>
  refine wM (h s S F) ?_ fun u u z=>z;rintro v s1 ⟨x,σ1,⟨i,rfl,q⟩,r1,S1,e1⟩
  cases r1
  exact⟨Option.some i,σ1,q,.int _ _,S1,e1⟩
noncomputable def Zs{α:Type}(xs:List α)(lo hi:Option Int):List α:=
 (sliceRange (sliceBounds lo hi none xs.length).1 (sliceBounds lo hi none xs.length).2.1 (sliceBounds lo hi none xs.length).2.2).filterMap (xs[·]?)
theorem VRs.pick{h:Heap}{vs:List Value}{xs:List V}(r:VRs h vs xs):∀ks:List Nat,VRs h (ks.filterMap (vs[·]?)) (ks.filterMap (xs[·]?))
 | []=>.nil
 | k::ks=>by
  have ih:=VRs.pick r ks
  cases q:xs[k]? with
  | none=>
   have:vs[k]?=none:=by
    have h1:=List.getElem?_eq_none_iff.mp q;exact List.getElem?_eq_none_iff.mpr (by rw[r.length];exact h1)
   simp only[List.filterMap_cons,q,this];exact ih
  | some y=>
   obtain⟨u,hu,ru⟩:=r.get q;simp only[List.filterMap_cons,q,hu];exact .cons ru ih
theorem Z2J(items:Array Value)(lo hi:Option Int):(slicePick items lo hi none).toList=Zs items.toList lo hi:=by
 unfold slicePick Zs;simp
end
noncomputable def TyV(C:Cx)(σ:X0)(x:V)(T:String):Prop:=∀s v,St C σ s->VR s.heap v x->s.TypeIs v T/\∀a,v=.ref a->∃ob,s.heap.get? a=some ob/\ob.dict=none
section
variable {X:XP} {A:Around} {env:Env} {C:Cx} {σ:X0} {ρ:Rho} {s:Shared}
theorem TyV.list{l:Addr}{xs:List V}(h:σ l=some (.list xs)):TyV C σ (.ref l) "list":=by
 intro s v S r
 cases r
 obtain⟨items,⟨n,e⟩,_⟩:=S.rep _ _ h;exact⟨⟨_,e,rfl⟩,fun a q=>by cases q;exact⟨_,e,rfl⟩⟩
theorem TyV.sd{l:Addr}{xs:List (Str×V)}(h:σ l=some (.sd xs)):TyV C σ (.ref l) "dict":=by
 revert C σ l xs;k_extra "J";intro C σ l xs h
 intro s v S r
 cases r
 obtain⟨kvs,D,_⟩:=S.rep _ _ h;exact⟨D.typeIs,D.mapOf.noDict⟩
theorem TyV.str{x:Str}:TyV C σ (.str x) "str":=by
 intro s v S r
 cases r
 exact⟨typeIs_str _ _ _,fun a q=>by cases q⟩
theorem Ev.bmeth{o:Expr}{name:Str}{apos pos:Pos}{args:List Expr}{T id:String}{Q:pV}(pa:PlainAttrs T)(slot:Slot T name id)(hty:typeOf (.builtin id)=Pure.pure (.type "method_descriptor"))(h:Ev C A env o ρ σ (fun x σ1=>TyV C σ1 x T/\Ags C A env pos args ρ σ1 (fun xs σ2=>X1 C A (.builtin id) (x::xs) σ2 Q X) X) X)(hbase:attributeBase o name env (eval o env)=eval o env:=by kernel_rfl)(hfew:((backTo pos (starEach args env)).all (fun x=>!x.1)&&(backToKw pos (keywordEach [] env)).all (fun x=>x.1.isSome)
   && decide (args.length+([]:List Keyword).length+(if ([]:List Keyword).isEmpty then 0 else 1)<30))=true:=by kernel_rfl)(hline:(apos.endLine==pos.line)=true:=by kernel_rfl)(hst:(backTo pos (starEach args env)).any (fun x=>x.1)=false:=by kernel_rfl):Ev C A env (.Call (.Attribute o name apos) args [] pos) ρ σ Q X:=by
 intro s S F;refine wpAny_Call_method hbase hfew hline pa slot hty (wM (h s S F) ?_ fun u u z=>z);rintro ov s1 ⟨x,σ1,⟨t,q⟩,r1,S1,e1⟩;obtain⟨t1,t2⟩:=t s1 ov S1 r1;exact⟨t1,t2,wM (Zl (first:=[ov]) (fx:=[x]) Kp.blt S1 (F.evo e1) (.cons r1 .nil) q hst) (fun u u z=>z.after e1) fun u u z=>z⟩
theorem Z27{l:Addr}{xs:List V}{items:Array Value}{n:Nat}{f:Array Value->Array Value}{ys:List V}(S:St C σ s)(hl:σ l=some (.list xs))(e:s.heap.get? l=some { cls:=.type "list",data:=.seq items n })(r:VRs s.heap (f items).toList ys):St C (σ.upd l (.list ys)) { s with heap:=s.heap.update l (Obj.mapSeq f) }/\Evo σ s.heap (σ.upd l (.list ys)) (s.heap.update l (Obj.mapSeq f)):=by
 have sb:Heap.SameBut l s.heap (s.heap.update l (Obj.mapSeq f)):=Heap.SameBut.update ..;have tk:X7 s.heap (s.heap.update l (Obj.mapSeq f)):=Z7 sb (S.rep _ _ hl).notTup;have e':∃n',(s.heap.update l (Obj.mapSeq f)).get? l=some { cls:=.type "list",data:=.seq (f items) n' }:=by
  refine⟨if (f items).size==items.size then n else n+1,?_⟩;rw[Heap.get?_update_self _ e (by rfl)];rfl
 exact S.set (t:=s.toks) hl sb ⟨f items,e',r.mono tk⟩
theorem X1.append{l:Addr}{xs:List V}{x:V}{Q:pV}(hl:σ l=some (.list xs))(hz:xs.length<=sizeLine)(h:Q .none (σ.upd l (.list (xs++[x])))):X1 C A (.builtin "list.append") [.ref l,x] σ Q X:=by
 intro s vs S r;obtain⟨_,_,rfl,r1,r2⟩:=r.two;obtain rfl:=r1.refI;obtain⟨items,pl,rl⟩:=S.rep _ _ hl;have e:=rl.length;simp only[Array.length_toList]at e;refine wpAny_list_append_plain pl (fun h' pl' sb=>?_) (by exact Y5L hz e);have tk:X7 s.heap h':=Z7 sb (S.rep _ _ hl).notTup;obtain⟨S',e'⟩:=S.set (t:=s.toks) (o':=.list (xs++[x])) hl sb ⟨_,pl',by simp only[Array.toList_push];exact(rl.mono tk).append (.cons (r2.mono tk) .nil)⟩;exact⟨.none,_,h,.none,S',e'⟩
theorem VRs.erase{h:Heap}{vs:List Value}{xs:List V}(r:VRs h vs xs):∀k:Nat,VRs h (vs.eraseIdx k) (xs.eraseIdx k):=by
 refine r.ind (P:=fun vs xs=>∀k:Nat,VRs h (vs.eraseIdx k) (xs.eraseIdx k)) (fun z=>.nil) fun a b ih k=>?_
 cases k with
 | zero=>exact b
 | succ k=>exact .cons a (ih k)
set_option tactic.hygienic true in
theorem X1.pop_at{l:Addr}{xs:List V}{k:Int}{j:Nat}{y:V}{Q:pV}(hl:σ l=some (.list xs))(hk:Builtin.List.listFitsIndex k=true)(hj:seqIndex? k xs.length=some j)(hy:xs[j]?=some y)(hz:xs.length<=sizeLine)(h:Q y (σ.upd l (.list (xs.eraseIdx j)))):X1 C A (.builtin "list.pop") [.ref l,.int k] σ Q X:=by
 revert X A C σ l xs k j y Q;k_extra "t";intro X A C σ l xs k j y Q hl hk hj hy hz h
 intro s vs S r;obtain⟨_,_,rfl,r1,r2⟩:=r.two;obtain rfl:=r1.refI;obtain⟨_,rfl⟩:=r2.intI
 rename_i t
 obtain⟨items,⟨n,e⟩,rl⟩:=S.rep _ _ hl;have el:=rl.length;simp only[Array.length_toList]at el;obtain⟨u,hu,ru⟩:=rl.get hy;have hne:items.isEmpty=false:=by
  have:j<xs.length:=(List.getElem?_eq_some_iff.mp hy).1;have h0:items.size≠0:=by exact(Nr 0xc00460882908049) el this
  simpa [Array.isEmpty] using h0
 refine wpAny_call_entry F.slot_list_pop ⟨_,e,rfl⟩ F.entry_list_pop ?_ (F.args_list_pop_2 _ _);show wpAny _ _ (do
  if !Builtin.List.listFitsIndex k then rule "list.pop.index-too-large";raiseError "OverflowError" "Python int too large to convert to C ssize_t"
  let xs <-Builtin.List.listItems (.ref l)
  if xs.isEmpty then rule "list.pop.empty";raiseError "IndexError" "pop from empty list"
  match (seqIndex? k xs.size).bind fun k=>xs[k]?.map (k,·) with
  | some (k,x)=>Builtin.List.listUpdate (.ref l) (·.eraseIdxIfInBounds k);ret x
  | none=>rule "list.pop.out-of-range";raiseError "IndexError" "pop index out of range") _ _ s
 rw[hk];refine wB (wpAny_listItems e rfl ?_);have hu':items[j]?=some u:=by simpa using hu
 simp only[hne,el,hj,Option.bind_some,hu',Option.map_some,Bool.false_eq_true,if_false];refine wB (wpAny_updateSeq e rfl (wP ⟨_,rfl,?_⟩) (by exact Y5L hz el) (by show(items.eraseIdxIfInBounds j).size<=_;unfold Array.eraseIdxIfInBounds;split<;>(try simp)<;>(first|lia|omega)));obtain⟨S',e'⟩:=Z27 (f:=fun x=>x.eraseIdxIfInBounds j) S hl e (ys:=xs.eraseIdx j) (by
  have:(items.eraseIdxIfInBounds j).toList=items.toList.eraseIdx j:=by
   have hj':j<items.size:=by rw[el];exact(List.getElem?_eq_some_iff.mp hy).1
   simp[Array.eraseIdxIfInBounds,hj',Array.toList_eraseIdx]
  rw[this];exact rl.erase j)
 exact⟨y,_,h,ru.mono e'.tup,S',e'⟩
theorem Z28{l:Addr}{items:Array Value}{n j:Nat}{x:Value}(hz:items.size<=sizeLine)(hj:j<items.size):∀(k i:Nat) (R:Result->Shared->Prop),j-i=k->i<=j->s.heap.get? l=some { cls:=.type "list",data:=.seq items n }->
  (∀m (hm:m<items.size),i<=m->m<j->EqAt A.in1 s items[m] x false)->EqAt A.in1 s items[j] x true->R (.ok (.ret .none)) { s with heap:=s.heap.update l (Obj.mapSeq fun xs=>xs.eraseIdxIfInBounds j) }->
  codeAny C.M A (.builtin "list.remove.loop" ⟨[.ref l,x,rawInt i],[]⟩) R s:=by
 revert A C s l items n j x;k_extra "R";intro A C s l items n j x hz hj
 intro k
 induction k with
 | zero=>
  intro i R hk hij e hno hit hR;have:i=j:=by exact(Nq 0x1100204830105c49) hk hij
  subst this;refine codeAny_builtin MeetsSeq.entry_remove_loop ?_;rw[Around.under_plainId MeetsSeq.plain_remove_loop _];refine wB (wpAny_listItems e rfl ?_);have hi:items[((i:Nat):Int).toNat]?=some items[i]:=by simp[hj]
  rw[hi];refine wB (hit C.prog C.w _ _ ?_);refine wB (wpAny_updateSeq e rfl (wP hR) hz ?_);show(items.eraseIdxIfInBounds i).size<=_;unfold Array.eraseIdxIfInBounds
  split<;>(try simp)<;>(first|lia|omega)
 | succ k ih=>
  intro i R hk hij e hno hit hR;have hlt:i<items.size:=by exact(Nr 0x4410080908029) hj hij
  refine codeAny_builtin MeetsSeq.entry_remove_loop ?_;rw[Around.under_plainId MeetsSeq.plain_remove_loop _];refine wB (wpAny_listItems e rfl ?_);have hi:items[((i:Nat):Int).toNat]?=some items[i]:=by simp[hlt]
  rw[hi];refine wB (hno i hlt (Nat.le_refl _) (by exact Y5Q hk) C.prog C.w _ _ ?_);refine wP ⟨plainId_quiet MeetsSeq.plain_remove_loop _,?_⟩;exact ih (i+1) R (by exact Y5R hk) (by exact Y5S hk) e (fun m hm h1 h2=>hno m hm (by exact Y3V h1) h2) hit hR
theorem DRs.get{xs:List V}{ds:List PyData}(h:DRs C σ xs ds){i:Nat}{x:V}(e:xs[i]?=some x):∃d,ds[i]?=some d/\DR C σ x d:=by
 cases h with
 | nil=>cases e
 | cons a b=>
  cases i with
  | zero=>cases e;exact⟨_,rfl,a⟩
  | succ i=>exact DRs.get b e
theorem DRs.length:∀{xs:List V} {ds:List PyData},DRs C σ xs ds->xs.length=ds.length:=by
 intro xs
 induction xs with
 | nil=>intro ds r;cases r;rfl
 | cons x xs ih=>
  intro ds r
  cases r with
  | cons a b=>exact congrArg (·+1) (ih b)
theorem Z4v{ds:List PyData}{i:Nat}{d:PyData}(h:PyData.canLayAll0 ds=true)(e:ds[i]?=some d):d.canLay0=true:=
 PyData.canLay0_of_mem ds d h (List.mem_of_getElem? e)
theorem Z2S:∀{ds:List PyData} {i:Nat} {d:PyData},ds[i]?=some d->d.depth<=PyData.depthAll ds
 | [],_,_,e=>by simp at e
 | _::ds,0,_,e=>by simp at e;subst e;exact Nat.le_max_left _ _
 | _::ds,i+1,_,e=>Nat.le_trans (Z2S (ds:=ds) (i:=i) (by simpa using e)) (Nat.le_max_right _ _)
theorem X1.remove{l:Addr}{xs:List V}{x:V}{d:PyData}{ds:List PyData}{j:Nat}{Q:pV}(hl:σ l=some (.list xs))(hx:DR C σ x d)(hy:DRs C σ xs ds)(h1:d.canLay0=true)(h2:PyData.canLayAll0 ds=true)(hu:A.units+1+min (PyData.depthAll ds) d.depth<cLine)(hz:xs.length<=sizeLine)(hj:ds.findIdx? (fun y=>PyData.eqv y d)=some j)(h:Q .none (σ.upd l (.list (xs.eraseIdx j)))):X1 C A (.builtin "list.remove") [.ref l,x] σ Q X:=by
 revert X A C σ l xs x d ds j Q;k_extra "q";intro X A C σ l xs x d ds j Q hl hx hy h1 h2 hu hz hj h
 intro s vs S r
 cases r with
 | cons r1 r2=>
 cases r2 with
 | @cons v _ _ _ r2 r3=>
 cases r3;cases r1
 obtain⟨items,⟨n,e⟩,rl⟩:=S.rep _ _ hl;have el:=rl.length;simp only[Array.length_toList]at el;obtain⟨hjl,hjt,hjf⟩:=List.findIdx?_eq_some_iff_getElem.mp hj;have hjs:j<items.size:=by rw[el,hy.length];exact hjl
 obtain⟨as,rx⟩:=hx.reads S r2;have at_:∀m (hm:m<items.size),∃dm,ds[m]?=some dm/\EqAt A.in1 s items[m] v (PyData.eqv dm d):=fun m hm=>by
  obtain⟨y,hy1,hy2⟩:=rl.get' (i:=m) (u:=items[m]) (by simp[hm]);obtain⟨dm,hd1,hd2⟩:=hy.get hy1;obtain⟨bs,rd⟩:=hd2.reads S hy2;refine⟨dm,hd1,fun prog w E Q hq=>eqBoolOverData prog w _ E s _ _ dm d _ _ Q rd rx (Z4v h2 hd1) h1 ?_ hq⟩;have:=Z2S hd1;show A.units+1+_<_;exact Y5T hu this
 refine wpAny_call (codeAny_call_builtin F.slot_list_remove.plain F.entry_list_remove (F.slot_list_remove.check _ _ _ _ _ _ _ _ ⟨_,e,rfl⟩ (F.args_list_remove_2 _ _) ?_));refine wP ⟨plainId_quiet MeetsSeq.plain_remove_loop _,?_⟩;refine Z28 (j:=j) (by exact Y5L hz el) hjs _ 0 _ rfl (Nat.zero_le _) e (fun m hm z hmj=>?_) ?_ ?_
 ·obtain⟨dm,hd1,hd2⟩:=at_ m hm;have hf:=hjf m hmj;have:ds[m]?=some ds[m]:=by simp
  rw[this]at hd1;cases hd1;rw[Bool.not_eq_true]at hf;rw[hf]at hd2;exact hd2
 ·obtain⟨dm,hd1,hd2⟩:=at_ j hjs;have:ds[j]?=some ds[j]:=by simp
  rw[this]at hd1;cases hd1;rw[hjt]at hd2;exact hd2
 ·obtain⟨S',e'⟩:=Z27 (f:=fun x=>x.eraseIdxIfInBounds j) S hl e (ys:=xs.eraseIdx j) (by
   have:(items.eraseIdxIfInBounds j).toList=items.toList.eraseIdx j:=by
    simp[Array.eraseIdxIfInBounds,hjs,Array.toList_eraseIdx]
   rw[this];exact rl.erase j)
  exact⟨.none,_,h,.none,S',e'⟩
end
inductive Ty where
 | none|bool|int|str|tup|list|dict
theorem Z7G:Nonempty Ty:=⟨.none⟩
noncomputable def Ty.name:Ty->String
 | .none=>"NoneType" | .bool=>"bool" | .int=>"int" | .str=>"str" | .tup=>"tuple" | .list=>"list" | .dict=>"dict"
inductive Xe(C:Cx)(σ:X0):V->Ty->Prop
 | none:Xe C σ .none .none
 | bool (b:Bool):Xe C σ (.bool b) .bool
 | int (i:Int):Xe C σ (.int i) .int
 | str (x:Str):Xe C σ (.str x) .str
 | tup (xs:List V):Xe C σ (.tup xs) .tup
 | list {l:Addr} {xs:List V}:X8 C σ l xs->Xe C σ (.ref l) .list
 | sd {l:Addr} {xs:List (Str×V)}:σ l=some (.sd xs)->Xe C σ (.ref l) .dict
 | id {l:Addr} {xs:List (Int×V)}:σ l=some (.id xs)->Xe C σ (.ref l) .dict
noncomputable def isiB:Ty->String->Bool
 | .bool,"int"=>true
 | .bool,"bool"=>true
 | .int,"int"=>true
 | .str,"str"=>true
 | .tup,"tuple"=>true
 | .list,"list"=>true
 | _,_=>false
section
variable {X:XP} {A:Around} {env:Env} {C:Cx} {σ:X0} {ρ:Rho} {s:Shared}
noncomputable def Z6o(s:Shared)(v:Value):Ty->Prop
 | .none=>v=.none
 | .bool=>∃b,v=.bool b
 | .int=>∃i t,v=.int i t
 | .str=>∃x t,v=.str x t
 | .tup=>∃a o,v=.ref a/\s.heap.get? a=some o/\o.cls=.type "tuple"
 | .list=>∃a o,v=.ref a/\s.heap.get? a=some o/\o.cls=.type "list"
 | .dict=>∃a o,v=.ref a/\s.heap.get? a=some o/\o.cls=.type "dict"
theorem Xe.bears{x:V}{t:Ty}(h:Xe C σ x t){v:Value}(S:St C σ s)(r:VR s.heap v x):Z6o s v t:=by
 cases h with
 | none=>exact r.noneI
 | bool b=>exact⟨b,r.boolI⟩
 | int i=>exact⟨i,r.intI⟩
 | str i=>exact⟨i,r.strI⟩
 | tup xs=>
  obtain⟨a,items,n,rfl,e,_⟩:=r.tupI;exact⟨_,_,rfl,e,rfl⟩
 | list hl=>
  obtain rfl:=r.refI;obtain⟨items,⟨o,e,c,_⟩,_⟩:=hl.raw S;exact⟨_,_,rfl,e,c⟩
 | sd hl=>
  obtain rfl:=r.refI;obtain⟨kvs,D,_⟩:=S.rep _ _ hl;obtain⟨o,e,c⟩:=D.typeIs (s:=s);exact⟨_,_,rfl,e,c⟩
 | id hl=>
  obtain rfl:=r.refI;obtain⟨kvs,D,_⟩:=S.rep _ _ hl;obtain⟨o,e,c⟩:=D.typeIs (s:=s);exact⟨_,_,rfl,e,c⟩
theorem Z6w{v:Value}{t:Ty}{U:String}{Q:pS}{E:XP}(b:Z6o s v t)(hU:U="int" \/U="bool" \/U="str" \/U="list" \/U="tuple")(h:∀tk,Q (.bool (isiB t U)) { s with toks:=tk }) :
  wpAny C.M A (call (.builtin "isinstance") [v,.type U]) Q E s:=by
 revert A C s v t U Q E;k_extra "R";intro A C s v t U Q E b hU h
 rcases hU with rfl|rfl|rfl|rfl|rfl
 ·cases t with
  | none=>subst b;exact call_isinstance (isinstance_false_none (by decide +kernel) F.isi_meta_int F.sub_NoneType_int) (h _)
  | bool=>obtain⟨_,rfl⟩:=b;exact call_isinstance (isinstance_true (Tx:="bool") F.isi_meta_int F.sub_bool_int) ⟨rfl,h s.toks⟩
  | int=>obtain⟨_,_,rfl⟩:=b;exact call_isinstance (isinstance_true (Tx:="int") F.isi_meta_int F.sub_int_int) ⟨rfl,h s.toks⟩
  | str=>obtain⟨_,_,rfl⟩:=b;exact call_isinstance (isinstance_false_str (by decide +kernel) F.isi_meta_int F.sub_str_int) (h _)
  | tup=>obtain⟨a,o,rfl,e,hc⟩:=b;exact call_isinstance (isinstance_false_tuple (by decide +kernel) F.isi_meta_int F.sub_tuple_int) ⟨⟨o,e,hc⟩,h _⟩
  | list=>obtain⟨a,o,rfl,e,hc⟩:=b;exact call_isinstance (isinstance_false_list (by decide +kernel) F.isi_meta_int F.sub_list_int) ⟨⟨o,e,hc⟩,h _⟩
  | dict=>obtain⟨a,o,rfl,e,hc⟩:=b;exact call_isinstance (isinstance_false_dict (by decide +kernel) F.isi_meta_int F.sub_dict_int) ⟨⟨o,e,hc⟩,h _⟩
 ·cases t with
  | none=>subst b;exact call_isinstance (isinstance_false_none (by decide +kernel) F.isi_meta_bool F.sub_NoneType_bool) (h _)
  | bool=>obtain⟨_,rfl⟩:=b;exact call_isinstance (isinstance_true (Tx:="bool") F.isi_meta_bool F.sub_bool_bool) ⟨rfl,h s.toks⟩
  | int=>obtain⟨_,_,rfl⟩:=b;exact call_isinstance (isinstance_false_int (by decide +kernel) F.isi_meta_bool F.sub_int_bool) (h _)
  | str=>obtain⟨_,_,rfl⟩:=b;exact call_isinstance (isinstance_false_str (by decide +kernel) F.isi_meta_bool F.sub_str_bool) (h _)
  | tup=>obtain⟨a,o,rfl,e,hc⟩:=b;exact call_isinstance (isinstance_false_tuple (by decide +kernel) F.isi_meta_bool F.sub_tuple_bool) ⟨⟨o,e,hc⟩,h _⟩
  | list=>obtain⟨a,o,rfl,e,hc⟩:=b;exact call_isinstance (isinstance_false_list (by decide +kernel) F.isi_meta_bool F.sub_list_bool) ⟨⟨o,e,hc⟩,h _⟩
  | dict=>obtain⟨a,o,rfl,e,hc⟩:=b;exact call_isinstance (isinstance_false_dict (by decide +kernel) F.isi_meta_bool F.sub_dict_bool) ⟨⟨o,e,hc⟩,h _⟩
 ·cases t with
  | none=>subst b;exact call_isinstance (isinstance_false_none (by decide +kernel) F.isi_meta_str F.sub_NoneType_str) (h _)
  | bool=>obtain⟨_,rfl⟩:=b;exact call_isinstance (isinstance_false_bool (by decide +kernel) F.isi_meta_str F.sub_bool_str) (h _)
  | int=>obtain⟨_,_,rfl⟩:=b;exact call_isinstance (isinstance_false_int (by decide +kernel) F.isi_meta_str F.sub_int_str) (h _)
  | str=>obtain⟨_,_,rfl⟩:=b;exact call_isinstance (isinstance_true (Tx:="str") F.isi_meta_str F.sub_str_str) ⟨rfl,h s.toks⟩
  | tup=>obtain⟨a,o,rfl,e,hc⟩:=b;exact call_isinstance (isinstance_false_tuple (by decide +kernel) F.isi_meta_str F.sub_tuple_str) ⟨⟨o,e,hc⟩,h _⟩
  | list=>obtain⟨a,o,rfl,e,hc⟩:=b;exact call_isinstance (isinstance_false_list (by decide +kernel) F.isi_meta_str F.sub_list_str) ⟨⟨o,e,hc⟩,h _⟩
  | dict=>obtain⟨a,o,rfl,e,hc⟩:=b;exact call_isinstance (isinstance_false_dict (by decide +kernel) F.isi_meta_str F.sub_dict_str) ⟨⟨o,e,hc⟩,h _⟩
 ·cases t with
  | none=>subst b;exact call_isinstance (isinstance_false_none (by decide +kernel) F.isi_meta_list F.sub_NoneType_list) (h _)
  | bool=>obtain⟨_,rfl⟩:=b;exact call_isinstance (isinstance_false_bool (by decide +kernel) F.isi_meta_list F.sub_bool_list) (h _)
  | int=>obtain⟨_,_,rfl⟩:=b;exact call_isinstance (isinstance_false_int (by decide +kernel) F.isi_meta_list F.sub_int_list) (h _)
  | str=>obtain⟨_,_,rfl⟩:=b;exact call_isinstance (isinstance_false_str (by decide +kernel) F.isi_meta_list F.sub_str_list) (h _)
  | tup=>obtain⟨a,o,rfl,e,hc⟩:=b;exact call_isinstance (isinstance_false_tuple (by decide +kernel) F.isi_meta_list F.sub_tuple_list) ⟨⟨o,e,hc⟩,h _⟩
  | list=>obtain⟨a,o,rfl,e,hc⟩:=b;exact call_isinstance (isinstance_true (Tx:="list") F.isi_meta_list F.sub_list_list) ⟨⟨o,e,hc⟩,h s.toks⟩
  | dict=>obtain⟨a,o,rfl,e,hc⟩:=b;exact call_isinstance (isinstance_false_dict (by decide +kernel) F.isi_meta_list F.sub_dict_list) ⟨⟨o,e,hc⟩,h _⟩
 ·cases t with
  | none=>subst b;exact call_isinstance (isinstance_false_none (by decide +kernel) F.isi_meta_tuple F.sub_NoneType_tuple) (h _)
  | bool=>obtain⟨_,rfl⟩:=b;exact call_isinstance (isinstance_false_bool (by decide +kernel) F.isi_meta_tuple F.sub_bool_tuple) (h _)
  | int=>obtain⟨_,_,rfl⟩:=b;exact call_isinstance (isinstance_false_int (by decide +kernel) F.isi_meta_tuple F.sub_int_tuple) (h _)
  | str=>obtain⟨_,_,rfl⟩:=b;exact call_isinstance (isinstance_false_str (by decide +kernel) F.isi_meta_tuple F.sub_str_tuple) (h _)
  | tup=>obtain⟨a,o,rfl,e,hc⟩:=b;exact call_isinstance (isinstance_true (Tx:="tuple") F.isi_meta_tuple F.sub_tuple_tuple) ⟨⟨o,e,hc⟩,h s.toks⟩
  | list=>obtain⟨a,o,rfl,e,hc⟩:=b;exact call_isinstance (isinstance_false_list (by decide +kernel) F.isi_meta_tuple F.sub_list_tuple) ⟨⟨o,e,hc⟩,h _⟩
  | dict=>obtain⟨a,o,rfl,e,hc⟩:=b;exact call_isinstance (isinstance_false_dict (by decide +kernel) F.isi_meta_tuple F.sub_dict_tuple) ⟨⟨o,e,hc⟩,h _⟩
theorem X1.isi{x:V}{t:Ty}{U:String}{Q:pV}(ht:Xe C σ x t)(hU:U="int" \/U="bool" \/U="str" \/U="list" \/U="tuple")(h:Q (.bool (isiB t U)) σ):X1 C A (.builtin "isinstance") [x,.typ U] σ Q X:=by
 intro s vs S r;obtain⟨_,_,rfl,r1,r2⟩:=r.two;obtain rfl:=r2.typI;exact Z6w (ht.bears S r1) hU fun tk=>EP.pureT S h (.bool _)
theorem X1.listOf{l:Addr}{xs:List V}{Q:pV}(hl:X8 C σ l xs)(hz:xs.length<=sizeLine)(h:∀a,σ a=Option.none->Q (.ref a) (σ.upd a (.list xs))):X1 C A (.type "list") [.ref l] σ Q X:=by
 intro s vs S r;obtain⟨_,rfl,r1⟩:=r.one;obtain rfl:=r1.refI;obtain⟨items,⟨o,e,c,n,hd⟩,rl⟩:=hl.raw S;have el:=rl.length;simp only[Array.length_toList]at el;refine call_list_seq l (.inl rfl) e c hd (fun h' c' kp e'=>?_) (by exact Y5L hz el);have S':St C σ { s with heap:=h',toks:=s.toks }:=S.ext kp;obtain⟨S2,e2⟩:=S'.adopt (a:=s.heap.objs.size) (o:=.list xs) (σ0:=σ) (h0:=s.heap) ⟨items,⟨c',e'⟩,rl.mono fun z z z q=>kp _ _ q⟩ S.size (.ext kp) (get?_fresh _);exact⟨.ref _,_,h _ S.fresh,.ref _,S2,e2⟩
theorem X1.listOfTup{xs:List V}{Q:pV}(hz:xs.length<=sizeLine)(h:∀a,σ a=Option.none->Q (.ref a) (σ.upd a (.list xs))):X1 C A (.type "list") [.tup xs] σ Q X:=by
 intro s vs S r;obtain⟨_,rfl,r1⟩:=r.one
 cases r1 with
 | @tup a items n _ e rl=>
 have el:=rl.length;simp only[Array.length_toList]at el;refine call_list_seq a (.inr rfl) e rfl rfl (fun h' c' kp e'=>?_) (by exact Y5L hz el);have S':St C σ { s with heap:=h',toks:=s.toks }:=S.ext kp;obtain⟨S2,e2⟩:=S'.adopt (a:=s.heap.objs.size) (o:=.list xs) (σ0:=σ) (h0:=s.heap) ⟨items,⟨c',e'⟩,rl.mono fun z z z q=>kp _ _ q⟩ S.size (.ext kp) (get?_fresh _);exact⟨.ref _,_,h _ S.fresh,.ref _,S2,e2⟩
theorem X1.tupOf{l:Addr}{xs:List V}{Q:pV}(hl:X8 C σ l xs)(hz:xs.length<=sizeLine)(h:Q (.tup xs) σ):X1 C A (.type "tuple") [.ref l] σ Q X:=by
 intro s vs S r;obtain⟨_,rfl,r1⟩:=r.one;obtain rfl:=r1.refI;obtain⟨items,il,rl⟩:=hl.raw S;have el:=rl.length;simp only[Array.length_toList]at el;refine call_tuple_list il (fun h' kp=>?_) (by exact Y5L hz el);have S':St C σ { s with heap:=h',toks:=s.toks }:=S.ext kp;exact⟨.tup xs,σ,h,.tup (n:=0) (Heap.get?_push_size _ rfl) ((rl.mono fun z z z q=>kp _ _ q).push),S'.push,(Evo.ext kp).trans .push⟩
theorem X1.len_tup{xs:List V}{Q:pV}(hz:xs.length<2 ^ 62)(h:Q (.int xs.length) σ):X1 C A (.builtin "len") [.tup xs] σ Q X:=by
 revert X A C σ xs Q;k_extra "O";intro X A C σ xs Q hz h
 intro s vs S r;obtain⟨_,rfl,r1⟩:=r.one
 cases r1 with
 | @tup a items n _ e rl=>
 have el:=rl.length;simp only[Array.length_toList]at el;refine PyProof.Rows.len_tuple (t:=a) (items:=items) ⟨_,e,rfl,n,rfl⟩ (by exact Y5y hz el) ⟨_,σ,h,?_,S.toks _,.refl ..⟩;rw[el];exact .int _ _
theorem X1.len_str{x:Str}{Q:pV}(hz:x.length<2 ^ 62)(h:Q (.int x.length) σ):X1 C A (.builtin "len") [.str x] σ Q X:=by
 intro s vs S r;obtain⟨_,rfl,r1⟩:=r.one;obtain⟨_,rfl⟩:=r1.strI;exact PyProof.Rows.len_str (by exact Y6l hz) ⟨_,σ,h,.int _ _,S.toks _,.refl ..⟩
end
section
variable {X:XP} {A:Around} {env:Env} {C:Cx} {σ:X0} {ρ:Rho} {s:Shared}
theorem X9.cat{l b:Addr}{xs ys:List V}{Q:pV}(hl:X8 C σ l xs)(hb:X8 C σ b ys)(hz:xs.length+ys.length<=sizeLine)(h:∀a,σ a=none->Q (.ref a) (σ.upd a (.list (xs++ys)))) :
  X9 C A .Add (.ref l) (.ref b) σ Q X:=by
 revert X A C σ l b xs ys Q;k_extra "F";intro X A C σ l b xs ys Q hl hb hz h
 intro s u v S r1 r2
 cases r1;cases r2
 obtain⟨items,⟨⟨c1,d1,t1,s1⟩,ho,hc,n,hd⟩,rl⟩:=hl.raw S;obtain⟨items2,⟨⟨c2,d2,t2,s2⟩,ho2,hc2,n2,hd2⟩,rl2⟩:=hb.raw S;have el:=rl.length;have el2:=rl2.length;simp only[Array.length_toList]at el el2;dsimp only at hc hd hc2 hd2;subst hc hd hc2 hd2;refine concat_meets ⟨_,ho,rfl⟩ ⟨_,ho2,rfl⟩ noFill_list_add seq_list_add PySem.F.slot_list_add PySem.F.entry_list_add (PySem.F.args_list_add_2 _ _) (PyProof.Rows.list_addW l b items items2 n n2 d1 d2 s1 s2 (by exact(Nt 0x883b0024124031244105809) hz el el2)) ⟨ho,ho2,?_⟩;obtain⟨S2,e2⟩:=S.new (t:=s.toks) (x:={ cls:=.type "list",data:=.seq (items++items2) }) (o:=.list (xs++ys)) ⟨_,⟨0,Heap.get?_push_size _ rfl⟩,by simp only[Array.toList_append];exact(rl.append rl2).push⟩;exact⟨.ref _,_,h _ S.fresh,.ref _,S2,e2⟩
theorem Z43{h:Heap}:∀{vs:List Value} {ts:List Str},VRs h vs (ts.map V.str)->∃l:List (Str×Tok),vs=strValues l/\l.map (fun x=>x.1)=ts
 | vs,[],r=>by obtain rfl:=r.nilI;exact⟨[],rfl,rfl⟩
 | vs,t::ts,r=>by
  obtain⟨_,_,rfl,r1,r2⟩:=r.consI;obtain⟨tk,rfl⟩:=r1.strI;obtain⟨l,rfl,rfl⟩:=Z43 r2;exact⟨(t,tk)::l,rfl,rfl⟩
theorem X1.join{x:Str}{l:Addr}{ts:List Str}{Q:pV}(hl:X8 C σ l (ts.map V.str))(hok:JoinOk x ts=true)(h:Q (.str (Txt.join x ts)) σ):X1 C A (.builtin "str.join") [.str x,.ref l] σ Q X:=by
 revert X A C σ x l ts Q;k_extra "R";intro X A C σ x l ts Q hl hok h
 intro s vs S r;obtain⟨_,_,rfl,r1,r2⟩:=r.two;obtain rfl:=r2.refI;obtain⟨_,rfl⟩:=r1.strI;obtain⟨items,il,rl⟩:=hl.raw S;obtain⟨lt,e,et⟩:=Z43 rl;have:items=(strValues lt).toArray:=by rw[<-e]
 subst this;exact SC.join il et hok fun z z=>EP.pureT S h (.str _ _)
theorem Ev.dict0{pos:Pos}{Q:pV}(h:∀a,σ a=none->Q (.ref a) (σ.upd a (.sd []))):Ev C A env (.Dict [] [] pos) ρ σ Q X:=by
 intro s S F;refine wpAny_Dict_empty ?_;obtain⟨S2,e2⟩:=S.new (t:=s.toks) (x:={ cls:=.type "dict",data:=.dict #[] }) (o:=.sd []) ⟨[],Heap.DictOf.new _,.nil⟩;exact⟨.ref _,_,h _ S.fresh,.ref _,S2,e2⟩
noncomputable def Xb(C:Cx)(A:Around)(o i y:V)(σ:X0)(Q:X0->Prop)(X:XP):Prop:=
 ∀s a b v,St C σ s->VR s.heap a o->VR s.heap b i->VR s.heap v y->wpAny C.M A (setItem a b v) (fun z s'=>∃σ',Q σ'/\St C σ' s'/\Evo σ s.heap σ' s'.heap) X s
theorem Z4w(o i:Expr)(pos:Pos)(env:Env)(v:Value):assign (.Subscript o i pos) env v=(do
  let ov <-holding [v] (eval o env)
  let iv <-holding [v,ov] (eval i env)
  standAt pos
  holding [v,ov,iv] (setItem ov iv v)
  release (match i with|.Slice _ _ none _=>[iv,v,ov]|_=>[v,ov,iv]) []):=rfl
theorem Asg.sub{o i:Expr}{pos:Pos}{y:V}{Q:Rho->X0->Prop}(h:Ev C A env o ρ σ (fun x σ1=>Ev C A env i ρ σ1 (fun z σ2=>Xb C A x z y σ2 (fun σ3=>Q ρ σ3) X) X) X):Asg C A env (.Subscript o i pos) y ρ σ Q X:=by
 revert X A env C σ ρ o i pos y Q;k_extra "q";intro X A env C σ ρ o i pos y Q h
 intro s v S F r;rw[Z4w];refine wB (wpAny_holding (wM (h s S F) ?_ fun u u z=>z));rintro ov s1 ⟨x,σ1,h1,r1,S1,e1⟩;refine wB (wpAny_holding (wM (h1 s1 S1 (F.evo e1)) ?_ fun u u z=>z));rintro iv s2 ⟨z,σ2,h2,r2,S2,e2⟩;refine wB (wpAny_standAt (wB (wpAny_holding (wM (h2 s2 ov iv v S2 (r1.mono e2.tup) r2 ((r.mono e1.tup).mono e2.tup)) ?_ fun u u z=>z))));rintro _ s3 ⟨σ3,q,S3,e3⟩;have e:=(e1.trans e2).trans e3;exact PyProof.Rows.wpAny_release' ⟨ρ,σ3,q,S3,F.evo e,e.evoF F.own⟩
theorem Xb.sd{d:Addr}{es:List (Str×V)}{k:Str}{y:V}{Q:X0->Prop}(hd:σ d=some (.sd es))(hz:es.length<=sizeLine)(h:Q (σ.upd d (.sd (sput es k y)))):Xb C A (.ref d) (.str k) y σ Q X:=by
 revert X A C σ d es k y Q;k_extra "F";intro X A C σ d es k y Q hd hz h
 intro s a b v S ra rb rv;obtain rfl:=ra.refI;obtain⟨_,rfl⟩:=rb.strI;obtain⟨kvs,D,pr⟩:=S.rep _ _ hd;have hnd:(kvs.map (fun x=>x.1)).Nodup:=by obtain⟨_,_,_,_,_,_,_,_,hn⟩:=D;exact hn
 refine wpAny_setItem_pairs (knd:=strKind C.prog C.w) (k:=k) (by show(k==k)=true;simp) D (fun h' D' sb=>?_) (by rw[pr.length];exact hz);have tk:X7 s.heap h':=Z7 sb (S.rep _ _ hd).notTup;obtain⟨S2,e2⟩:=S.set (t:=s.toks+1) (o':=.sd (sput es k y)) hd sb ⟨_,D',PR.stored (rv.mono tk) (pr.mono tk) hnd⟩;exact⟨_,h,S2,e2⟩
noncomputable def Zk(C:Cx):Prop:=(sysModules<C.n₀/\sysModules∉C.tabs/\¬C.loose)\/∃o,C.h₀.get? sysModules=some o
theorem St.notSys{a:Addr}{o:O}(S:St C σ s)(hn:Zk C)(h:σ a=some o):(a==sysModules)=false:=by
 revert C σ s a o;k_extra "K";intro C σ s a o S hn h
 refine beq_eq_false_iff_ne.mpr fun q=>?_;rcases hn with hn|⟨o',e⟩
 ·rcases (S.above a o h).2 with this|this|this
  ·rw[q]at this;exact absurd hn.1 (Nat.not_lt.mpr this)
  ·rw[q]at this;exact hn.2.1 this
  ·exact hn.2.2 this
 ·rw[<-q,(S.above a o h).1]at e;cases e
theorem ZH{K:Type}[DecidableEq K]{h:Heap}{x:K}{kvs:List (K×Value)}{es:List (K×V)}(z:PR h kvs es):(valueAt kvs x).isSome=((es.find? fun p=>decide (p.1=x)).map (fun x=>x.2)).isSome:=by
 induction z with
 | nil=>rfl
 | @cons k _ _ _ _ r rs ih=>
  unfold valueAt
  by_cases q:k=x
  ·subst q;simp
  ·simp only[List.find?_cons,q,decide_false];exact ih
theorem X4.inSd{d:Addr}{es:List (Str×V)}{k:Str}{Q:pV}(hd:σ d=some (.sd es))(hn:Zk C)(h:Q (.bool (sget es k).isSome) σ):X4 C A .In (.str k) (.ref d) σ Q X:=by
 intro s a b S ra rb;obtain⟨_,rfl⟩:=ra.strI;obtain rfl:=rb.refI;obtain⟨kvs,D,pr⟩:=S.rep _ _ hd;refine wpAny_in_of (knd:=strKind C.prog C.w) (k:=k) (by show(k==k)=true;simp) (S.notSys hn hd) D.mapOf (EP.pureT S ?_ (.bool _));rw[ZH pr];exact h
theorem X4.notInSd{d:Addr}{es:List (Str×V)}{k:Str}{Q:pV}(hd:σ d=some (.sd es))(hn:Zk C)(h:Q (.bool (!(sget es k).isSome)) σ):X4 C A .NotIn (.str k) (.ref d) σ Q X:=by
 intro s a b S ra rb;obtain⟨_,rfl⟩:=ra.strI;obtain rfl:=rb.refI;obtain⟨kvs,D,pr⟩:=S.rep _ _ hd;refine wpAny_notIn_of (knd:=strKind C.prog C.w) (k:=k) (by show(k==k)=true;simp) (S.notSys hn hd) D.mapOf (EP.pureT S ?_ (.bool _));rw[ZH pr];exact h
end
section
variable {X:XP} {A:Around} {env:Env} {C:Cx} {σ:X0} {ρ:Rho} {s:Shared}
theorem Z6T{a b:String}(h:a≠b):ofString a≠ofString b:=by
 intro e;rw[Str.ofString_eq_toList,Str.ofString_eq_toList]at e;injection e with e
 have e1:a.toList.map Char.toNat=b.toList.map Char.toNat:=by
  have:=congrArg Array.toList e;simpa using this
 have inj:Function.Injective Char.toNat:=fun x y hxy=>by
  have:x.val.toNat=y.val.toNat:=hxy;exact Char.ext (UInt32.toNat_inj.mp this)
 have e2:a.toList=b.toList:=by
  have:∀(l m:List Char),l.map Char.toNat=m.map Char.toNat->l=m:=by
   intro l
   induction l with
   | nil=>intro m hm;cases m with|nil=>rfl|cons _ _=>simp at hm
   | cons x l ih=>
    intro m hm
    cases m with
    | nil=>simp at hm
    | cons y m=>
     simp only[map_cons,List.cons.injEq]at hm;rw[inj hm.1,ih m hm.2]
  exact this _ _ e1
 exact h (by rw[<-String.ofList_toList (s:=a),<-String.ofList_toList (s:=b),e2])
theorem X1.fnK{f:Addr}{name qual:Str}{params:Arguments}{body:List Stmt}{scope:Scope}{dV kV doc pm cdv ct oc:Value}{an od:Option Addr}{osl:Array (Option Value)}{names:List Str}{args:List V}{Q:pV}(ho:C.K.lookup f=some ⟨oc,od,.func (fnOf name qual params body scope dV kV doc pm an cdv ct),osl⟩)(hcd:codeIn C.K cdv qual=true)(hroom:A.depth<recursionLimit)(h:∀L,Exs C (A.deeper (callEnvC (fnOf name qual params body scope dV kV doc pm an cdv ct) L f)) (callEnvC (fnOf name qual params body scope dV kV doc pm an cdv ct) L f) body (names.zip args) σ (fun g z σ'=>Q g.val σ') (fun z z=>False))(hbind:∀vals:List Value,vals.length=args.length->bindArgs (fnOf name qual params body scope dV kV doc pm an cdv ct) ⟨vals,[]⟩=pure (names.zip vals))(nd:names.Nodup)(hkind:(names.all fun y=>scope.names.lookup y==some .local||scope.names.lookup y==some .cell)=true)(hsc:Zd scope=true)(hco:scope.isCoroutine=false)(hgen:scope.isGenerator=false)(hk:scope.kind=.function) :
  X1 C A (.ref f) args σ Q X:=by
 refine X1.fn (C.KX _ _ ho) rfl C.lim (codeRec_of C.KX hcd) rfl hbind rfl nd (fun x hx=>?_) hroom hsc hco hgen hk h;have:=List.all_eq_true.mp hkind x hx;rcases Bool.or_eq_true_iff.mp this with q|q
 ·exact .inl (by simpa using q)
 ·have q':scope.names.lookup x=some .cell:=by simpa using q
  exact .inr ⟨q',fun L=>cellsFrom_some _ _ _ (.inl q')⟩
end
end Mine.Internal
namespace Mine.Internal
open PySem PySem.W PySem.SeqAt PyProof.Rows
abbrev mkE(sc:Scope)(L:Addr)(cells:List (Str×Addr))(q:Str)(fn:Option Addr)(cd:Value)(fr:Option Addr):Env:=
 { scope:=sc,locals:=L,globals:=mainGlobals,cells:=cells,qual:=q,func:=fn,code:=cd,frame:=fr,builtins:=builtinsNs }
abbrev fE(sc:Scope)(q:Str)(f:Addr)(cd:Value)(L:Addr):Env:=mkE sc L (cellsFrom (L+1) sc.names []) (q++".<locals>.") (some f) cd (some L)
noncomputable def reS(scope sc:Scope):Scope:={ scope with names:=scope.names.map fun(n,k)=>if (k==.free&&sc.kind==.function&&sc.names.lookup n==some .cell) then(n,.cell) else(n,k) }
section
variable {X:XP} {A:Around} {C:Cx} {σ:X0} {ρ:Rho} {s:Shared} {sc:Scope} {L:Addr} {cells:List (Str×Addr)} {q:Str} {fn:Option Addr} {cd:Value} {fr:Option Addr}
theorem Ev.nloc{x:Str}{pos:Pos}{v:V}{Q:pV}(hk:sc.names.lookup x=some .local)(hv:ρ.get x=some v)(h:Q v σ)(hd:(x==("__debug__":Str))=false:=by kernel_rfl):Ev C A (mkE sc L cells q fn cd fr) (.Name x pos) ρ σ Q X:=
 Ev.loc hk hv h hd
theorem Ev.ncel{x:Str}{pos:Pos}{v:V}{Q:pV}(hk:sc.names.lookup x=some .cell)(hv:ρ.get x=some v)(h:Q v σ)(hc:(cells.lookup x).isSome=true:=by kernel_rfl)(hd:(x==("__debug__":Str))=false:=by kernel_rfl):Ev C A (mkE sc L cells q fn cd fr) (.Name x pos) ρ σ Q X:=by
 obtain⟨c,hc⟩:=Option.isSome_iff_exists.mp hc;exact Ev.cel hk hc hv h hd
theorem Ev.nglob{x:Str}{pos:Pos}{v:Value}{y:V}{Q:pV}(hk:sc.names.lookup x=some .globalImplicit)(e:nsIn C.K mainGlobals x=some (some v))(r:VR C.h₀ v y)(h:Q y σ)(hd:(x==("__debug__":Str))=false:=by kernel_rfl) :
  Ev C A (mkE sc L cells q fn cd fr) (.Name x pos) ρ σ Q X:=Ev.glob hk e r h rfl hd
theorem Ev.nblt{x:Str}{pos:Pos}{v:Value}{y:V}{Q:pV}(hk:sc.names.lookup x=some .globalImplicit)(e:nsIn C.K mainGlobals x=some none)(hv:bootBuiltins x=some v)(r:VR C.h₀ v y)(h:Q y σ)(hn:x≠"__name__")(hd:(x==("__debug__":Str))=false:=by kernel_rfl) :
  Ev C A (mkE sc L cells q fn cd fr) (.Name x pos) ρ σ Q X:=Ev.gblt hk e hv r h hn rfl rfl hd
theorem Asg.nloc{x:Str}{pos:Pos}{y:V}{ρ':Rho}{Q:Rho->X0->Prop}(hk:sc.names.lookup x=some .local)(hp:ρ.put x y=ρ')(h:Q ρ' σ)(hc:cells.lookup x=none:=by kernel_rfl) :
  Asg C A (mkE sc L cells q fn cd fr) (.Name x pos) y ρ σ Q X:=Asg.loc hk hc hp h
theorem Asg.ncel{x:Str}{pos:Pos}{y:V}{ρ':Rho}{Q:Rho->X0->Prop}(hk:sc.names.lookup x=some .cell)(hp:ρ.put x y=ρ')(h:Q ρ' σ)(hc:(cells.lookup x).isSome=true:=by kernel_rfl) :
  Asg C A (mkE sc L cells q fn cd fr) (.Name x pos) y ρ σ Q X:=by
 obtain⟨c,hc⟩:=Option.isSome_iff_exists.mp hc;exact Asg.cel hk hc hp h
section
variable {X:XP} {sc:Scope} {q:Str} {f:Addr} {cd:Value} {C:Cx} {L:Addr} {A:Around} {x:Str} {pos:Pos} {σ:X0} {ρ:Rho}
theorem Ev.nlocF{v:V}{Q:pV}(hk:sc.names.lookup x=some .local)(hv:ρ.get x=some v)(h:Q v σ)(hd:(x==("__debug__":Str))=false:=by kernel_rfl):Ev C A (fE sc q f cd L) (.Name x pos) ρ σ Q X:=Ev.nloc hk hv h hd
theorem Ev.ncelF{v:V}{Q:pV}(hk:sc.names.lookup x=some .cell)(hv:ρ.get x=some v)(h:Q v σ)(hc:((cellsFrom (L+1) sc.names []).lookup x).isSome=true:=by kernel_rfl)(hd:(x==("__debug__":Str))=false:=by kernel_rfl):Ev C A (fE sc q f cd L) (.Name x pos) ρ σ Q X:=Ev.ncel hk hv h hc hd
theorem Ev.nglobF{v:Value}{y:V}{Q:pV}(hk:sc.names.lookup x=some .globalImplicit)(e:nsIn C.K mainGlobals x=some (some v))(r:VR C.h₀ v y)(h:Q y σ)(hd:(x==("__debug__":Str))=false:=by kernel_rfl):Ev C A (fE sc q f cd L) (.Name x pos) ρ σ Q X:=Ev.nglob hk e r h hd
theorem Ev.nbltF{v:Value}{y:V}{Q:pV}(hk:sc.names.lookup x=some .globalImplicit)(e:nsIn C.K mainGlobals x=some none)(hv:bootBuiltins x=some v)(r:VR C.h₀ v y)(h:Q y σ)(hn:x≠"__name__")(hd:(x==("__debug__":Str))=false:=by kernel_rfl):Ev C A (fE sc q f cd L) (.Name x pos) ρ σ Q X:=Ev.nblt hk e hv r h hn hd
theorem Asg.nlocF{y:V}{ρ':Rho}{Q:Rho->X0->Prop}(hk:sc.names.lookup x=some .local)(hp:ρ.put x y=ρ')(h:Q ρ' σ)(hc:(cellsFrom (L+1) sc.names []).lookup x=none:=by kernel_rfl):Asg C A (fE sc q f cd L) (.Name x pos) y ρ σ Q X:=Asg.nloc hk hp h hc
theorem Asg.ncelF{y:V}{ρ':Rho}{Q:Rho->X0->Prop}(hk:sc.names.lookup x=some .cell)(hp:ρ.put x y=ρ')(h:Q ρ' σ)(hc:((cellsFrom (L+1) sc.names []).lookup x).isSome=true:=by kernel_rfl):Asg C A (fE sc q f cd L) (.Name x pos) y ρ σ Q X:=Asg.ncel hk hp h hc
end
theorem Then.next{env:Env}{ss:List Stmt}{Q:pW}(h:Exs C A env ss ρ σ Q X):Then C A env ss Q X .next ρ σ:=h
theorem Then.ret{env:Env}{ss:List Stmt}{v:V}{Q:pW}(h:Q (.ret v) ρ σ):Then C A env ss Q X (.ret v) ρ σ:=h
theorem X1.def{f:Addr}{name qual:Str}{params:Arguments}{body:List Stmt}{scope:Scope}{dV kV doc pm cdv ct oc:Value}{an od:Option Addr}{osl:Array (Option Value)}(names:List Str){args:List V}{Q:pV}(ho:C.K.lookup f=some ⟨oc,od,.func (fnOf name qual params body scope dV kV doc pm an cdv ct),osl⟩)(hcd:codeIn C.K cdv qual=true)(hroom:A.depth<recursionLimit)(hbind:∀vals:List Value,vals.length=args.length->bindArgs (fnOf name qual params body scope dV kV doc pm an cdv ct) ⟨vals,[]⟩=pure (names.zip vals))(nd:names.Nodup)(hkind:(names.all fun y=>scope.names.lookup y==some .local||scope.names.lookup y==some .cell)=true)(hsc:Zd scope=true)(hco:scope.isCoroutine=false)(hgen:scope.isGenerator=false)(hk:scope.kind=.function)(h:∀L A',A'.handled=A.handled->A'.depth=A.depth+1->A'.units=A.units+3->Exs C A' (fE scope qual f cdv L) body (names.zip args) σ (fun g z σ'=>Q g.val σ') (fun z z=>False)) :
  X1 C A (.ref f) args σ Q X:=
 X1.fnK ho hcd hroom (fun L=>h L _ rfl rfl rfl) hbind nd hkind hsc hco hgen hk
theorem Ev.lcomp{x:Str}{px pos:Pos}{elt iter:Expr}{ifs:List Expr}{scope:Scope}{ρc:Rho}{Q:pV}(cap:Xo ρ scope.names ρc)(hx:scope.names.lookup x=some .local)(hck:Z1z scope=true)(hk:scope.kind=.function)(h:Src C A (mkE sc L cells q fn cd fr) (.Name x px) iter ρ σ (fun xs ok σ1=>∀L',Xa C A (mkE (reS scope sc) L' (clOf cells scope.names []) q none cd fr) x ifs elt ok ρc (fun out σ2=>∀a,σ2 a=Option.none->Q (.ref a) (σ2.upd a (.list out))) xs [] σ1) X)(hfree:(scope.names.all fun p=>p.2 != .free||(cells.lookup p.1).isSome)=true:=by kernel_rfl)(hs:∀x,foldedSetIterable iter (mkE sc L cells q fn cd fr) x=Pure.pure x:=by intro _;kernel_rfl):Ev C A (mkE sc L cells q fn cd fr) (.ListComp elt [⟨.Name x px,iter,ifs,0⟩] scope pos) ρ σ Q X:=
 Ev.comp hfree hck hk hx cap h hs
theorem Ex.lassign{x y:Str}{px py pos spos:Pos}{elt iter:Expr}{ifs:List Expr}{scope:Scope}{ρc:Rho}{Q:pW}(cap:Xo ρ scope.names ρc)(hx:scope.names.lookup x=some .local)(hck:Z1z scope=true)(hk:scope.kind=.function)(hy:sc.names.lookup y=some .local)(h:Src C A (mkE sc L cells q fn cd fr) (.Name x px) iter ρ σ (fun xs ok σ1=>∀L',Xa C A (mkE (reS scope sc) L' (clOf cells scope.names []) q none cd fr) x ifs elt ok ρc (fun out σ2=>∀a,σ2 a=none->Q .next (ρ.put y (.ref a)) (σ2.upd a (.list out))) xs [] σ1) X)(hsw:swapsWith (.ListComp elt [⟨.Name x px,iter,ifs,0⟩] scope pos) (some (.Name y py)) spos.line (mkE sc L cells q fn cd fr)=pure true:=by kernel_rfl)(hfree:(scope.names.all fun p=>p.2 != .free||(cells.lookup p.1).isSome)=true:=by kernel_rfl)(hyc:cells.lookup y=none:=by kernel_rfl)(hs:∀x,foldedSetIterable iter (mkE sc L cells q fn cd fr) x=pure x:=by intro _;kernel_rfl):Ex C A (mkE sc L cells q fn cd fr) (.Assign [.Name y py] (.ListComp elt [⟨.Name x px,iter,ifs,0⟩] scope pos) spos) ρ σ Q X:=
 Ex.assignComp hfree hck hk hx cap hy hyc h hsw hs
theorem Ev.callR{func:Expr}{args:List Expr}{pos:Pos}{Q:pV}{env:Env}(h:Ev C A env func ρ σ (fun fx σ1=>∃f,fx=.ref f/\keepIn C.K (.ref f)=true/\Ags C A env pos args ρ σ1 (fun xs σ2=>X1 C A (.ref f) xs σ2 Q X) X) X)(hev:eval (.Call func args [] pos) env=(do callWith pos (<-eval func env) [] (backTo pos (starEach args env)) (backToKw pos (keywordEach [] env))):=by kernel_rfl)(he:(backTo pos (starEach args env)).any (fun x=>x.1)=false:=by kernel_rfl):Ev C A env (.Call func args [] pos) ρ σ Q X:=by
 revert X A C σ ρ func args pos Q env;k_extra "t";intro X A C σ ρ func args pos Q env h hev he
 intro s S F;rw[hev];refine wB (wM (h s S F) ?_ fun u u z=>z);rintro v s1 ⟨x,σ1,⟨f,rfl,kp,q⟩,r1,S1,e1⟩
 cases r1
 exact wM (Zl (first:=[]) (fx:=[]) (Kp.ref kp) S1 (F.evo e1) .nil q he) (fun u u z=>z.after e1) fun u u z=>z
theorem Ev.callB{func:Expr}{args:List Expr}{pos:Pos}{Q:pV}{env:Env}(h:Ev C A env func ρ σ (fun fx σ1=>∃f,(fx=.blt f/\Ags C A env pos args ρ σ1 (fun xs σ2=>X1 C A (.builtin f) xs σ2 Q X) X)\/(fx=.typ f/\Ags C A env pos args ρ σ1 (fun xs σ2=>X1 C A (.type f) xs σ2 Q X) X)) X)(hev:eval (.Call func args [] pos) env=(do callWith pos (<-eval func env) [] (backTo pos (starEach args env)) (backToKw pos (keywordEach [] env))):=by kernel_rfl)(he:(backTo pos (starEach args env)).any (fun x=>x.1)=false:=by kernel_rfl):Ev C A env (.Call func args [] pos) ρ σ Q X:=by
 revert X A C σ ρ func args pos Q env;k_extra "t";intro X A C σ ρ func args pos Q env h hev he
 intro s S F;rw[hev];refine wB (wM (h s S F) ?_ fun u u z=>z);rintro v s1 ⟨x,σ1,⟨f,(⟨rfl,q⟩|⟨rfl,q⟩)⟩,r1,S1,e1⟩
 ·cases r1
  exact wM (Zl (first:=[]) (fx:=[]) Kp.blt S1 (F.evo e1) .nil q he) (fun u u z=>z.after e1) fun u u z=>z
 ·cases r1
  exact wM (Zl (first:=[]) (fx:=[]) Kp.typ S1 (F.evo e1) .nil q he) (fun u u z=>z.after e1) fun u u z=>z
end
end Mine.Internal
namespace Mine.Internal
open PySem PySem.W
theorem Xa.pure{C:Cx}{A:Around}{env:Env}{x:Str}{ifs:List Expr}{elt:Expr}{ok:X0->Prop}{ρ:Rho}{R:List V->X0->Prop}{σ:X0}(p:V->Bool)(f:V->V)(hok:ok σ) :
  ∀(ys out:List V),(∀y∈ys,∀Q:Bool->X0->Prop,Q (p y) σ->Ifs C A env ifs (ρ.put x y) σ Q (fun u u=>False))->(∀y∈ys,p y=true->∀Q:pV,Q (f y) σ->Ev C A env elt (ρ.put x y) σ Q (fun u u=>False))->
  out.length+ys.length<=sizeLine->R (out++(ys.filter p).map f) σ->Xa C A env x ifs elt ok ρ R ys out σ
 | [],out,_,_,_,h=>by simpa [Xa] using h
 | y::ys,out,h1,h2,hz,h=>by
  unfold Xa;refine h1 y (.head _) _ ?_;simp only[length_cons]at hz
  cases q:p y with
  | true=>
   simp only[if_true];refine h2 y (.head _) q _ ⟨by exact(Nr 0x100020e03605809) hz,hok,?_⟩;refine Xa.pure p f hok ys (out++[f y]) (fun z hz=>h1 z (.tail _ hz)) (fun z hz=>h2 z (.tail _ hz)) (by simp;exact Y5t hz) ?_;simpa [List.filter_cons,q] using h
  | false=>
   simp only[Bool.false_eq_true,if_false];refine⟨hok,Xa.pure p f hok ys out (fun z hz=>h1 z (.tail _ hz)) (fun z hz=>h2 z (.tail _ hz)) (by exact(Nr 0x41058020e03605809) hz) ?_⟩;simpa [List.filter_cons,q] using h
theorem Ifs.nil{C:Cx}{A:Around}{env:Env}{ρ:Rho}{σ:X0}{X:XP}{Q:Bool->X0->Prop}(h:Q true σ):Ifs C A env [] ρ σ Q X:=h
theorem Ifs.one{C:Cx}{A:Around}{env:Env}{ρ:Rho}{σ:X0}{X:XP}{c:Expr}{Q:Bool->X0->Prop}(h:Tst C A env c ρ σ Q X):Ifs C A env [c] ρ σ Q X:=h
end Mine.Internal
namespace Mine.Internal
open PySem PySem.W PySem.SeqAt PyProof.Rows
section
variable {X:XP} {A:Around} {C:Cx} {σ:X0}
theorem lenS{α:Type}{n:Nat}{l:List α}(h:l.length=n+1):∃a t,l=a::t/\t.length=n:=by
 cases l with
 | nil=>cases h
 | cons a t=>exact⟨a,t,rfl,Nat.succ.inj h⟩
theorem X1.def1(x1:Str){f:Addr}{name qual:Str}{params:Arguments}{body:List Stmt}{scope:Scope}{dV kV doc pm cdv ct oc:Value}{an od:Option Addr}{osl:Array (Option Value)}{v1:V}{Q:pV}(ho:C.K.lookup f=some ⟨oc,od,.func (fnOf name qual params body scope dV kV doc pm an cdv ct),osl⟩)(hcd:codeIn C.K cdv qual=true)(hroom:A.depth<recursionLimit)(hbind:∀u1:Value,bindArgs (fnOf name qual params body scope dV kV doc pm an cdv ct) ⟨[u1],[]⟩=pure [(x1,u1)])(nd:([x1]:List Str).Nodup)(hkind:(([x1]:List Str).all fun y=>scope.names.lookup y==some .local||scope.names.lookup y==some .cell)=true)(hsc:Zd scope=true)(hco:scope.isCoroutine=false)(hgen:scope.isGenerator=false)(hk:scope.kind=.function)(h:∀L A',A'.handled=A.handled->A'.depth=A.depth+1->A'.units=A.units+3->Exs C A' (fE scope qual f cdv L) body [(x1,v1)] σ (fun g z σ'=>Q g.val σ') (fun z z=>False)) :
  X1 C A (.ref f) [v1] σ Q X:=
 X1.def [x1] (args:=[v1]) ho hcd hroom (fun vals hl=>by obtain⟨u1,t1,rfl,h1⟩:=lenS hl;obtain rfl:=List.eq_nil_of_length_eq_zero h1;exact hbind u1) nd hkind hsc hco hgen hk h
theorem X1.def2(x1 x2:Str){f:Addr}{name qual:Str}{params:Arguments}{body:List Stmt}{scope:Scope}{dV kV doc pm cdv ct oc:Value}{an od:Option Addr}{osl:Array (Option Value)}{v1 v2:V}{Q:pV}(ho:C.K.lookup f=some ⟨oc,od,.func (fnOf name qual params body scope dV kV doc pm an cdv ct),osl⟩)(hcd:codeIn C.K cdv qual=true)(hroom:A.depth<recursionLimit)(hbind:∀u1 u2:Value,bindArgs (fnOf name qual params body scope dV kV doc pm an cdv ct) ⟨[u1,u2],[]⟩=pure [(x1,u1),(x2,u2)])(nd:([x1,x2]:List Str).Nodup)(hkind:(([x1,x2]:List Str).all fun y=>scope.names.lookup y==some .local||scope.names.lookup y==some .cell)=true)(hsc:Zd scope=true)(hco:scope.isCoroutine=false)(hgen:scope.isGenerator=false)(hk:scope.kind=.function)(h:∀L A',A'.handled=A.handled->A'.depth=A.depth+1->A'.units=A.units+3->Exs C A' (fE scope qual f cdv L) body [(x1,v1),(x2,v2)] σ (fun g z σ'=>Q g.val σ') (fun z z=>False)) :
  X1 C A (.ref f) [v1,v2] σ Q X:=
 X1.def [x1,x2] (args:=[v1,v2]) ho hcd hroom (fun vals hl=>by obtain⟨u1,t1,rfl,h1⟩:=lenS hl;obtain⟨u2,t2,rfl,h2⟩:=lenS h1;obtain rfl:=List.eq_nil_of_length_eq_zero h2;exact hbind u1 u2) nd hkind hsc hco hgen hk h
theorem X1.def3(x1 x2 x3:Str){f:Addr}{name qual:Str}{params:Arguments}{body:List Stmt}{scope:Scope}{dV kV doc pm cdv ct oc:Value}{an od:Option Addr}{osl:Array (Option Value)}{v1 v2 v3:V}{Q:pV}(ho:C.K.lookup f=some ⟨oc,od,.func (fnOf name qual params body scope dV kV doc pm an cdv ct),osl⟩)(hcd:codeIn C.K cdv qual=true)(hroom:A.depth<recursionLimit)(hbind:∀u1 u2 u3:Value,bindArgs (fnOf name qual params body scope dV kV doc pm an cdv ct) ⟨[u1,u2,u3],[]⟩=pure [(x1,u1),(x2,u2),(x3,u3)])(nd:([x1,x2,x3]:List Str).Nodup)(hkind:(([x1,x2,x3]:List Str).all fun y=>scope.names.lookup y==some .local||scope.names.lookup y==some .cell)=true)(hsc:Zd scope=true)(hco:scope.isCoroutine=false)(hgen:scope.isGenerator=false)(hk:scope.kind=.function)(h:∀L A',A'.handled=A.handled->A'.depth=A.depth+1->A'.units=A.units+3->Exs C A' (fE scope qual f cdv L) body [(x1,v1),(x2,v2),(x3,v3)] σ (fun g z σ'=>Q g.val σ') (fun z z=>False)) :
  X1 C A (.ref f) [v1,v2,v3] σ Q X:=
 X1.def [x1,x2,x3] (args:=[v1,v2,v3]) ho hcd hroom (fun vals hl=>by obtain⟨u1,t1,rfl,h1⟩:=lenS hl;obtain⟨u2,t2,rfl,h2⟩:=lenS h1;obtain⟨u3,t3,rfl,h3⟩:=lenS h2;obtain rfl:=List.eq_nil_of_length_eq_zero h3;exact hbind u1 u2 u3) nd hkind hsc hco hgen hk h
theorem X1.def4(x1 x2 x3 x4:Str){f:Addr}{name qual:Str}{params:Arguments}{body:List Stmt}{scope:Scope}{dV kV doc pm cdv ct oc:Value}{an od:Option Addr}{osl:Array (Option Value)}{v1 v2 v3 v4:V}{Q:pV}(ho:C.K.lookup f=some ⟨oc,od,.func (fnOf name qual params body scope dV kV doc pm an cdv ct),osl⟩)(hcd:codeIn C.K cdv qual=true)(hroom:A.depth<recursionLimit)(hbind:∀u1 u2 u3 u4:Value,bindArgs (fnOf name qual params body scope dV kV doc pm an cdv ct) ⟨[u1,u2,u3,u4],[]⟩=pure [(x1,u1),(x2,u2),(x3,u3),(x4,u4)])(nd:([x1,x2,x3,x4]:List Str).Nodup)(hkind:(([x1,x2,x3,x4]:List Str).all fun y=>scope.names.lookup y==some .local||scope.names.lookup y==some .cell)=true)(hsc:Zd scope=true)(hco:scope.isCoroutine=false)(hgen:scope.isGenerator=false)(hk:scope.kind=.function)(h:∀L A',A'.handled=A.handled->A'.depth=A.depth+1->A'.units=A.units+3->Exs C A' (fE scope qual f cdv L) body [(x1,v1),(x2,v2),(x3,v3),(x4,v4)] σ (fun g z σ'=>Q g.val σ') (fun z z=>False)) :
  X1 C A (.ref f) [v1,v2,v3,v4] σ Q X:=
 X1.def [x1,x2,x3,x4] (args:=[v1,v2,v3,v4]) ho hcd hroom (fun vals hl=>by obtain⟨u1,t1,rfl,h1⟩:=lenS hl;obtain⟨u2,t2,rfl,h2⟩:=lenS h1;obtain⟨u3,t3,rfl,h3⟩:=lenS h2;obtain⟨u4,t4,rfl,h4⟩:=lenS h3;obtain rfl:=List.eq_nil_of_length_eq_zero h4;exact hbind u1 u2 u3 u4) nd hkind hsc hco hgen hk h
theorem X1.def5(x1 x2 x3 x4 x5:Str){f:Addr}{name qual:Str}{params:Arguments}{body:List Stmt}{scope:Scope}{dV kV doc pm cdv ct oc:Value}{an od:Option Addr}{osl:Array (Option Value)}{v1 v2 v3 v4 v5:V}{Q:pV}(ho:C.K.lookup f=some ⟨oc,od,.func (fnOf name qual params body scope dV kV doc pm an cdv ct),osl⟩)(hcd:codeIn C.K cdv qual=true)(hroom:A.depth<recursionLimit)(hbind:∀u1 u2 u3 u4 u5:Value,bindArgs (fnOf name qual params body scope dV kV doc pm an cdv ct) ⟨[u1,u2,u3,u4,u5],[]⟩=pure [(x1,u1),(x2,u2),(x3,u3),(x4,u4),(x5,u5)])(nd:([x1,x2,x3,x4,x5]:List Str).Nodup)(hkind:(([x1,x2,x3,x4,x5]:List Str).all fun y=>scope.names.lookup y==some .local||scope.names.lookup y==some .cell)=true)(hsc:Zd scope=true)(hco:scope.isCoroutine=false)(hgen:scope.isGenerator=false)(hk:scope.kind=.function)(h:∀L A',A'.handled=A.handled->A'.depth=A.depth+1->A'.units=A.units+3->Exs C A' (fE scope qual f cdv L) body [(x1,v1),(x2,v2),(x3,v3),(x4,v4),(x5,v5)] σ (fun g z σ'=>Q g.val σ') (fun z z=>False)) :
  X1 C A (.ref f) [v1,v2,v3,v4,v5] σ Q X:=
 X1.def [x1,x2,x3,x4,x5] (args:=[v1,v2,v3,v4,v5]) ho hcd hroom (fun vals hl=>by obtain⟨u1,t1,rfl,h1⟩:=lenS hl;obtain⟨u2,t2,rfl,h2⟩:=lenS h1;obtain⟨u3,t3,rfl,h3⟩:=lenS h2;obtain⟨u4,t4,rfl,h4⟩:=lenS h3;obtain⟨u5,t5,rfl,h5⟩:=lenS h4;obtain rfl:=List.eq_nil_of_length_eq_zero h5;exact hbind u1 u2 u3 u4 u5) nd hkind hsc hco hgen hk h
end
end Mine.Internal
namespace Mine.Internal
open PySem PySem.W PySem.SeqAt PyProof.Rows
theorem Rho.gp_hit{x:Str}{v:V}{r:Rho}:Rho.get (Rho.put r x v) x=some v:=by rw[Rho.get_put];simp
theorem Rho.gp_miss{y:Str}{u:Option V}{x:Str}{r:Rho}{v:V}(h:y≠x)(k:Rho.get r y=u):Rho.get (Rho.put r x v) y=u:=by rw[Rho.get_put,if_neg h,k]
set_option tactic.hygienic true in
theorem Z4U{K:Type}[DecidableEq K](acc:List (K×Value))(k:K)(v:Value)(n:(acc.map (fun x=>x.1)).Nodup):((stored acc k v).map (fun x=>x.1)).Nodup:=by
 unfold stored
 split
 ·have:(acc.map fun kv=>if kv.1=k then(kv.1,v) else kv).map (fun x=>x.1)=acc.map (fun x=>x.1):=by
   rw[map_map];apply List.map_congr_left;intro a _;simp only[Function.comp];split<;>rfl
  rw[this];exact n
 ·rename_i q
  rw[map_append,List.nodup_append];refine⟨n,by simp,?_⟩;intro a ha b hb e;simp only[map_cons,List.map_nil,List.mem_singleton]at hb;obtain⟨p,hp,rfl⟩:=List.mem_map.mp ha;exact q (List.any_eq_true.mpr ⟨p,hp,by simpa using e.trans hb⟩)
section
variable {X:XP} {A:Around} {env:Env} {C:Cx} {σ:X0} {ρ:Rho} {s:Shared}
inductive KVR(h:Heap):List (Value×Value)->List (Str×V)->Prop
 | nil:KVR h [] []
 | cons {k:Str} {t:Tok} {v:Value} {x:V} {r:List (Value×Value)} {r':List (Str×V)}:VR h v x->KVR h r r'->KVR h ((.str k t,v)::r) ((k,x)::r')
noncomputable def Prs(C:Cx)(A:Around)(env:Env)(pos:Pos)(ks:List (Option Expr))(vs:List Expr)(ρ:Rho)(σ:X0)(Q:List (Str×V)->X0->Prop)(X:XP):Prop:=
 ∀s,St C σ s->Fm C σ s.heap env ρ->wpAny C.M A (evalPairs (pairTrees ks vs env pos)) (fun r s'=>∃xs σ',Q xs σ'/\KVR s'.heap r xs/\St C σ' s'/\Evo σ s.heap σ' s'.heap) X s
theorem Prs.nil{pos:Pos}{Q:List (Str×V)->X0->Prop}(h:Q [] σ):Prs C A env pos [] [] ρ σ Q X:=
 fun s S F=>pairTrees_nil_walk ⟨[],σ,h,.nil,S,.refl ..⟩
theorem KVR.merged(C:Cx){h:Heap}:∀{r:List (Value×Value)} {xs:List (Str×V)},KVR h r xs->∃kvs:List (Str×Value),Carries (strKind C.prog C.w) r kvs/\kvs.length=xs.length/\
  ∀acc es,PR h acc es->(acc.map (fun x=>x.1)).Nodup->PR h (PySem.merged acc kvs) (xs.foldl (fun e p=>sput e p.1 p.2) es)
 | _,_,.nil=>⟨[],trivial,rfl,fun acc es p z=>p⟩
 | _,_,.cons (k:=k) (t:=t) (v:=v) a b=>by
  obtain⟨kvs,c,l,m⟩:=KVR.merged C b;refine⟨(k,v)::kvs,⟨by show(k==k)=true;simp,rfl,c⟩,by simp[l],fun acc es p n=>?_⟩;have:=m (stored acc k v) _ (PR.stored a p n) (Z4U _ _ _ n);simpa [PySem.merged] using this
theorem Prs.cons{pos cp:Pos}{k:Str}{lit:Const}{kn:Nat}{v:Expr}{ks:List (Option Expr)}{vs:List Expr}{Q:List (Str×V)->X0->Prop}(h:Ev C A env (.Constant lit kn cp) ρ σ (fun x σ0=>x=.str k/\Ev C A env v ρ σ0 (fun y σ1=>Prs C A env pos ks vs ρ σ1 (fun xs σ2=>Q ((k,y)::xs) σ2) X) X) X) :
  Prs C A env pos (some (.Constant lit kn cp)::ks) (v::vs) ρ σ Q X:=by
 revert X A env C σ ρ pos cp k lit kn v ks vs Q;k_extra "l";intro X A env C σ ρ pos cp k lit kn v ks vs Q h
 intro s S F;refine pairTrees_cons_walk (wM (h s S F) ?_ fun u u z=>z);rintro w0 s0 ⟨x0,σ0,⟨rfl,h0⟩,r0,S0,e0⟩;refine wM (h0 s0 S0 (F.evo e0)) ?_ fun u u z=>z;rintro w1 s1 ⟨x1,σ1,h1,r1,S1,e1⟩;refine wM (h1 s1 S1 ((F.evo e0).evo e1)) ?_ fun u u z=>z;rintro r s2 ⟨xs,σ2,h2,r2,S2,e2⟩
 cases r0
 exact⟨_,σ2,h2,.cons (r1.mono e2.tup) r2,S2,(e0.trans e1).trans e2⟩
theorem Prs.str{pos cp:Pos}{k:Str}{kn:Nat}{v:Expr}{ks:List (Option Expr)}{vs:List Expr}{Q:List (Str×V)->X0->Prop}(h:Ev C A env v ρ σ (fun y σ1=>Prs C A env pos ks vs ρ σ1 (fun xs σ2=>Q ((k,y)::xs) σ2) X) X):Prs C A env pos (some (.Constant (.str k) kn cp)::ks) (v::vs) ρ σ Q X:=
 Prs.cons (Ev.cstr ⟨rfl,h⟩)
theorem Ev.dictS{pos:Pos}{ks:List (Option Expr)}{vs:List Expr}{Q:pV}(hall:ks.all (fun x=>x.isSome)=true)(hl:ks.length=vs.length)(h0:ks≠[])(hlen:ks.length<=15)(h:∀a,σ a=none->Prs C A env pos ks vs ρ (σ.upd a (.sd [])) (fun es σ1=>σ1 a=some (.sd [])/\Q (.ref a) (σ1.upd a (.sd (es.foldl (fun e p=>sput e p.1 p.2) [])))) X) :
  Ev C A env (.Dict ks vs pos) ρ σ Q X:=by
 revert X A env C σ ρ pos ks vs Q;k_extra "t";intro X A env C σ ρ pos ks vs Q hall hl h0 hlen h
 intro s S F;obtain⟨S2,e2⟩:=S.new (t:=s.toks) (x:={ cls:=.type "dict",data:=.dict #[] }) (o:=.sd []) ⟨[],Heap.DictOf.new _,.nil⟩;refine wpAny_Dict_walk (knd:=strKind C.prog C.w) hall hl h0 hlen (wM (h _ S.fresh _ S2 (F.evo e2)) ?_ fun u u z=>z);rintro r s3 ⟨xs,σ3,⟨h3,q⟩,r3,S3,e3⟩;obtain⟨kvs,c,l,m⟩:=KVR.merged C r3;obtain⟨kv0,D,p0⟩:=S3.rep _ _ h3
 cases p0
 refine⟨kvs,c,D,fun h' D' sb=>?_⟩;have tk:X7 s3.heap h':=Z7 sb (S3.rep _ _ h3).notTup;obtain⟨S4,e4⟩:=S3.set (t:=s3.toks+r.length) (o':=.sd (xs.foldl (fun e p=>sput e p.1 p.2) [])) h3 sb ⟨_,D',(m [] [] .nil List.nodup_nil).mono tk⟩;exact⟨.ref _,_,q,.ref _,S4,(e2.trans e3).trans e4⟩
theorem X1.pop{l:Addr}{xs:List V}{y:V}{Q:pV}(hl:σ l=some (.list (xs++[y])))(hz:xs.length<sizeLine)(h:Q y (σ.upd l (.list xs))):X1 C A (.builtin "list.pop") [.ref l] σ Q X:=by
 revert X A C σ l xs y Q;k_extra "R";intro X A C σ l xs y Q hl hz h
 intro s vs S r;obtain⟨_,rfl,r1⟩:=r.one;obtain rfl:=r1.refI;obtain⟨items,⟨n,e⟩,rl⟩:=S.rep _ _ hl;have el:=rl.length;simp only[Array.length_toList,length_append,length_singleton]at el;have hj:(xs++[y])[xs.length]?=some y:=by simp
 obtain⟨u,hu,ru⟩:=rl.get hj;have hu':items[items.size - 1]?=some u:=by rw[el];simpa using hu
 refine call_meets F.slot_list_pop ⟨_,e,rfl⟩ F.entry_list_pop (F.args_list_pop_1 _) (MeetsSeq.list_pop_last l items n u hu' (by exact(Nr 0x2200700b084908029) hz el)) ⟨e,?_⟩;obtain⟨S',e'⟩:=Z27 (f:=fun x=>x.eraseIdxIfInBounds (items.size - 1)) S hl e (ys:=xs) (by
  have hj':items.size-1<items.size:=by exact(Nq 0xe01708701b0049) el
  have:(items.eraseIdxIfInBounds (items.size-1)).toList=items.toList.eraseIdx (items.size-1):=by
   simp[Array.eraseIdxIfInBounds,hj',Array.toList_eraseIdx]
  rw[this,el];have:=rl.erase xs.length;have e2:(xs++[y]).eraseIdx xs.length=xs:=by rw[List.eraseIdx_append_of_length_le (Nat.le_refl _)];simp
  rw[e2]at this;simpa using this)
 exact⟨y,_,h,ru.mono e'.tup,S',e'⟩
theorem Z1M{h':Heap}{o:Obj}(hk:∀b x,b∉[s.heap.objs.size]->(s.heap.push o).get? b=some x->h'.get? b=some x):∀b x,s.heap.get? b=some x->h'.get? b=some x:=
 fun b x e=>hk b x (fun hm=>by rw[List.mem_singleton.mp hm]at e;exact Nat.lt_irrefl _ (Heap.lt_size e)) (Heap.get?_push_of_some _ e)
theorem Z2T:∀{h:Heap}{vs:List Value}{bs:List Bool}{i:Nat}{v:Value}(r:VRs h vs (bs.map V.bool))(e:vs[i]?=some v),∃b,bs[i]?=some b/\v=.bool b:=by
 k_extra "K";intro h vs bs i v r e;have hl:=r.length;have:i<vs.length:=(List.getElem?_eq_some_iff.mp e).1;have hb:i<bs.length:=by simpa [hl] using this
 obtain⟨u,hu,ru⟩:=r.get (show(bs.map V.bool)[i]?=some (V.bool bs[i]) by simp[hb]);rw[hu]at e;cases e
 cases ru
 exact⟨bs[i],by simp[hb],rfl⟩
theorem X1.all{l:Addr}{bs:List Bool}{Q:pV}(hh:A.handled=none)(hl:X8 C σ l (bs.map V.bool))(h:Q (.bool (bs.all id)) σ):X1 C A (.builtin "all") [.ref l] σ Q X:=by
 revert X A C σ l bs Q;k_extra "B";intro X A C σ l bs Q hh hl h
 intro s vs S r;obtain⟨_,rfl,r1⟩:=r.one;obtain rfl:=r1.refI;obtain⟨items,il,rl⟩:=hl.raw S;have el:=rl.length;simp only[Array.length_toList,length_map]at el;have hlt:l<s.heap.objs.size:=by obtain⟨_,e,_⟩:=il;exact Heap.lt_size e
 refine call_all_walk (wpAny_pyIter_list il ?_);refine⟨s.heap.objs.size,[s.heap.objs.size,l],[s.heap.objs.size],items.size,_,_,fun i=>(bs[i]?).getD true,rfl,Walks.list (A:=A.in1) hh _ l (Nat.ne_of_lt hlt) items,
  ⟨⟨_,Heap.get?_push_size _ rfl,rfl,rfl⟩,il.push _⟩,fun i v s' Q' E' hP hQ=>?_,fun h' tk hk=>?_⟩
 ·obtain⟨b,e,rfl⟩:=Z2T rl (by simpa using hP);simp only[e,Option.getD_some]at hQ;exact wpAny_truthy_bool hQ
 ·have e:((List.range items.size).all fun i=>(bs[i]?).getD true)=bs.all id:=by
   rw[el];exact PyProof.Rows.LSm.range_all bs
  rw[e];exact⟨_,σ,h,.bool _,S.ext (Z1M hk),.ext (Z1M hk)⟩
theorem X1.any{l:Addr}{bs:List Bool}{Q:pV}(hh:A.handled=none)(hl:X8 C σ l (bs.map V.bool))(h:Q (.bool (bs.any id)) σ):X1 C A (.builtin "any") [.ref l] σ Q X:=by
 revert X A C σ l bs Q;k_extra "B";intro X A C σ l bs Q hh hl h
 intro s vs S r;obtain⟨_,rfl,r1⟩:=r.one;obtain rfl:=r1.refI;obtain⟨items,il,rl⟩:=hl.raw S;have el:=rl.length;simp only[Array.length_toList,length_map]at el;have hlt:l<s.heap.objs.size:=by obtain⟨_,e,_⟩:=il;exact Heap.lt_size e
 refine call_any_walk (wpAny_pyIter_list il ?_);refine⟨s.heap.objs.size,[s.heap.objs.size,l],[s.heap.objs.size],items.size,_,_,fun i=>(bs[i]?).getD false,rfl,Walks.list (A:=A.in1) hh _ l (Nat.ne_of_lt hlt) items,
  ⟨⟨_,Heap.get?_push_size _ rfl,rfl,rfl⟩,il.push _⟩,fun i v s' Q' E' hP hQ=>?_,fun h' tk hk=>?_⟩
 ·obtain⟨b,e,rfl⟩:=Z2T rl (by simpa using hP);simp only[e,Option.getD_some]at hQ;exact wpAny_truthy_bool hQ
 ·have e:((List.range items.size).any fun i=>(bs[i]?).getD false)=bs.any id:=by
   rw[el];exact PyProof.Rows.LSm.range_any bs
  rw[e];exact⟨_,σ,h,.bool _,S.ext (Z1M hk),.ext (Z1M hk)⟩
theorem Z5O{n:Nat}(h:Nat.ble n sizeLine=true):n<=sizeLine:=Nat.le_of_ble_eq_true h
theorem Szs.mk{xs:List V}{P:Prop}(h:xs.length<=sizeLine)(k:P):xs.length<=sizeLine/\P:=⟨h,k⟩
theorem Br.t{b:Bool}{p q:Prop}(hb:b=true)(h:p):if b=true then p else q:=by rw[if_pos hb];exact h
theorem Br.f{b:Bool}{p q:Prop}(hb:b=false)(h:q):if b=true then p else q:=by rw[if_neg (by simp[hb])];exact h
theorem X5.tup0{x:V}{xs:List V}{Q:pV}(h:Q x σ):X5 C A (.tup (x::xs)) (.int 0) σ Q X:=
 X5.tup (j:=0) (by decide) (by decide) (by rw[seqIndex_of (by exact Y5X) (by simp)];rfl) rfl h
theorem X5.tup1{x y:V}{xs:List V}{Q:pV}(h:Q x σ):X5 C A (.tup (y::x::xs)) (.int 1) σ Q X:=
 X5.tup (j:=1) (by decide) (by decide) (by rw[seqIndex_of (by exact Y5Y) (by simp;exact(Np 0x701c0396b0704))];rfl) rfl h
theorem X5.tup2{x y z:V}{xs:List V}{Q:pV}(h:Q x σ):X5 C A (.tup (y::z::x::xs)) (.int 2) σ Q X:=
 X5.tup (j:=2) (by decide) (by decide) (by rw[seqIndex_of (by exact Y60) (by simp;exact(Np 0x380e038072d6b0b04))];rfl) rfl h
theorem X5.tup3{x y z u:V}{xs:List V}{Q:pV}(h:Q x σ):X5 C A (.tup (y::z::u::x::xs)) (.int 3) σ Q X:=
 X5.tup (j:=3) (by decide) (by decide) (by rw[seqIndex_of (by exact Y62) (by simp;exact(Np 0x1c0701c0700e5ad6b0f04))];rfl) rfl h
theorem X5.tup4{x y z u w:V}{xs:List V}{Q:pV}(h:Q x σ):X5 C A (.tup (y::z::u::w::x::xs)) (.int 4) σ Q X:=
 X5.tup (j:=4) (by decide) (by decide) (by rw[seqIndex_of (by exact Y64) (by simp;exact(Np 0xe0380e0380e01cb5ad6b1304))];rfl) rfl h
theorem X5.last{l:Addr}{xs:List V}{y:V}{Q:pV}(hl:X8 C σ l (xs++[y]))(h:Q y σ):X5 C A (.ref l) (.int (-1)) σ Q X:=
 X5.listNeg hl (by decide) (by simp;exact(Np 0xe01cb0703)) (by decide) (by
  have:((-1:Int)+((xs++[y]).length:Int)).toNat=xs.length:=by simp;exact Y67
  rw[this];simp) h
end
noncomputable def X6(σ σ':X0):Prop:=∀b o,σ b=some o->σ' b=some o
theorem X6.rfl'{σ:X0}:X6 σ σ:=fun z z e=>e
theorem X6.trans{σ1 σ2 σ3:X0}(a:X6 σ1 σ2)(b:X6 σ2 σ3):X6 σ1 σ3:=fun x o e=>b x o (a x o e)
theorem X0.hit{σ:X0}{a:Addr}{o:O}:(σ.upd a o) a=some o:=by simp[X0.upd]
theorem X0.miss{σ:X0}{a b:Addr}{o:O}{r:Option O}(h:b≠a)(k:σ b=r):(σ.upd a o) b=r:=by simp[X0.upd,h,k]
theorem X0.at_fresh{σ:X0}{a b:Addr}{o o':O}(h:σ a=none)(k:σ b=some o'):(σ.upd a o) b=some o':=X0.miss (fun e=>by rw[e,h]at k;cases k) k
theorem X6.fresh{σ σ':X0}{a:Addr}{o:O}(g:X6 σ σ')(h:σ' a=none):X6 σ (σ'.upd a o):=fun b o' e=>X0.at_fresh h (g b o' e)
theorem X6.upd{σ σ':X0}{a:Addr}{o:O}(g:X6 σ σ')(h:σ a=none):X6 σ (σ'.upd a o):=fun b o' e=>X0.miss (fun q=>by rw[q,h]at e;cases e) (g b o' e)
theorem X6.none{σ σ':X0}{a:Addr}(g:X6 σ σ')(h:σ' a=none):σ a=none:=by
 cases q:σ a with
 | none=>rfl
 | some o=>rw[g a o q]at h;cases h
section
variable {X:XP} {A:Around} {env:Env} {C:Cx} {σ:X0} {ρ:Rho} {s:Shared}
theorem Asg.mono{t:Expr}{x:V}{Q Q':Rho->X0->Prop}(h:Asg C A env t x ρ σ Q X)(k:∀ρ σ,Q ρ σ->Q' ρ σ):Asg C A env t x ρ σ Q' X:=by
 intro s v S F r;refine wM (h s v S F r) ?_ fun u u z=>z;rintro _ s1 ⟨ρ1,σ1,q,rest⟩;exact⟨ρ1,σ1,k _ _ q,rest⟩
theorem TyGo.mk{x:V}{T:String}{P:Prop}(h:TyV C σ x T)(k:P):TyV C σ x T/\P:=⟨h,k⟩
theorem Eqs.mk{x y:V}{P:Prop}(h:x=y)(k:P):x=y/\P:=⟨h,k⟩
theorem X8.st{l:Addr}{xs:List V}(h:σ l=some (.list xs)):X8 C σ l xs:=.inl h
noncomputable def LpQ(ok:X0->Prop)(J:Rho->X0->Prop)(Q:pW)(g:FV)(ρ:Rho)(σ:X0):Prop:=
 match g with
 | .next|.cont=>ok σ/\J ρ σ
 | .brk=>Q .next ρ σ
 | .ret v=>Q (.ret v) ρ σ
theorem LpQ.n{ok:X0->Prop}{J:Rho->X0->Prop}{Q:pW}(h:ok σ/\J ρ σ):LpQ ok J Q .next ρ σ:=h
theorem Xi.inv{α:Type}{target:Expr}{body:List Stmt}{ok:X0->Prop}{Q:pW}(enc:α->V)(I:List α->Rho->X0->Prop)(step:∀x xs ρ σ,I (x::xs) ρ σ->Asg C A env target (enc x) ρ σ (fun ρ1 σ1=>Exs C A env body ρ1 σ1 (LpQ ok (I xs) Q) (fun z z=>False)) (fun z z=>False))(done:∀ρ σ,I [] ρ σ->Q .next ρ σ):∀xs ρ σ,I xs ρ σ->Xi C A env target body ok Q (xs.map enc) ρ σ
 | [],ρ,σ,h=>done ρ σ h
 | x::xs,ρ,σ,h=>by
  refine(step x xs ρ σ h).mono fun ρ1 σ1 h1=>h1.mono fun g ρ2 σ2 h2=>?_
  cases g with
  | next=>exact⟨h2.1,Xi.inv enc I step done xs ρ2 σ2 h2.2⟩
  | cont=>exact⟨h2.1,Xi.inv enc I step done xs ρ2 σ2 h2.2⟩
  | brk=>exact h2
  | ret v=>exact h2
theorem Ev.mono'{e:Expr}{Q Q':pV}(h:Ev C A env e ρ σ Q X)(k:∀x σ,Q x σ->Q' x σ):Ev C A env e ρ σ Q' X:=by
 intro s S F;refine wM (h s S F) ?_ fun u u z=>z;rintro _ s1 ⟨x,σ1,q,r1,r2,r3⟩;exact⟨x,σ1,k _ _ q,r1,r2,r3⟩
theorem Xa.inv{α:Type}{x:Str}{elt:Expr}{ok:X0->Prop}{R:List V->X0->Prop}(enc:α->V)(I:List α->List V->X0->Prop)(step:∀y ys out σ,I (y::ys) out σ->Ev C A env elt (ρ.put x (enc y)) σ (fun z σ2=>out.length<=sizeLine/\ok σ2/\I ys (out++[z]) σ2) (fun u u=>False))(done:∀out σ,I [] out σ->R out σ):∀ys out σ,I ys out σ->Xa C A env x [] elt ok ρ R (ys.map enc) out σ
 | [],out,σ,h=>done out σ h
 | y::ys,out,σ,h=>by
  unfold Xa;exact Ifs.nil ((step y ys out σ h).mono' fun z σ2 h2=>⟨h2.1,h2.2.1,Xa.inv enc I step done ys _ σ2 h2.2.2⟩)
end
end Mine.Internal
namespace Mine.Internal
open PySem PySem.W PySem.SeqAt PyProof.Rows
theorem Z1A{x:Str}:PySem.PyData.strOk x=true↔∀c∈x.cps.toList,c<0x110000:=by
 unfold PySem.PyData.strOk;rw[Array.all_eq_true_iff_forall_mem];simp
theorem Z0(s:String):PySem.PyData.strOk (ofString s)=true:=by
 rw[Z1A];intro c hc;rw[Str.ofString_eq_toList]at hc;simp only[List.mem_map,List.toList_toArray]at hc;obtain⟨d,_,rfl⟩:=hc;have:=d.valid;simp only[UInt32.isValidChar,Nat.isValidChar]at this;simp only[Char.toNat];exact(Np 0x8800064010000110000c8020000000dfffc84e000001b001900509) this
theorem Z4V{ts:List Str}{B:Nat}(hB:∀y∈ts,y.length<=B)(h:ts.length*B<=16777216):JoinOk Str.empty ts=true:=by
 unfold JoinOk;rw[StrLaws.joinFits hB (by have:Str.empty.length=0:=rfl;rw[this];exact Y69 h)];rfl
end Mine.Internal
namespace Mine.Internal
open PySem PySem.W PySem.SeqAt PyProof.Rows
section
variable {X:XP} {A:Around} {C:Cx} {σ:X0}
theorem Z5P{x:Str}{v:V}{r:List (Str×V)}:sget ((x,v)::r) x=some v:=by simp[sget]
theorem Z4W{x y:Str}{u:V}{v:Option V}{r:List (Str×V)}(h:x≠y)(k:sget r x=v):sget ((y,u)::r) x=v:=by
 subst k;have h':¬y=x:=fun e=>h e.symm;simp[sget,h']
theorem X1.range1{n:Int}{Q:pV}(h:Q (.rng 0 n) σ):X1 C A (.type "range") [.int n] σ Q X:=by
 intro s vs S r;obtain⟨_,rfl,r1⟩:=r.one;obtain⟨_,rfl⟩:=r1.intI;exact call_range_1 ⟨.rng 0 n,σ,h,.rng (IsRange.new _ _ _ _ _ _ _),S.push,.push⟩
theorem Z3l{a b:Int}(h1:-(2 ^ 64)<a)(h2:a<2 ^ 64):IntMulOk a b:=IntMulOk.of_left (intBits_le_64 h1 h2)
theorem Z3m{a b:Int}(h1:-(2 ^ 64)<b)(h2:b<2 ^ 64):IntMulOk a b:=IntMulOk.of_right (intBits_le_64 h1 h2)
end
end Mine.Internal
namespace Mine.Internal
open PySem PySem.W PySem.SeqAt PyProof.Rows
section
variable {X:XP} {A:Around} {C:Cx} {σ:X0}
theorem DRs.map{α:Type}{f:α->V}{g:α->PyData}:∀{xs:List α},(∀x∈xs,DR C σ (f x) (g x))->DRs C σ (xs.map f) (xs.map g)
 | [],_=>.nil
 | x::xs,h=>.cons (h x (.head _)) (DRs.map fun y hy=>h y (.tail _ hy))
theorem Z5{α:Type}{g:α->PyData}:∀{xs:List α},(∀x∈xs,(g x).canLay0=true)->PyData.canLayAll0 (xs.map g)=true
 | [],_=>by simp[PyData.canLayAll0]
 | x::xs,h=>by simp[PyData.canLayAll0,h x (.head _),Z5 fun y hy=>h y (.tail _ hy)]
theorem ZE{α:Type}{g:α->PyData}{k:Nat}:∀{xs:List α},(∀x∈xs,(g x).depth<=k)->PyData.depthAll (xs.map g)<=k
 | [],_=>by simp[PyData.depthAll]
 | x::xs,h=>by
  have h1:=h x (.head _);have h2:=ZE (xs:=xs) fun y hy=>h y (.tail _ hy);simp only[map_cons,PyData.depthAll];exact Y6o h1 h2
theorem X4.eqSame{x y:V}{d:PyData}{Q:pV}(hx:DR C σ x d)(hy:DR C σ y d)(h1:d.canLay0=true)(hu:A.units+d.depth<cLine)(h:Q (.bool true) σ):X4 C A .Eq x y σ Q X:=
 X4.eq hx hy h1 h1 (by exact Y6p hu) (by rw[eqv_refl d h1];exact h)
theorem Z1m{x:V}{t:Ty}{U:String}{Q:pV}(ht:Xe C σ x t)(hU:(U="int" \/U="bool" \/U="str" \/U="list" \/U="tuple")){b:Bool}(hb:isiB t U=b)(h:Q (.bool b) σ):X1 C A (.builtin "isinstance") [x,.typ U] σ Q X:=
 X1.isi ht hU (by rw[hb];exact h)
end
end Mine.Internal
namespace Mine.Internal
open PySem PySem.W PySem.SeqAt PyProof.Rows
section
variable {X:XP} {A:Around} {env:Env} {C:Cx} {σ:X0} {ρ:Rho} {s:Shared}
theorem X0.none_ne{σ:X0}{a b:Addr}{o:O}(h:(σ.upd b o) a=none):a≠b/\σ a=none:=by
 by_cases q:a=b
 ·subst q;simp[X0.upd]at h
 ·exact⟨q,by simpa [X0.upd,q] using h⟩
end
end Mine.Internal
namespace Mine.Internal
open PySem PySem.W
section
variable {X:XP} {A:Around} {env:Env} {C:Cx} {σ:X0} {ρ:Rho}
end
end Mine.Internal
namespace Mine.Internal
open PySem PySem.W
section
variable {X:XP} {A:Around} {env:Env} {C:Cx} {σ:X0} {ρ:Rho}
end
open PyProof.Rows
structure SWO(lt:Nat->Nat->Bool):Prop where
 irr:∀i,lt i i=false
 tr:∀i j k,lt i j=true->lt j k=true->lt i k=true
 nt:∀i j k,lt i j=false->lt j k=false->lt i k=false
noncomputable def slt(lt:Nat->Nat->Bool)(i j:Nat):Prop:=lt i j=true\/(lt j i=false/\i<j)
section
variable {lt:Nat->Nat->Bool}
theorem SWO.asym(W:SWO lt){i j:Nat}(h:lt i j=true):lt j i=false:=by
 cases q:lt j i with
 | false=>rfl
 | true=>have:=W.tr i j i h q;rw[W.irr]at this;cases this
theorem SWO.l1(W:SWO lt){i j k:Nat}(h:lt i j=true)(n:lt k j=false):lt i k=true:=by
 cases q:lt i k with
 | true=>rfl
 | false=>rw[W.nt i k j q n]at h;cases h
theorem SWO.l2(W:SWO lt){i j k:Nat}(n:lt j i=false)(h:lt j k=true):lt i k=true:=by
 cases q:lt i k with
 | true=>rfl
 | false=>rw[W.nt j i k n q]at h;cases h
theorem slt.not(W:SWO lt){i j:Nat}(h:slt lt i j):lt j i=false:=by
 rcases h with h|h
 ·exact W.asym h
 ·exact h.1
theorem slt.trans(W:SWO lt){i j k:Nat}(a:slt lt i j)(b:slt lt j k):slt lt i k:=by
 rcases a with a|⟨a,a'⟩<;>rcases b with b|⟨b,b'⟩
 ·exact .inl (W.tr _ _ _ a b)
 ·exact .inl (W.l1 a b)
 ·exact .inl (W.l2 a b)
 ·exact .inr ⟨W.nt _ _ _ b a,Nat.lt_trans a' b'⟩
noncomputable def Srt(lt:Nat->Nat->Bool)(p:Nat->Nat)(n:Nat):Prop:=∀i j,i<j->j<n->slt lt (p i) (p j)
theorem Srt.ext(W:SWO lt){p:Nat->Nat}{n:Nat}(h:Srt lt p n)(h1:1<=n)(k:slt lt (p (n-1)) (p n)):Srt lt p (n+1):=by
 intro i j hij hj
 by_cases q:j<n
 ·exact h i j hij q
 ·have:j=n:=by exact Y3T hj q
  subst this
  by_cases q:i=j-1
  ·subst q;exact k
  ·exact(h i (j-1) (by exact Y3U hij q) (by exact Y2G h1)).trans W k
structure Idn(p:Nat->Nat)(n N:Nat):Prop where
 rest:∀k,n<=k->k<N->p k=k
 low:∀k,k<n->p k<n
theorem Idn.succ{p:Nat->Nat}{n N:Nat}(I:Idn p n N)(h:n<N):Idn p (n+1) N:=
 ⟨fun k a b=>I.rest k (by exact Y3V a) b,fun k a=>by
  by_cases q:k<n
  ·have:=I.low k q;exact Y3W this
  ·have:k=n:=by exact Y3T a q
   subst this;rw[I.rest k (Nat.le_refl _) h];exact Y3X⟩
theorem Idn.mono{p:Nat->Nat}{n N:Nat}(I:Idn p n N):∀m,n<=m->m<=N->Idn p m N:=by
 intro m h1 h2
 induction m with
 | zero=>
  have:n=0:=by exact(Np 0xc0040c0009) h1
  subst this;exact I
 | succ m ih=>
  by_cases q:n=m+1
  ·subst q;exact I
  ·exact(ih (by exact(Nq 0x2000701b004648701b0009) h1 q) (by exact Y3V h2)).succ (by exact Y40 h2)
abbrev fn(P:Array Nat)(k:Nat):Nat:=P.getD k 0
theorem Z1c(P:Array Nat)(k:Nat):fn P k=(P[k]?).getD 0:=by simp[fn]
theorem Z1d{P:Array Nat}{i j:Nat}(hj:j<=P.size)(k:Nat):fn (kas_rev P i j) k=if i<=k/\k<j then fn P (i+j-1-k) else fn P k:=by
 rw[Z1c];unfold kas_rev;rw[getElem?_mirror_all hj]
 split<;>rw[Z1c]
theorem Z4X{P:Array Nat}{k d:Nat}(hk:k<P.size)(hd:d<=k)(i:Nat):fn (bubble P k d) i=if i=k-d then fn P k else if k-d<i/\i<=k then fn P (i-1) else fn P i:=by
 rw[Z1c,Z1c,Z1c,Z1c,getElem?_bubble hk d hd]
 split
 ·rfl
 ·split<;>rfl
theorem Z5Q(P:Array Nat)(i j:Nat):(kas_rev P i j).size=P.size:=mirror_size _ _ _ _
theorem Z5R(P:Array Nat)(i j:Nat):(kas_rev P i j).Perm P:=mirror_perm _ _ _ _
variable {cmp:Nat->Nat->(Bool->Shared->Prop)->Shared->Prop} {s:Shared} {N:Nat}
structure PA(P:Array Nat)(N:Nat):Prop where
 sz:P.size=N
 pm:P.toList.Perm (List.range N)
theorem PA.rev{P:Array Nat}(h:PA P N)(i j:Nat):PA (kas_rev P i j) N:=⟨(Z5Q _ _ _).trans h.sz,((Z5R P i j).toList).trans h.pm⟩
theorem PA.bub{P:Array Nat}(h:PA P N)(i j:Nat):PA (bubble P i j) N:=⟨(bubble_size _ _ _).trans h.sz,((bubble_perm P i j).toList).trans h.pm⟩
theorem PA.bnd{P:Array Nat}(h:PA P N){k:Nat}(hk:k<N):fn P k<N:=by
 have hk':k<P.size:=by rw[h.sz];exact hk
 have:fn P k∈P.toList:=by
  have e:fn P k=P[k]:=by simp[fn,Array.getD,hk']
  rw[e];exact Array.getElem_mem_toList hk'
 have:=h.pm.mem_iff.mp this;simpa using this
theorem Z3n(W:SWO lt)(hc:∀i j C,i<N->j<N->C (lt i j) s->cmp i j C s){P:Array Nat}(hP:PA P N){Q:Nat->Shared->Prop}:∀f n,n+f=N->1<=n->Srt lt (fn P) n->Idn (fn P) n N->
  (∀m,n<=m->m<=N->Srt lt (fn P) m->(m<N->lt (fn P m) (fn P (m-1))=true)->Q m s)->(kas_asc P f n).kasWp cmp Q s
 | 0,n,hn,h1,hs,hi,h=>h n (Nat.le_refl _) (by exact Y41 hn) hs (fun q=>by exact Y42 hn q)
 | f+1,n,hn,h1,hs,hi,h=>by
  refine hc _ _ _ (hP.bnd (by exact Y43 hn)) (hP.bnd (by exact Y44 hn)) ?_
  cases q:lt (P.getD n 0) (P.getD (n-1) 0) with
  | true=>exact h n (Nat.le_refl _) (by exact Y45 hn) hs fun z=>q
  | false=>
   refine Z3n W hc hP f (n+1) (by exact Y46 hn) (by exact YA) (hs.ext W h1 (.inr ⟨q,?_⟩)) (hi.succ (by exact Y43 hn)) fun m a b c d=>h m (by exact Y3V a) b c d;rw[hi.rest n (Nat.le_refl _) (by exact Y43 hn)];exact hi.low _ (by exact Y2G h1)
structure Dsc(lt:Nat->Nat->Bool)(p:Nat->Nat)(b n:Nat):Prop where
 i1:∀i j,i<j->j<b->slt lt (p j) (p i)
 i2:∀i j,i<b->b<=j->j<n->lt (p j) (p i)=true
 i3:∀i j,b<=i->i<j->j<n->p i<p j/\lt (p i) (p j)=false/\lt (p j) (p i)=false
theorem Dsc.turn(W:SWO lt){p p1:Nat->Nat}{b n:Nat}(h:Dsc lt p b n)(hb:b<n)(e:∀k,p1 k=if b<=k/\k<n then p (b+n-1-k) else p k):∀i j,i<j->j<n->slt lt (p1 j) (p1 i):=by
 intro i j hij hj;rw[e,e]
 by_cases q:b<=j
 ·rw[if_pos ⟨q,hj⟩]
  by_cases q2:b<=i
  ·rw[if_pos ⟨q2,by exact(Nr 0x8011042908029) hij hj⟩];obtain⟨a,b',c⟩:=h.i3 (b+n - 1 - j) (b+n - 1 - i) (by exact Y48 hj) (by exact(Ns1 0xe043b5ee10e043b5ee11042908029) hij hj) (by exact(Ns1 0x230e022b5ee11880908029) hj q2);exact .inr ⟨c,a⟩
  ·rw[if_neg (by exact Y4b q2)];exact .inl (h.i2 i _ (by exact Y4c q2) (by exact Y48 hj) (by exact(Nr 0x200e022b5ee10080908029) hj q))
 ·rw[if_neg (by exact Y4b q),if_neg (by exact(Ns1 0x30040201cc1100c908029) hij q)];exact h.i1 i j hij (by exact Y4c q)
theorem Dsc.next(W:SWO lt){p p1:Nat->Nat}{b n:Nat}(h:Dsc lt p b n)(hb:b<n)(e:∀k,p1 k=if b<=k/\k<n then p (b+n-1-k) else p k)(hl:lt (p n) (p (n-1))=true):Dsc lt p1 n (n+1):=by
 refine⟨h.turn W hb e,fun i j hi hj hj'=>?_,fun i j a b' c=>by exact Y4f a b' c⟩;have:j=n:=by exact Y4g hj hj'
 subst this;rw[e j,if_neg (by exact(Nq 0x8421000e6)),e i]
 by_cases q:b<=i
 ·rw[if_pos ⟨q,hi⟩];have:lt (p (b+j-1-i)) (p (j-1))=false:=by
   by_cases z:b+j-1-i=j-1
   ·rw[z,W.irr]
   ·exact(h.i3 _ (j-1) (by exact Y48 hi) (by exact(Nr 0xe0570870205af708702b8438102d7b88c908009) q z) (by exact(Nr 0x20e05708702b8438102d7b88c908009) q z)).2.1
  exact W.l1 hl this
 ·rw[if_neg (by exact Y4b q)];exact W.tr _ _ _ hl (h.i2 i (j-1) (by exact Y4c q) (by exact Y1s hb) (by exact Y4k hi))
theorem Dsc.more(W:SWO lt){p:Nat->Nat}{b n N:Nat}(h:Dsc lt p b n)(hb:b<n)(hi:Idn p n N)(hn:n<N)(h1:lt (p n) (p (n-1))=false)(h2:lt (p (n-1)) (p n)=false):Dsc lt p b (n+1):=by
 refine⟨h.i1,fun i j a b' c=>?_,fun i j a b' c=>?_⟩
 ·by_cases q:j<n
  ·exact h.i2 i j a b' q
  ·have:j=n:=by exact Y3T c q
   subst this;exact W.l2 h2 (h.i2 i (j-1) a (by exact Y1s hb) (by exact Y4k hb))
 ·by_cases q:j<n
  ·exact h.i3 i j a b' q
  ·have:j=n:=by exact Y3T c q
   subst this;refine⟨by rw[hi.rest j (Nat.le_refl _) hn];exact hi.low i b',?_⟩
   by_cases z:i=j-1
   ·subst z;exact⟨h2,h1⟩
   ·obtain⟨x,y,w⟩:=h.i3 i (j - 1) a (by exact Y3U b' z) (by exact Y4k hb);exact⟨W.nt _ _ _ y h2,W.nt _ _ _ h1 w⟩
theorem Idn.rev{P:Array Nat}{n b N:Nat}(hi:Idn (fn P) n N)(hP:PA P N)(hn:n<=N):Idn (fn (kas_rev P b n)) n N:=by
 refine⟨fun k a c=>?_,fun k a=>?_⟩
 ·rw[Z1d (by rw[hP.sz];exact hn),if_neg (by exact(Nr 0x421100e608009) a)];exact hi.rest k a c
 ·rw[Z1d (by rw[hP.sz];exact hn)]
  split
  ·exact hi.low _ (by(first|lia|(first|lia|omega)))
  ·exact hi.low _ a
set_option tactic.hygienic true in
theorem Z1N(W:SWO lt)(hc:∀i j C,i<N->j<N->C (lt i j) s->cmp i j C s){Q:Array Nat×Nat×Nat->Shared->Prop}:∀f P n q,n+f=N->q+1<=n->PA P N->Idn (fn P) n N->Dsc lt (fn P) (n-(q+1)) n->
  (∀P' m q',n<=m->m<=N->q'+1<=m->PA P' N->Idn (fn P') m N->Dsc lt (fn P') (m-(q'+1)) m->Q (P',m,q') s)->(kas_desc f P n q).kasWp cmp Q s
 | 0,P,n,q,hn,hq,hP,hi,hd,h=>h P n q (Nat.le_refl _) (by exact Y41 hn) hq hP hi hd
 | f+1,P,n,q,hn,hq,hP,hi,hd,h=>by
  refine hc _ _ _ (hP.bnd (by exact Y43 hn)) (hP.bnd (by exact Y44 hn)) ?_
  cases c:lt (P.getD n 0) (P.getD (n-1) 0) with
  | true=>
   simp only[if_true]
   split
   ·rename_i q0
    have e:=Z1d (P:=P) (i:=n-(q+1)) (j:=n) (by rw[hP.sz];exact Y45 hn);refine Z1N W hc f _ (n+1) 0 (by exact Y46 hn) (by exact Yt) (hP.rev _ _) ((hi.rev hP (by exact Y45 hn)).succ (by exact Y43 hn)) ?_ fun P' m q' a b c d e g=>h P' m q' (by exact Y3V a) b c d e g;exact hd.next W (by exact Y4m hq) e c
   ·rename_i q0
    have q0:q=0:=by exact(Np 0x1800800c04c9) q0
    subst q0;refine Z1N W hc f _ (n+1) 0 (by exact Y46 hn) (by exact Yt) hP (hi.succ (by exact Y43 hn)) ?_ fun P' m q' a b c d e g=>h P' m q' (by exact Y3V a) b c d e g;refine hd.next W (by exact Y4o hq) (fun k=>?_) c
    split
    ·congr 1;(first|lia|(first|lia|omega))
    ·rfl
  | false=>
   simp only[Bool.false_eq_true,if_false];refine hc _ _ _ (hP.bnd (by exact Y44 hn)) (hP.bnd (by exact Y43 hn)) ?_
   cases c2:lt (P.getD (n-1) 0) (P.getD n 0) with
   | true=>
    simp only[if_true];exact h P n q (Nat.le_refl _) (by exact Y45 hn) hq hP hi hd
   | false=>
    simp only[Bool.false_eq_true,if_false];refine Z1N W hc f P (n+1) (q+1) (by exact Y46 hn) (by exact Yx hq) hP (hi.succ (by exact Y43 hn)) ?_ fun P' m q' a b c d e g=>h P' m q' (by exact Y3V a) b c d e g;have:n+1-(q+1+1)=n-(q+1):=by exact(Nq 0x701b02e1c0701b583805ae2)
    rw[this];exact hd.more W (by exact Y4m hq) hi (by exact Y43 hn) c c2
theorem Z3o(W:SWO lt)(hc:∀i j C,i<N->j<N->C (lt i j) s->cmp i j C s){P:Array Nat}{n:Nat}{Q:Nat×Array Nat->Shared->Prop}(h1:1<=n)(hn:n<=N)(hP:PA P N)(hi:Idn (fn P) n N)(hd:∀i j,i<j->j<n->slt lt (fn P j) (fn P i))(h:∀m P',1<=m->m<=N->PA P' N->Idn (fn P') m N->Srt lt (fn P') m->Q (m,P') s):(kas_tail3 n N P).kasWp cmp Q s:=by
 unfold kas_tail3;rw[KasT.kasWp_bind];have e:=Z1d (P:=P) (i:=0) (j:=n) (by rw[hP.sz];exact Y15 hn);have hs:Srt lt (fn (kas_rev P 0 n)) n:=fun i j a b=>by
  rw[e,e,if_pos (by exact Y4q a b),if_pos (by exact Y4r b)];exact hd _ _ (by exact Y4s a b) (by exact Y4t b)
 refine Z3n W hc (hP.rev 0 n) (N-n) n (by exact Y4u hn) h1 hs (hi.rev hP hn) fun m a b c d=>?_;exact h m _ (by exact Ye h1 a) b (hP.rev 0 n) ((hi.rev hP hn).mono m a b) c
theorem Z1Z(W:SWO lt)(hc:∀i j C,i<N->j<N->C (lt i j) s->cmp i j C s){P:Array Nat}{n:Nat}{Q:Nat×Array Nat->Shared->Prop}(hn:n+1<=N)(h1:1<=n)(hP:PA P N)(hi:Idn (fn P) n N)(hd:Dsc lt (fn P) n (n+1))(h:∀m P',1<=m->m<=N->PA P' N->Idn (fn P') m N->Srt lt (fn P') m->Q (m,P') s):(kas_descPart n N P).kasWp cmp Q s:=by
 unfold kas_descPart;rw[KasT.kasWp_bind];refine Z1N W hc (N - (n+1)) P (n+1) 0 (by exact(Nq 0x8700b06e1c02d61043805809) hn) (by exact Yt) hP (hi.succ (by exact Y40 hn)) (by simpa using hd) fun P' m q' a b c d e g=>?_;dsimp only
 split
 ·have ee:=Z1d (P:=P') (i:=m-(q'+1)) (j:=m) (by rw[d.sz];exact Y15 b);exact Z3o W hc (by exact Yq c) b (d.rev _ _) (e.rev d b) (g.turn W (by exact Y4m c) ee) h
 ·have q0:q'=0:=by(first|lia|(first|lia|omega))
  subst q0;refine Z3o W hc (by exact(Np 0x70000700c5809) c) b d e (g.turn W (by exact Y4o c) fun k=>?_) h
  split
  ·congr 1;(first|lia|(first|lia|omega))
  ·rfl
set_option tactic.hygienic true in
theorem Z5S{P:Array Nat}{Q:Nat×Array Nat->Shared->Prop}(W:SWO lt)(hc:∀i j C,i<N->j<N->C (lt i j) s->cmp i j C s)(h1:1<=N)(hP:PA P N)(hi:Idn (fn P) 1 N)(h:∀m P',1<=m->m<=N->PA P' N->Idn (fn P') m N->Srt lt (fn P') m->Q (m,P') s):(kas_count N P).kasWp cmp Q s:=by
 revert lt cmp s N P Q;k_extra "O";intro lt cmp s N P Q W hc h1 hP hi h
 unfold kas_count;rw[KasT.kasWp_bind];refine Z3n W hc hP (N-1) 1 (by exact(Np 0x1c02e1c58400e009) h1) (Nat.le_refl _) (fun i j a b=>by exact Y4y a b) hi fun n a b c d=>?_;have hin:=hi.mono n a b
 split
 ·exact h n P a b hP hin c
 ·rename_i e
  have hlt:n<N:=by
   have:n≠N:=fun q=>e (by simp[q]);exact(Nq 0x8021008c908009) b this
  have dl:=d hlt
  split
  ·refine hc _ _ _ (hP.bnd (by exact(Nq 0x830108029) hlt)) (hP.bnd (by exact(Nq 0x21c02e108029) hlt)) ?_
   cases c2:lt (P.getD 0 0) (P.getD (n-1) 0) with
   | true=>
    simp only[if_true];exact h n P a b hP hin c
   | false=>
    simp only[Bool.false_eq_true,if_false];have e:=Z1d (P:=P) (i:=0) (j:=n) (by rw[hP.sz];exact Yd hlt);refine Z1Z W hc hlt a (hP.rev 0 n) (hin.rev hP b) ⟨fun i j x y=>?_,fun i j x y z=>?_,fun i j x y z=>by exact Y4f x y z⟩ h
    ·rw[e,e,if_pos (by exact Y4r y),if_pos (by exact Y4q x y)];exact c _ _ (by exact Y4s x y) (by exact Y4t y)
    ·have:j=n:=by exact Y4g y z
     subst this;rw[e j,e i,if_neg (by exact(Np 0x400c00e6)),if_pos (by exact Y4r x)];have k0:lt (fn P (0+j-1-i)) (fn P 0)=false:=by
      by_cases z:0+j-1-i=0
      ·rw[z,W.irr]
      ·exact(c 0 (0+j-1-i) (by exact(Nq 0x21c0018b5ee0c041808700062d7b88c9) z) (by exact(Nq 0x8700062d7b841808700062d7b88c9) z)).not W
     exact W.l1 dl (W.nt _ _ _ k0 c2)
  ·have:n=1:=by(first|lia|(first|lia|omega))
   subst this;refine Z1Z W hc hlt a hP hin ⟨fun i j x y=>by exact Y4y x y,fun i j x y z=>?_,fun i j x y z=>by exact Y4F x y z⟩ h;have e1:j=1:=by exact(Np 0x1c0041c0716005200e009) y z
   have e2:i=0:=by exact(Np 0xc0041c0029) x
   subst e1 e2;exact dl
theorem Z29(W:SWO lt)(hc:∀i j C,i<N->j<N->C (lt i j) s->cmp i j C s){P:Array Nat}{k:Nat}{Q:Nat->Shared->Prop}(hP:PA P N)(hk:k<N)(hs:Srt lt (fn P) k):∀f l r,l<=r->r<=k->r-l<=f->
  (∀i,i<l->lt (fn P k) (fn P i)=false)->(∀i,r<=i->i<k->lt (fn P k) (fn P i)=true)->
  (∀l,l<=k->(∀i,i<l->lt (fn P k) (fn P i)=false)->(∀i,l<=i->i<k->lt (fn P k) (fn P i)=true)->Q l s)->(kas_place P k f l r).kasWp cmp Q s
 | 0,l,r,h1,h2,h3,a,b,h=>h l (by exact YJ h1 h2) a fun i x y=>b i (by exact(Nr 0x40008204830105c09) h3 x) y
 | f+1,l,r,h1,h2,h3,a,b,h=>by
  unfold kas_place
  split
  ·exact h l (by exact YJ h1 h2) a fun i x y=>b i (by(first|lia|(first|lia|omega))) y
  ·refine hc _ _ _ (hP.bnd hk) (hP.bnd (by exact Y4K hk h1 h2)) ?_
   cases c:lt (P.getD k 0) (P.getD ((l+r) / 2) 0) with
   | true=>
    simp only[if_true];refine Z29 W hc hP hk hs f l ((l+r) / 2) (by exact Y4M h1) (by exact YV h1 h2) (by exact Y4N h3) a (fun i x y=>?_) h
    by_cases z:i=(l+r) / 2
    ·subst z;exact c
    ·exact W.l1 c ((hs ((l+r) / 2) i (by exact Y4P x z) y).not W)
   | false=>
    simp only[Bool.false_eq_true,if_false];refine Z29 W hc hP hk hs f ((l+r) / 2+1) r (by(first|lia|(first|lia|omega))) h2 (by exact Y4Q h3) (fun i x=>?_) b h
    by_cases z:i=(l+r) / 2
    ·subst z;exact c
    ·exact W.nt _ _ _ c ((hs i ((l+r) / 2) (by exact Y4S x z) (by(first|lia|(first|lia|omega)))).not W)
theorem Z6x{P:Array Nat}{k l:Nat}(W:SWO lt)(hP:PA P N)(hk:k<N)(hs:Srt lt (fn P) k)(hi:Idn (fn P) k N)(hl:l<=k)(a:∀i,i<l->lt (fn P k) (fn P i)=false)(b:∀i,l<=i->i<k->lt (fn P k) (fn P i)=true) :
  Srt lt (fn (bubble P k (k-l))) (k+1)/\Idn (fn (bubble P k (k-l))) (k+1) N:=by
 revert lt N P k l;k_extra "K";intro lt N P k l W hP hk hs hi hl a b
 have e:∀i,fn (bubble P k (k-l)) i=if i=l then fn P k else if l<i/\i<=k then fn P (i-1) else fn P i:=fun i=>by
  have e:=Z4X (P:=P) (k:=k) (d:=k-l) (by rw[hP.sz];exact hk) (by exact(Nq 33504)) i;have:k-(k-l)=l:=by exact Y2j hl
  rwa [this]at e
 refine⟨fun i j hij hj=>?_,fun i x y=>?_,fun i x=>?_⟩
 ·rw[e i,e j]
  by_cases q1:j=l
  ·rw[if_pos q1,if_neg (by exact(Nr 0x100461044908029) hij q1),if_neg (by exact(Ns1 0x18000104e61044908029) hij q1)];refine .inr ⟨a i (by exact Y4W hij q1),?_⟩;rw[hi.rest k (Nat.le_refl _) hk];exact hi.low i (by exact(Nr 0x4008702b042908029) hij hj)
  ·rw[if_neg q1]
   by_cases q2:i=l
   ·rw[if_pos q2,if_pos (by exact(Ns1 0x410046138c0248702b042908029) hij hj q2)];exact .inl (b (j-1) (by exact(Nr 0x380dc401004908029) hij q2) (by exact(Nr 0x20e03708702b042908029) hij hj))
   ·rw[if_neg q2]
    by_cases q3:l<i/\i<=k
    ·rw[if_pos q3,if_pos (by exact(Ns1 0x41004613880000c2748702b042908029) hij hj q3)];exact hs _ _ (by exact(Ns1 0x1c06e1c02e118000104e908029) hij q3) (by exact(Ns1 0x10e017084601882748701b0029) hj q3)
    ·rw[if_neg q3]
     by_cases q4:l<j/\j<=k
     ·rw[if_pos q4];exact hs _ _ (by exact(Ns1 0xe03700461004413a4600004139922008c908029) hij q2 q3 q4) (by exact(Nr 0x41c06e110401004e9) q4)
     ·rw[if_neg q4];exact hs _ _ hij (by exact(Nr 0x88211004009cc90084648701b082908009) hl hj q1 q4)
 ·rw[e i,if_neg (by exact(Nr 0x42308380d80908009) hl x),if_neg (by exact(Nr 0x20088273043805809) x)];exact hi.rest i (by exact Y3V x) y
 ·rw[e i]
  split
  ·rw[hi.rest k (Nat.le_refl _) hk];exact Y3X
  ·split
   ·have:=hi.low (i-1) (by(first|lia|(first|lia|omega)));exact Y3W this
   ·have:=hi.low i (by(first|lia|(first|lia|omega)));exact Y3W this
theorem Z4Y(W:SWO lt)(hc:∀i j C,i<N->j<N->C (lt i j) s->cmp i j C s){Q:Array Nat->Shared->Prop}:∀f P k,k+f=N->PA P N->Srt lt (fn P) k->Idn (fn P) k N->
  (∀P',PA P' N->Srt lt (fn P') N->Q P' s)->(kas_bin f P k).kasWp cmp Q s
 | 0,P,k,hk,hP,hs,hi,h=>h P hP (by have e:=(by exact(Nq 0x201041805849) hk:k=N);subst e;exact hs)
 | f+1,P,k,hk,hP,hs,hi,h=>by
  unfold kas_bin;rw[KasT.kasWp_bind];refine Z29 W hc hP (by exact Y43 hk) hs k 0 k (Nat.zero_le _) (Nat.le_refl _) (by exact(Np 787168)) (fun i x=>by exact Y5b x) (fun i x y=>by exact Y5c x y) fun l hl a b=>?_;obtain⟨s1,i1⟩:=Z6x W hP (by exact Y43 hk) hs hi hl a b;exact Z4Y W hc f _ (k+1) (by exact Y46 hk) (hP.bub _ _) s1 i1 h
theorem Z6y(W:SWO lt)(hc:∀i j C,i<N->j<N->C (lt i j) s->cmp i j C s){Q:Array Nat->Shared->Prop}(h1:1<=N)(h:∀P',P'.toList.Perm (List.range N)->P'.toList.Pairwise (slt lt)->Q P' s):(kas_sort N).kasWp cmp Q s:=by
 have fin:∀P',PA P' N->Srt lt (fn P') N->Q P' s:=fun P' hP hs=>by
  refine h P' hP.pm (List.pairwise_iff_getElem.mpr fun i j hi hj hij=>?_);have hz:=hP.sz;simp only[Array.length_toList]at hi hj;have:=hs i j hij (by exact Y4W hj hz);have e:∀k (hk:k<P'.size),fn P' k=P'[k]:=fun k hk=>by simp[fn,Array.getD,hk]
  rw[e i hi,e j hj]at this;simpa using this
 unfold kas_sort;rw[KasT.kasWp_bind];have hP0:PA (List.toArray (List.range N)) N:=⟨by simp,by simp⟩;have e0:∀k,k<N->fn (List.toArray (List.range N)) k=k:=fun k hk=>by simp[fn,Array.getD,hk]
 refine Z5S W hc h1 hP0 ⟨fun k a b=>e0 k b,fun k a=>by rw[e0 k (by exact(Nq 0x8438085200e009) h1 a)];exact a⟩ fun m P' a b c d e=>?_;dsimp only
 split
 ·have hm:max m 1=m:=by exact Y5e a
  rw[hm];exact Z4Y W hc (N-m) P' m (by exact Y4u b) c e d fin
 ·have:m=N:=by(first|lia|(first|lia|omega))
  subst this;exact fin P' c e
end
end Mine.Internal
set_option maxRecDepth 100000
namespace Mine.Internal
open PySem PySem.W PySem.SeqAt PyProof.Rows
noncomputable def pv(p:Int×Int):V:=.tup [.int p.1,.int p.2]
noncomputable def lexlt(p q:Int×Int):Bool:=decide (p.1<q.1)||(p.1==q.1&&decide (p.2<q.2))
theorem lexlt_iff{p q:Int×Int}:lexlt p q=true↔p.1<q.1\/(p.1=q.1/\p.2<q.2):=by simp[lexlt]
theorem lexlt_false{p q:Int×Int}:lexlt p q=false↔q.1<p.1\/(q.1=p.1/\q.2<=p.2):=by
 rw[<-Bool.not_eq_true,lexlt_iff];exact Y5f
theorem Z6U(f:Nat->Int):SWO (fun i j=>decide (f i<f j)):=by
 refine⟨fun i=>?_,fun i j k=>?_,fun i j k=>?_⟩<;>simp<;>(first|lia|(first|lia|omega))
section
variable {prog:Program} {w:World} {A:Around} {E:pS} {s:Shared}
theorem VR.pv_at:∀{h:Heap}{v:Value}{p:Int×Int}(r:VR h v (pv p)),∃a t u n,v=.ref a/\h.get? a=some (Zf #[.int p.1 t,.int p.2 u] n):=by
 k_extra "A";intro h v p r;obtain⟨a,⟨l⟩,n,rfl,e,rs⟩:=VR.tupI (xs:=[.int p.1,.int p.2]) r;obtain⟨_,_,e2,r1,r2⟩:=rs.two;obtain⟨_,rfl⟩:=r1.intI;obtain⟨_,rfl⟩:=r2.intI;have e2:l=_:=e2;subst e2;exact⟨_,_,_,_,rfl,e⟩
theorem Z6z{a b:Addr}{x y x' y':Int}{t u t' u':Tok}{n k:Nat}{Q:pS}(ha:s.heap.get? a=some (Zf #[.int x t,.int y u] n))(hb:s.heap.get? b=some (Zf #[.int x' t',.int y' u'] k))(hu:A.units<cLine)(h:Q (.bool (lexlt (x,y) (x',y'))) s):wpAny (model prog w) A (richCompare .Lt (.ref a) (.ref b)) Q E s:=by
 refine wpAny_richCompare_same_room (T:="tuple") (id:="tuple.__lt__") ⟨_,ha,rfl⟩ ⟨_,hb,rfl⟩ PySem.F.slot_tuple_lt ?_ hu;refine wpAny_call_entry PySem.F.slot_tuple_lt ⟨_,ha,rfl⟩ PySem.F.entry_tuple_lt ?_ (PySem.F.args_tuple_lt_2 _ _);show wpAny _ _ (isInstance (.ref b) (.type "tuple")>>=_) _ _ s;refine wB (wpAny_isInstance ⟨_,hb,rfl⟩ isSubtype_tuple_tuple ?_);simp only[Bool.not_true,Bool.false_eq_true,if_false];refine wB (wpAny_tupleItemsOf ha rfl ?_);refine wB (wpAny_tupleItemsOf hb rfl ?_);refine wB ?_;simp only[List.zip_cons_cons,List.zip_nil_right,List.forIn_cons,List.forIn_nil];refine wB (wB (wpAny_eqBool_int ?_))
 by_cases q:x=x'
 ·subst q;have e1:(x==x)=true:=beq_self_eq_true _;simp only[e1,Bool.not_true,Bool.false_eq_true,if_false];refine wP ?_;refine wB (wB (wpAny_eqBool_int ?_))
  by_cases q2:y=y'
  ·subst q2;have e2:(y==y)=true:=beq_self_eq_true _;simp only[e2,Bool.not_true,Bool.false_eq_true,if_false];refine wP (wP (wP ⟨_,rfl,fun z=>(nomatch z),?_⟩));have:(lexlt (x,y) (x,y))=false:=by simp[lexlt]
   rw[this]at h;exact h
  ·have e2:(y==y')=false:=beq_eq_false_iff_ne.mpr q2;simp only[e2,Bool.not_false,if_true];refine wB (wpAny_rule (wB (PySem.P.lt_int (wB (wP (wP (wP (wP ⟨_,rfl,fun z=>(nomatch z),?_⟩))))))));have:(lexlt (x,y) (x,y'))=decide (y<y'):=by rw[Bool.eq_iff_iff];simp[lexlt]<;>(first|lia|(first|lia|omega))
   rw[this]at h;exact h
 ·have e1:(x==x')=false:=beq_eq_false_iff_ne.mpr q;simp only[e1,Bool.not_false,if_true];refine wB (wpAny_rule (wB (PySem.P.lt_int (wB (wP (wP (wP (wP ⟨_,rfl,fun z=>(nomatch z),?_⟩))))))));have:(lexlt (x,y) (x',y'))=decide (x<x'):=by rw[Bool.eq_iff_iff];simp[lexlt]<;>(first|lia|(first|lia|omega))
  rw[this]at h;exact h
end
noncomputable def PairAt(h:Heap)(v:Value)(p:Int×Int):Prop:=∃a t u n,v=.ref a/\h.get? a=some (Zf #[.int p.1 t,.int p.2 u] n)
structure MinOk(prog:Program)(w:World)(A:Around)(base:Heap){α:Type}(At:Value->α->Prop)(lt:α->α->Bool):Prop where
 cmp:∀(s:Shared) (x y:Value) (p q:α) (Q:pS) (E:pS),(∀b o,base.get? b=some o->s.heap.get? b=some o)->At x p->At y q->Q (.bool (lt p q)) s->wpAny (model prog w) A.in1 (richCompare .Lt x y) Q E s
 irr:∀p,lt p p=false
 tr:∀r p q,lt r p=false->lt q p=true->lt r q=false
section
variable {prog:Program} {w:World} {A:Around} {E:pS} {s:Shared}
theorem Z5T{base:Heap}{I S l:Addr}{items:Array Value}{R:Result->Shared->Prop}{α:Type}{At:Value->α->Prop}{lt:α->α->Bool}{ps:List α}(hh:A.handled=none)(hc:MinOk prog w A base At lt)(hI:base.objs.size<=I)(hS:base.objs.size<=S)(hIS:I≠S)(hl:base.IsList l items)(hz:items.size=ps.length)(hr:∀(i:Nat) (v:Value) (p:α),items[i]?=some v->ps[i]?=some p->At v p) :
  ∀(k j:Nat) (s:Shared) (vb:Value) (c:Nat) (p:α),ps.length-(j+1)=k->j+1<=ps.length->s.heap.IsListIter I l (j+1)->(∀b o,base.get? b=some o->s.heap.get? b=some o)->
  s.heap.get? S=some { cls:=.type "list",dict:=none,data:=.seq #[vb,vb] c,slots:=#[] }->At vb p->(∃i:Nat,i<ps.length/\items[i]?=some vb/\ps[i]?=some p)->(∀q∈ps.take (j+1),lt q p=false)->
  (∀v p h' tk,(∃i:Nat,i<ps.length/\items[i]?=some v/\ps[i]?=some p)->(∀q∈ps,lt q p=false)->(∀b o,base.get? b=some o->h'.get? b=some o)->R (.ok (.ret v)) { s with heap:=h',toks:=tk })->
  codeAny (model prog w) A (.builtin "min.loop" ⟨[.ref I,.none,.ref S],[]⟩) R s:=by
 revert prog w A base I S l items R α At lt ps hh hc hI hS hIS hl hz hr;k_extra "F";intro prog w A base I S l items R α At lt ps hh hc hI hS hIS hl hz hr
 have hname:(toString "min" ++ toString ".loop":String)="min.loop":=by decide
 have hlI:l≠I:=by obtain⟨o,e,_⟩:=hl;exact Nat.ne_of_lt (Nat.lt_of_lt_of_le (Heap.lt_size e) hI)
 have W:=Walks.list (prog:=prog) (w:=w) (A:=A.in1) hh I l hlI items;have up:∀{h h':Heap},(∀b o,base.get? b=some o->h.get? b=some o)->(∀b o,b∉[I]->h.get? b=some o->h'.get? b=some o)->∀b o,base.get? b=some o->h'.get? b=some o:=fun a b' c o e=>
  b' c o (fun q=>by rw[List.mem_singleton.mp q]at e;exact absurd (Heap.lt_size e) (Nat.not_lt.mpr hI)) (a c o e)
 have upS:∀{h:Heap} {f:Obj->Obj},(∀b o,base.get? b=some o->h.get? b=some o)->∀b o,base.get? b=some o->(h.update S f).get? b=some o:=fun a c o e=>
  (Heap.get?_update_other _ _ (fun q:S=c=>by rw[<-q]at e;exact absurd (Heap.lt_size e) (Nat.not_lt.mpr hS))).trans (a c o e)
 have hSI:S∉[I]:=fun q=>hIS (List.mem_singleton.mp q).symm;intro k
 induction k with
 | zero=>
  intro j s vb c p hk hj hit hb hSo hp hin hmin hR;have hjn:j+1=items.size:=by exact(Nr 0x38158410e056024180e0560dc4908049) hz hk hj
  refine codeAny_builtin F.entry_min_loop ?_;rw[Around.under_plainId F.plain_min_loop _];show wpAny _ A.in1 (seqItems? (.ref S)>>=_) _ _ s;refine wB (wpAny_seqItems hSo rfl ?_);show wpAny _ A.in1 (tryCatch (pyNext (.ref I)) _>>=_) _ _ s;refine wB (wpAny_tryCatch (W.done s _ _ ⟨hjn▸hit,hl.at fun o e=>hb _ _ e⟩ fun h' tk hk'=>?_));have hS':=hk' S _ hSI hSo;show wpAny _ A.in1 (updateSeq S (fun u=>#[])>>=_) _ _ _;refine wB ?_;refine wpAny_updateSeq hS' rfl (wB (wpAny_letGo (wP ?_)));refine hR vb p _ tk hin (fun q hq=>hmin q ?_) (upS (up hb hk'));rw[take_of_length_le (by exact(Nq 0xe036000180e03605c49) hk)];exact hq
 | succ k ih=>
  intro j s vb c p hk hj hit hb hSo hp hin hmin hR;have hlt:j+1<items.size:=by exact(Ns1 0x1c0ac10e0760e0560dc4908049) hz hk
  refine codeAny_builtin F.entry_min_loop ?_;rw[Around.under_plainId F.plain_min_loop _];show wpAny _ A.in1 (seqItems? (.ref S)>>=_) _ _ s;refine wB (wpAny_seqItems hSo rfl ?_);show wpAny _ A.in1 (tryCatch (pyNext (.ref I)) _>>=_) _ _ s;refine wB (wpAny_tryCatch (W.item (j+1) s _ _ hlt ⟨hit,hl.at fun o e=>hb _ _ e⟩ fun v h' tk hP hst' hk'=>?_));have hS':=hk' S _ hSI hSo;have hb':=up hb hk';have hlt':j+1<ps.length:=by exact(Nr 0x1c06c10e0560e03605c49) hk
  obtain⟨q,hq⟩:∃q,ps[j+1]?=some q:=⟨_,List.getElem?_eq_getElem hlt'⟩;have take_succ:∀r∈ps.take (j+1+1),r∈ps.take (j+1)\/r=q:=fun r hr'=>by
   rw[List.take_add_one,hq]at hr';simpa using hr'
  show wpAny _ A.in1 (tryCatch (holding [_,_] (richCompare .Lt v vb>>=_)) _>>=_) _ _ _;refine wB (wpAny_tryCatch (wpAny_holding (wB (hc.cmp _ _ _ _ _ _ _ hb' (hr _ _ _ hP hq) hp ?_))));refine wB (wpAny_holding (wpAny_truthy_bool ?_));refine wB (wpAny_letGo (wP ?_))
  cases hcc:lt q p with
  | true=>
   simp only[if_true];refine wB ?_;refine wpAny_updateSeq hS' rfl (wB (wpAny_letGo ?_));rw[hname];refine wP ⟨plainId_quiet F.plain_min_loop _,ih (j+1) _ v _ q (by exact Y5k hk) hlt' ((hst'.1).at fun o e=>(Heap.get?_update_other _ _ (Ne.symm hIS)).trans e) (upS hb') (Heap.get?_update_self _ hS' rfl) (hr _ _ _ hP hq) ⟨j+1,hlt',hP,hq⟩ (fun r hr'=>?_) fun v' p' h'' tk'' x1 x2 x3=>hR v' p' h'' tk'' x1 x2 x3⟩;rcases take_succ r hr' with z|z
   ·exact hc.tr _ _ _ (hmin r z) hcc
   ·subst z;exact hc.irr _
  | false=>
   simp only[Bool.false_eq_true,if_false];refine wB (wpAny_letGo ?_);rw[hname];refine wP ⟨plainId_quiet F.plain_min_loop _,ih (j+1) _ vb c p (by exact Y5k hk) hlt' hst'.1 hb' hS' hp hin (fun r hr'=>?_) fun v' p' h'' tk'' x1 x2 x3=>hR v' p' h'' tk'' x1 x2 x3⟩;rcases take_succ r hr' with z|z
   ·exact hmin r z
   ·subst z;exact hcc
theorem Z2U{l:Addr}{items:Array Value}{Q:pS}{α:Type}{At:Value->α->Prop}{lt:α->α->Bool}{ps:List α}(hh:A.handled=none)(hc:MinOk prog w A s.heap At lt)(hl:s.heap.IsList l items)(hz:items.size=ps.length)(hne:0<ps.length)(hr:∀(i:Nat) (v:Value) (p:α),items[i]?=some v->ps[i]?=some p->At v p)(h:∀v p h' tk,(∃i:Nat,i<ps.length/\items[i]?=some v/\ps[i]?=some p)->(∀q∈ps,lt q p=false)->(∀b o,s.heap.get? b=some o->h'.get? b=some o)->Q v { s with heap:=h',toks:=tk }) :
  wpAny (model prog w) A (call (.builtin "min") [.ref l]) Q E s:=by
 revert prog w A E s l items Q α At lt ps hh hc hl hz hne hr h;k_extra "R";intro prog w A E s l items Q α At lt ps hh hc hl hz hne hr h
 have hname:(toString "min" ++ toString ".loop":String)="min.loop":=by decide
 have hlt:l<s.heap.objs.size:=by obtain⟨o,e,_⟩:=hl;exact Heap.lt_size e
 refine call_function_tree F.kind_min F.plain_min F.entry_min (F.args_min1 _) ?_;show wpAny _ A.in1 (Builtin.Builtins.bindParams "min" ["key","default"] 0 ⟨[],[]⟩>>=_) _ _ s;refine wB (wpAny_of_eq (show Builtin.Builtins.bindParams "min" ["key","default"] 0 ⟨[],[]⟩=pure [none,none] from rfl) ?_);refine wB (wP ?_);refine wB (wpAny_pyIter_list hl ?_);refine wB (wpAny_newObj_type ?_);rw[hname];refine wP ⟨plainId_quiet F.plain_min_loop _,?_⟩;generalize hH:(s.heap.push _).push _=H;have hIt:H.IsListIter s.heap.objs.size l 0:=by rw[<-hH];exact⟨_,Heap.get?_push_of_some _ (Heap.get?_push_size _ rfl),rfl,rfl⟩
 have hSz:∀o:Obj,(s.heap.push o).objs.size=s.heap.objs.size+1:=fun o=>Heap.size_push ..;rw[hSz];have hSo:H.get? (s.heap.objs.size+1)=some { cls:=.type "list",dict:=none,data:=.seq #[] 0,slots:=#[] }:=by rw[<-hH,<-hSz];exact Heap.get?_push_size _ rfl
 have hb:∀b o,s.heap.get? b=some o->H.get? b=some o:=fun b o e=>by rw[<-hH];exact Heap.get?_push_of_some _ (Heap.get?_push_of_some _ e)
 have W:=Walks.list (prog:=prog) (w:=w) (A:=A.in1) hh s.heap.objs.size l (Nat.ne_of_lt hlt) items;have hSI:s.heap.objs.size+1∉[s.heap.objs.size]:=fun q=>by have:=List.mem_singleton.mp q;exact(Np 0x5003805849) this
 refine codeAny_builtin F.entry_min_loop ?_;rw[Around.under_plainId F.plain_min_loop _];show wpAny _ A.in1 (seqItems? (.ref (s.heap.objs.size+1))>>=_) _ _ _;refine wB (wpAny_seqItems hSo rfl ?_);show wpAny _ A.in1 (tryCatch (pyNext (.ref s.heap.objs.size)) _>>=_) _ _ _;refine wB (wpAny_tryCatch (W.item 0 _ _ _ (by exact(Nq 0x60210602908049) hz hne) ⟨hIt,hl.at fun o e=>hb _ _ e⟩ fun v h' tk hP hst' hk'=>?_));have hS':=hk' _ _ hSI hSo;show wpAny _ A.in1 (updateSeq (s.heap.objs.size+1) (fun z=>#[v,v])>>=_) _ _ _;refine wB ?_;refine wpAny_updateSeq hS' rfl ?_;rw[hname];obtain⟨q,hq⟩:∃q,ps[0]?=some q:=⟨_,List.getElem?_eq_getElem hne⟩;refine wP ⟨plainId_quiet F.plain_min_loop _,Z5T (base:=s.heap) hh hc (Nat.le_refl _) (Nat.le_succ _) (Nat.ne_of_lt (Nat.lt_succ_self _)) hl hz hr _ 0 _ v _ q rfl hne ((hst'.1).at fun o e=>(Heap.get?_update_other _ _ (Nat.succ_ne_self _)).trans e) (fun b o e=>?_) (Heap.get?_update_self _ hS' rfl) (hr _ _ _ hP hq) ⟨0,hne,hP,hq⟩ (fun r hr'=>?_) fun v' p' h'' tk'' x1 x2 x3=>h v' p' h'' tk'' x1 x2 x3⟩
 ·exact(Heap.get?_update_other _ _ (Nat.ne_of_gt (Nat.lt_succ_of_lt (Heap.lt_size e)))).trans (hk' b o (fun q=>absurd (List.mem_singleton.mp q) (Nat.ne_of_lt (Heap.lt_size e))) (hb b o e))
 ·rw[List.take_add_one,hq]at hr';have:r=q:=by simpa using hr'
  subst this;exact hc.irr _
theorem Z2K{l:Addr}{items:Array Value}{ps:List (Int×Int)}{Q:pS}(hh:A.handled=none)(hu:A.units+1<cLine)(hl:s.heap.IsList l items)(hz:items.size=ps.length)(hne:0<ps.length)(hr:∀(i:Nat) (v:Value) (p:Int×Int),items[i]?=some v->ps[i]?=some p->PairAt s.heap v p)(h:∀v p h' tk,(∃i:Nat,i<ps.length/\items[i]?=some v/\ps[i]?=some p)->(∀q∈ps,lexlt q p=false)->(∀b o,s.heap.get? b=some o->h'.get? b=some o)->Q v { s with heap:=h',toks:=tk }) :
  wpAny (model prog w) A (call (.builtin "min") [.ref l]) Q E s:=by
 revert prog w A E s l items ps Q;k_extra "F";intro prog w A E s l items ps Q hh hu hl hz hne hr h
 refine Z2U hh ⟨fun s' x y p q Q E hb hx hy hq=>?_,fun p=>?_,fun r p q h1 h2=>?_⟩ hl hz hne hr h
 ·obtain⟨a1,t1,u1,n1,rfl,e1⟩:=hx;obtain⟨a2,t2,u2,n2,rfl,e2⟩:=hy;exact Z6z (hb _ _ e1) (hb _ _ e2) hu hq
 ·rw[lexlt_false];exact Y3N
 ·rw[lexlt_false]at h1 ⊢;rw[lexlt_iff]at h2
  (first|lia|(first|lia|omega))
end
section
variable {prog:Program} {w:World} {A:Around} {E:pS} {s:Shared}
theorem Z5U{b:Bool}{h:Heap}{x y:Value}{p q:Int×Int}{C:Bool->Shared->Prop}(hx:PairAt s.heap x p)(hy:PairAt s.heap y q)(hC:C (lexlt p q) s):wpAny (model prog w) A (keyLt' (tuples' true) x y) C E s:=by
 revert prog w A E s b h x y p q C;k_extra "x";intro prog w A E s b h x y p q C hx hy hC
 obtain⟨a1,t1,u1,n1,rfl,e1⟩:=hx;obtain⟨a2,t2,u2,n2,rfl,e2⟩:=hy;refine kat_lt e1 rfl e2 rfl ?_;show KatLex prog w A true false C [(Value.int p.1 t1,Value.int q.1 t2),(Value.int p.2 u1,Value.int q.2 u2)] 0 s;refine kat_cons (wpAny_eqBool_int ?_)
 by_cases z:p.1=q.1
 ·rw[z,beq_self_eq_true];refine kat_yes (kat_cons (wpAny_eqBool_int ?_))
  by_cases z2:p.2=q.2
  ·rw[z2,beq_self_eq_true];refine kat_yes (kat_nil ?_);have:lexlt p q=false:=by rw[lexlt_false];exact(Js 0x863004a700488188a9080a9) z z2
   rw[this]at hC;exact hC
  ·rw[beq_eq_false_iff_ne.mpr z2];refine kat_no (kat_one _ _ (PySem.P.lt_int ?_));have:lexlt p q=decide (p.2<q.2):=by simp[lexlt,z]
   rw[this]at hC;exact hC
 ·rw[beq_eq_false_iff_ne.mpr z];refine kat_no (oneLt_int ?_);have:lexlt p q=decide (p.1<q.1):=by simp[lexlt,z]
  rw[this]at hC;exact hC
end
section
variable {X:XP} {A:Around} {env:Env} {C:Cx} {σ:X0} {ρ:Rho} {s:Shared}
theorem Z44{h:Heap}:∀{vs:List Value} {ps:List (Int×Int)},VRs h vs (ps.map pv)->∃fs,KatTups h vs fs/\fs.length=ps.length/\∀v∈fs,∃i t,v=Value.int i t
 | vs,[],r=>by obtain rfl:=r.nilI;exact⟨[],trivial,rfl,fun v hv=>(nomatch hv)⟩
 | vs,p::ps,r=>by
  obtain⟨_,_,rfl,r1,r2⟩:=r.consI;obtain⟨fs,k,l,f⟩:=Z44 r2;obtain⟨a,t,u,n,rfl,e⟩:=r1.pv_at;refine⟨.int p.1 t::fs,⟨⟨a,_,_,n,rfl,e,rfl,rfl,rfl⟩,k⟩,by simp[l],fun v hv=>?_⟩;rcases List.mem_cons.mp hv with rfl|hv
  ·exact⟨_,_,rfl⟩
  ·exact f v hv
end
section
variable {X:XP} {A:Around} {env:Env} {C:Cx} {σ:X0} {ρ:Rho} {s:Shared}
theorem X1.minPairs{l:Addr}{ps:List (Int×Int)}{Q:pV}(hh:A.handled=none)(hu:A.units+1<cLine)(hl:X8 C σ l (ps.map pv))(hne:0<ps.length)(h:∀p,p∈ps->(∀q∈ps,lexlt q p=false)->Q (pv p) σ) :
  X1 C A (.builtin "min") [.ref l] σ Q X:=by
 intro s vs S r;obtain⟨_,rfl,r1⟩:=r.one;obtain rfl:=r1.refI;obtain⟨items,il,rl⟩:=hl.raw S;have el:=rl.length;simp only[Array.length_toList,length_map]at el;have at_:∀(i:Nat) (v:Value) (p:Int×Int),items[i]?=some v->ps[i]?=some p->VR s.heap v (pv p):=fun i v p hv hp=>by
  obtain⟨u,hu',ru⟩:=rl.get (i:=i) (y:=pv p) (by simp[hp]);have:u=v:=by simpa [hv] using hu'.symm
  exact this▸ru
 refine Z2K hh hu il el hne (fun i v p hv hp=>(at_ i v p hv hp).pv_at) fun v p h' tk ⟨i,hi,hv,hp⟩ hmin kp=>?_;exact⟨pv p,σ,h p (List.mem_of_getElem? hp) hmin,(at_ i v p hv hp).mono fun z z z e=>kp _ _ e,S.ext kp,.ext kp⟩
theorem Rho.gp_miss4{x1 x2 x3 x4 y:Str}{v1 v2 v3 v4:V}{u:Option V}{r:Rho}(h1:y≠x1)(h2:y≠x2)(h3:y≠x3)(h4:y≠x4)(k:Rho.get r y=u):Rho.get (Rho.put (Rho.put (Rho.put (Rho.put r x1 v1) x2 v2) x3 v3) x4 v4) y=u:=
 Rho.gp_miss h4 (Rho.gp_miss h3 (Rho.gp_miss h2 (Rho.gp_miss h1 k)))
noncomputable def Xl(C:Cx)(x:V)(name:Str)(σ1:X0)(Q:pV):Prop:=∃a c dx es y attr,x=.ref a/\σ1 a=some (.inst c dx)/\σ1 dx=some (.sd es)/\sget es name=some y/\plainGet C.K c name=true/\hasDictIn C.K c=true/\
   findIn C.K (.ref c) name=some attr/\noGet C.K attr=true/\(∀i,y≠.blt i)/\Q y σ1
theorem Ev.attr'{o:Expr}{name:Str}{pos:Pos}{Q:pV}(h:Ev C A env o ρ σ (fun x σ1=>Xl C x name σ1 Q) X)(hbase:attributeBase o name env (eval o env)=eval o env:=by kernel_rfl):Ev C A env (.Attribute o name pos) ρ σ Q X:=Ev.attr h hbase
theorem Xl.mk{a c dx:Addr}{es:List (Str×V)}{y:V}{attr:Option Value}{name:Str}{Q:pV}(h1:σ a=some (.inst c dx))(h2:σ dx=some (.sd es))(h3:sget es name=some y)(k1:plainGet C.K c name=true)(k2:hasDictIn C.K c=true)(k3:findIn C.K (.ref c) name=some attr)(k4:noGet C.K attr=true)(k5:∀i,y≠.blt i)(h:Q y σ):Xl C (.ref a) name σ Q:=by
 revert C σ a c dx es y attr name Q;k_extra "t";intro C σ a c dx es y attr name Q h1 h2 h3 k1 k2 k3 k4 k5 h
 exact(⟨a,c,dx,es,y,attr,rfl,h1,h2,h3,k1,k2,k3,k4,k5,h⟩)
noncomputable def Xj(C:Cx)(A:Around)(env:Env)(pos:Pos)(args:List Expr)(ρ:Rho)(x:V)(name:Str)(σ1:X0)(Q:pV)(X:XP):Prop:=∃a c dx es f,x=.ref a/\σ1 a=some (.inst c dx)/\σ1 dx=some (.sd es)/\sget es name=none/\plainGet C.K c name=true/\
   findIn C.K (.ref c) name=some (some (.ref f))/\isFn C.K (.ref f)=true/\keepIn C.K (.ref f)=true/\Ags C A env pos args ρ σ1 (fun xs σ2=>X1 C A (.ref f) (.ref a::xs) σ2 Q X) X
theorem Ev.meth'{o:Expr}{name:Str}{apos pos:Pos}{args:List Expr}{Q:pV}(h:Ev C A env o ρ σ (fun x σ1=>Xj C A env pos args ρ x name σ1 Q X) X)(he:eval (.Call (.Attribute o name apos) args [] pos) env=(do
   let ov <-eval o env
   standAt apos.atName
   let (f,first) <-holding [ov] (getMethod ov name (do return (<-importBound o env).getD true))
   callWith pos f first (backTo pos (starEach args env)) (backToKw pos (keywordEach [] env))):=by kernel_rfl)(hst:(backTo pos (starEach args env)).any (fun x=>x.1)=false:=by kernel_rfl):Ev C A env (.Call (.Attribute o name apos) args [] pos) ρ σ Q X:=Ev.meth h he hst
theorem Xj.mk{a c dx f:Addr}{es:List (Str×V)}{name:Str}{pos:Pos}{args:List Expr}{Q:pV}(h1:σ a=some (.inst c dx))(h2:σ dx=some (.sd es))(h3:sget es name=none)(k1:plainGet C.K c name=true)(k2:findIn C.K (.ref c) name=some (some (.ref f)))(k3:isFn C.K (.ref f)=true)(k4:keepIn C.K (.ref f)=true)(h:Ags C A env pos args ρ σ (fun xs σ2=>X1 C A (.ref f) (.ref a::xs) σ2 Q X) X):Xj C A env pos args ρ (.ref a) name σ Q X:=by
 revert X A env C σ ρ a c dx f es name pos args Q;k_extra "l";intro X A env C σ ρ a c dx f es name pos args Q h1 h2 h3 k1 k2 k3 k4 h
 exact(⟨a,c,dx,es,f,rfl,h1,h2,h3,k1,k2,k3,k4,h⟩)
noncomputable def SAttWP(C:Cx)(x:V)(name:Str)(y:V)(σ1:X0)(Q:X0->Prop):Prop:=∃a c dx es,x=.ref a/\σ1 a=some (.inst c dx)/\σ1 dx=some (.sd es)/\es.length<=1000/\
   findIn C.K (.ref c) "__setattr__" = some (some (.builtin "object.__setattr__"))/\plainOver C.K c=true/\takerIn C.K c name=some none/\hasDictIn C.K c=true/\Q (σ1.upd dx (.sd (sput es name y)))
theorem Asg.attr'{o:Expr}{name:Str}{pos:Pos}{y:V}{Q:Rho->X0->Prop}(h:Ev C A env o ρ σ (fun x σ1=>SAttWP C x name y σ1 (fun σ2=>Q ρ σ2)) X):Asg C A env (.Attribute o name pos) y ρ σ Q X:=Asg.attr h
theorem SAttWP.mk{a c dx:Addr}{es:List (Str×V)}{y:V}{name:Str}{Q:X0->Prop}(h1:σ a=some (.inst c dx))(h2:σ dx=some (.sd es))(h3:es.length<=1000)(k1:findIn C.K (.ref c) "__setattr__" = some (some (.builtin "object.__setattr__")))(k2:plainOver C.K c=true)(k3:takerIn C.K c name=some none)(k4:hasDictIn C.K c=true){es':List (Str×V)}(hp:sput es name y=es')(h:Q (σ.upd dx (.sd es'))):SAttWP C (.ref a) name y σ Q:=
 ⟨a,c,dx,es,rfl,h1,h2,h3,k1,k2,k3,k4,hp▸h⟩
theorem Z5V{x:Str}{v:V}:sput [] x v=[(x,v)]:=rfl
theorem Z5W{x:Str}{u v:V}{r:List (Str×V)}:sput ((x,u)::r) x v=(x,v)::r:=by simp[sput]
theorem Z4Z{x y:Str}{u v:V}{r r':List (Str×V)}(h:x≠y)(k:sput r x v=r'):sput ((y,u)::r) x v=(y,u)::r':=by simp[sput,h,k]
theorem Z5X{x:Str}:sget [] x=none:=rfl
noncomputable def Xz(C:Cx)(A:Around)(f:Value)(args:List V)(σ:X0)(Q:pV):Prop:=
 ∀s vs,St C σ s->VRs s.heap vs args->codeAny C.M A (.call f ⟨vs,[]⟩) (fun r s'=>match r with|.ok (.ret v)=>EP C σ s.heap Q v s'|_=>False) s
theorem Xz.fn{f:Addr}{o:Obj}{fd:FuncData}{body:List Stmt}{names:List Str}{args:List V}{Q:pV}(ho:C.h₀.get? f=some o)(hd:o.data=.func fd)(hlim:C.h₀.NoLimit)(hcd:C.h₀.CodeRec fd.code fd.qualname)(hbody:fd.body=.stmts body)(hbind:∀vals:List Value,vals.length=args.length->bindArgs fd ⟨vals,[]⟩=pure (names.zip vals))(hclo:fd.closure=[])(nd:names.Nodup)(hkind:∀x∈names,fd.scope.names.lookup x=some .local\/(fd.scope.names.lookup x=some .cell/\∀L,((cellsFrom L fd.scope.names []).lookup x).isSome=true))(hroom:A.depth<recursionLimit)(hsc:Zd fd.scope=true)(hco:fd.scope.isCoroutine=false)(hgen:fd.scope.isGenerator=false)(hk:fd.scope.kind=.function)(h:∀L,Exs C (A.deeper (callEnvC fd L f)) (callEnvC fd L f) body (names.zip args) σ (fun g u σ'=>Q g.val σ') (fun u u=>False)):Xz C A (.ref f) args σ Q:=by
 revert A C σ f o fd body names args Q;k_extra "t";intro A C σ f o fd body names args Q ho hd hlim hcd hbody hbind hclo nd hkind hroom hsc hco hgen hk h
 intro s vs S r;have hk':∀b o,C.h₀.get? b=some o->s.heap.get? b=some o:=S.base;refine codeAny_call_cells (fd:=fd) hroom (hk' _ _ ho) hd (hlim.keeps hk') (hcd.keeps hk') hbody (hbind vs r.length) hclo ?_ (fun s₁ x=>?_) hco hgen hk
 ·intro y hy;rcases hkind y.1 (List.of_mem_zip hy).1 with q|⟨q,q'⟩
  ·exact .inl q
  ·exact .inr ⟨q,q' _⟩
 ·obtain⟨S₁,F₁,keep⟩:=S.callee r nd hk hsc x;refine wM (h s.heap.objs.size s₁ S₁ F₁) (fun fl s' z=>?_) (fun u u z=>z.elim);have y:=EP.ret S keep (fun n c hc=>x.above n c (mem_of_lookup hc)) z
  cases fl<;>exact y
theorem Xz.def{f:Addr}{name qual:Str}{params:Arguments}{body:List Stmt}{scope:Scope}{dV kV doc pm cdv ct oc:Value}{an od:Option Addr}{osl:Array (Option Value)}(names:List Str){args:List V}{Q:pV}(ho:C.K.lookup f=some ⟨oc,od,.func (fnOf name qual params body scope dV kV doc pm an cdv ct),osl⟩)(hcd:codeIn C.K cdv qual=true)(hroom:A.depth<recursionLimit)(hbind:∀vals:List Value,vals.length=args.length->bindArgs (fnOf name qual params body scope dV kV doc pm an cdv ct) ⟨vals,[]⟩=pure (names.zip vals))(nd:names.Nodup)(hkind:(names.all fun y=>scope.names.lookup y==some .local||scope.names.lookup y==some .cell)=true)(hsc:Zd scope=true)(hco:scope.isCoroutine=false)(hgen:scope.isGenerator=false)(hk:scope.kind=.function)(h:∀L A',A'.handled=A.handled->A'.depth=A.depth+1->A'.units=A.units+3->Exs C A' (fE scope qual f cdv L) body (names.zip args) σ (fun g z σ'=>Q g.val σ') (fun z z=>False)) :
  Xz C A (.ref f) args σ Q:=by
 refine Xz.fn (C.KX _ _ ho) rfl C.lim (codeRec_of C.KX hcd) rfl hbind rfl nd (fun x hx=>?_) hroom hsc hco hgen hk (fun L=>h L _ rfl rfl rfl);have:=List.all_eq_true.mp hkind x hx;rcases Bool.or_eq_true_iff.mp this with q|q
 ·exact .inl (by simpa using q)
 ·have q':scope.names.lookup x=some .cell:=by simpa using q
  exact .inr ⟨q',fun L=>cellsFrom_some _ _ _ (.inl q')⟩
theorem Xz.def1(x1:Str){f:Addr}{name qual:Str}{params:Arguments}{body:List Stmt}{scope:Scope}{dV kV doc pm cdv ct oc:Value}{an od:Option Addr}{osl:Array (Option Value)}{v1:V}{Q:pV}(ho:C.K.lookup f=some ⟨oc,od,.func (fnOf name qual params body scope dV kV doc pm an cdv ct),osl⟩)(hcd:codeIn C.K cdv qual=true)(hroom:A.depth<recursionLimit)(hbind:∀u1:Value,bindArgs (fnOf name qual params body scope dV kV doc pm an cdv ct) ⟨[u1],[]⟩=pure [(x1,u1)])(nd:([x1]:List Str).Nodup)(hkind:(([x1]:List Str).all fun y=>scope.names.lookup y==some .local||scope.names.lookup y==some .cell)=true)(hsc:Zd scope=true)(hco:scope.isCoroutine=false)(hgen:scope.isGenerator=false)(hk:scope.kind=.function)(h:∀L A',A'.handled=A.handled->A'.depth=A.depth+1->A'.units=A.units+3->Exs C A' (fE scope qual f cdv L) body [(x1,v1)] σ (fun g z σ'=>Q g.val σ') (fun z z=>False)) :
  Xz C A (.ref f) [v1] σ Q:=
 Xz.def [x1] (args:=[v1]) ho hcd hroom (fun vals hl=>by obtain⟨u1,t1,rfl,h1⟩:=lenS hl;obtain rfl:=List.eq_nil_of_length_eq_zero h1;exact hbind u1) nd hkind hsc hco hgen hk h
theorem Xz.def3(x1 x2 x3:Str){f:Addr}{name qual:Str}{params:Arguments}{body:List Stmt}{scope:Scope}{dV kV doc pm cdv ct oc:Value}{an od:Option Addr}{osl:Array (Option Value)}{v1 v2 v3:V}{Q:pV}(ho:C.K.lookup f=some ⟨oc,od,.func (fnOf name qual params body scope dV kV doc pm an cdv ct),osl⟩)(hcd:codeIn C.K cdv qual=true)(hroom:A.depth<recursionLimit)(hbind:∀u1 u2 u3:Value,bindArgs (fnOf name qual params body scope dV kV doc pm an cdv ct) ⟨[u1,u2,u3],[]⟩=pure [(x1,u1),(x2,u2),(x3,u3)])(nd:([x1,x2,x3]:List Str).Nodup)(hkind:(([x1,x2,x3]:List Str).all fun y=>scope.names.lookup y==some .local||scope.names.lookup y==some .cell)=true)(hsc:Zd scope=true)(hco:scope.isCoroutine=false)(hgen:scope.isGenerator=false)(hk:scope.kind=.function)(h:∀L A',A'.handled=A.handled->A'.depth=A.depth+1->A'.units=A.units+3->Exs C A' (fE scope qual f cdv L) body [(x1,v1),(x2,v2),(x3,v3)] σ (fun g z σ'=>Q g.val σ') (fun z z=>False)) :
  Xz C A (.ref f) [v1,v2,v3] σ Q:=
 Xz.def [x1,x2,x3] (args:=[v1,v2,v3]) ho hcd hroom (fun vals hl=>by obtain⟨u1,t1,rfl,h1⟩:=lenS hl;obtain⟨u2,t2,rfl,h2⟩:=lenS h1;obtain⟨u3,t3,rfl,h3⟩:=lenS h2;obtain rfl:=List.eq_nil_of_length_eq_zero h3;exact hbind u1 u2 u3) nd hkind hsc hco hgen hk h
theorem X1.cls{c fI:Addr}{args:List V}{Q:pV}(hm:makesIn C.K c=true)(hi:findIn C.K (.ref c) "__init__" = some (some (.ref fI)))(hf:typeIn C.K (.ref fI)=some (.type "function"))(h:∀a dx A',σ a=none->σ dx=none->a≠dx->A'.handled=A.handled->A'.depth=A.depth+1->A'.units<=A.units+2->Xz C A' (.ref fI) (.ref a::args) ((σ.upd dx (.sd [])).upd a (.inst c dx)) (fun v σ'=>v=.none/\Q (.ref a) σ')) :
  X1 C A (.ref c) args σ Q X:=by
 intro s vs S r;obtain⟨hh,g,d,t,os⟩:=s;refine wpAny_call ?_;obtain⟨S2,e2⟩:=S.new (t:=t) (x:=emptyDict) (o:=.sd []) ⟨[],Heap.DictOf.new _,.nil⟩;have hsz:=Z2Q hh emptyDict;obtain⟨S3,e3⟩:=S2.new (t:=t) (x:=instObj c hh.objs.size) (o:=.inst c hh.objs.size) (Heap.get?_push_size _ rfl);dsimp only at S3 e3 hsz;rw[hsz]at S3 e3;have hne:hh.objs.size+1≠hh.objs.size:=Nat.succ_ne_self _;have hfr:σ (hh.objs.size+1)=none:=S.fresh' (Nat.le_succ _);refine make_core (makes_of S.K hm) (looks_findIn S.K hi) (fun self=>bind_fn S.K self hf) (.inl rfl) ?_;refine codeAny_mono (h (hh.objs.size+1) hh.objs.size (A.under (.builtin "type.__call__" ⟨.ref c::vs,[]⟩)) hfr S.fresh hne rfl rfl (Nat.add_le_add_left (show(Code.builtin "type.__call__" ⟨.ref c::vs,[]⟩).cUnits<=2 from Nat.le_of_ble_eq_true rfl) _) _ (.ref (hh.objs.size+1)::vs) S3 (.cons (.ref _) (r.mono (e2.trans e3).tup))) ?_;rintro(e|f) s' z
 ·exact z.elim
 ·cases f<;>first|exact False.elim z|skip
  obtain⟨x,σ',⟨rfl,q⟩,rv,S',e'⟩:=z
  cases rv
  exact⟨rfl,.ref _,σ',q,.ref _,S',(e2.trans e3).trans e'⟩
theorem Z1n{α:Type}(xs:List α):∀(k n:Nat),k+n<=xs.length->((List.range n).map fun i=>k+i).filterMap (xs[·]?)=(xs.drop k).take n
 | k,0,_=>by simp
 | k,n+1,h=>by
  have hk:k<xs.length:=by exact(Nr 0x100220e03605809) h
  have ih:=Z1n xs (k+1) n (by exact Y5t h);rw[List.range_succ_eq_map,map_cons,map_map,List.filterMap_cons];have e0:xs[k+0]?=some xs[k]:=by simp[hk]
  rw[e0];have e1:(List.range n).map ((fun i=>k+i)∘Nat.succ)=(List.range n).map fun i=>k+1+i:=List.map_congr_left fun i z=>by simp only[Function.comp];exact Y5u
  rw[e1,ih,List.drop_eq_getElem_cons hk,List.take_succ_cons]
theorem Z3p{α:Type}(xs:List α)(k:Nat)(h:k<=xs.length):Zs xs (some (k:Int)) none=xs.drop k:=by
 unfold Zs;have e:sliceBounds (some (k:Int)) none none xs.length=(((k:Nat):Int),((xs.length:Nat):Int),1):=by
  simp only[sliceBounds,Option.getD_none];have:¬((k:Int)<0):=by exact Y5v
  simp[this];exact Y5w h
 rw[e];simp only;rw[sliceRange_one,Z1n xs k (xs.length-k) (by exact Y5x h)];exact take_of_length_le (by simp)
theorem PR.without{K:Type}[DecidableEq K]{h:Heap}{x:K}:∀{kvs:List (K×Value)} {es:List (K×V)},PR h kvs es->PR h (without kvs x) (es.filter fun p=>!decide (p.1=x))
 | _,_,.nil=>.nil
 | _,_,.cons (k:=k) r rs=>by
  have ih:=PR.without (x:=x) rs;unfold PySem.without at ih ⊢;simp only[ne_eq,decide_not]at ih ⊢
  by_cases q:k=x
  ·subst q;simpa using ih
  ·simp only[List.filter_cons,q,decide_false,Bool.not_false,if_true];exact .cons r ih
end
end Mine.Internal
set_option maxHeartbeats 4000000
namespace Mine.Internal
open PySem PySem.W PySem.SeqAt PyProof.Rows PySem.Calls
noncomputable def Xp(h:Heap)(c:Addr)(q:Str):Prop:=∃o vs t,h.get? c=some o/\o.cls=.type "code" /\o.data=.fields vs/\vs[1]?=some (.str q t)
theorem Xp.mono{h h':Heap}{c:Addr}{q:Str}(x:Xp h c q)(k:X7 h h'):Xp h' c q:=
 let ⟨o,vs,t,e,h1,h2,h3⟩:=x;⟨o,vs,t,k _ _ (.inr (.inr ⟨h1,vs,h2⟩)) e,h1,h2,h3⟩
theorem Xp.rec'{h:Heap}{c:Addr}{q:Str}(x:Xp h c q):h.CodeRec (.ref c) q:=
 let ⟨o,vs,t,e,h1,h2,h3⟩:=x;⟨c,o,vs,t,rfl,e,h2,h3⟩
noncomputable def LamAt(h:Heap)(f:Addr)(params:Arguments)(body:Expr)(scope:Scope)(clos:List (Str×Addr))(q:Str):Prop:=
 ∃pm c' ctv,h.get? f=some (kla_obj "<lambda>" q params body scope clos pm c' ctv)/\Xp h c' q
noncomputable def BMod(C:Cx):Prop:=∃bm ob,C.mg "__builtins__" = some (.ref bm)/\bm≠builtinsNs/\C.h₀.get? bm=some ob/\ob.cls=.type "module" /\ob.dict=some builtinsNs/\ob.data=.plain
section
variable {X:XP} {A:Around} {env:Env} {C:Cx} {σ:X0} {ρ:Rho} {s:Shared}
theorem LamAt.evo{σ':X0}{h h':Heap}{f:Addr}{params:Arguments}{body:Expr}{scope:Scope}{clos:List (Str×Addr)}{q:Str}(x:LamAt h f params body scope clos q)(e:Evo σ h σ' h')(hf:σ f=none):LamAt h' f params body scope clos q:=
 let ⟨pm,c',ctv,ho,hc⟩:=x;⟨pm,c',ctv,(e.keep _ _ ho hf).exact fun u u z=>(by cases z),hc.mono e.tup⟩
theorem Z5Y{E:XP}{c P:Addr}{params:Arguments}{body:Expr}{lsc:Scope}{lpos:Pos}{fl:Nat}{clos:List (Str×Addr)}{q:Str}{Q:pS}(S:St C σ s)(hcode:env.code=.ref c)(hg0:env.globals=mainGlobals)(hcl:closureFor lsc env=pure clos)(Cd:CodeHd C.h₀ c P)(hP:σ P=some (.tab lpos q))(hB:BMod C)(h:∀f s2,St C σ s2->Evo σ s.heap σ s2.heap->σ f=none->LamAt s2.heap f params body lsc clos q->Q (.ref f) s2) :
  wpAny C.M A (makeFunction "<lambda>" q params (.expr body) lsc env [] [] [] lpos fl) Q E s:=by
 revert A env C σ s E c P params body lsc lpos fl clos q Q;k_extra "l";intro A env C σ s E c P params body lsc lpos fl clos q;k_extra "r";intro Q S hcode hg0 hcl Cd hP hB h
 have hg:s.heap.Ns mainGlobals C.mg:=C.hg.keeps S.base;have Cs:=Cd.keeps S.base;obtain⟨bm,ob,b1,b2,b3,b4,b5,b6⟩:=hB;have hPb:C.h₀.get? P=none:=(S.above _ _ hP).1;have hbP:bm≠P:=fun z=>by rw[z,hPb]at b3;cases b3
 have hbG:bm≠mainGlobals:=fun z=>by
  obtain⟨o,es,ep,e,hd,_⟩:=C.hg;rw[z,e]at b3;cases b3;rw[hd]at b6;cases b6
 have hgP:mainGlobals≠P:=fun z=>by
  obtain⟨o,es,ep,e,hd,_⟩:=C.hg;rw[z,hPb]at e;cases e
 have hbs:=S.base _ _ b3;rcases S.rep _ _ hP with e|⟨c',o,vs,t,e,e2,h1,h2,h3⟩
 ·have fin:∀c' ctv h' tk,Heap.ExtBut P s.heap h'->s.heap.objs.size<=c'->Xp h' c' q->h'.get? P=some (tabObj (#[]++#[rawInt lpos.line,rawInt lpos.col,.ref c']))->
    Q (.ref h'.objs.size) { s with heap:=h'.push (kla_obj "<lambda>" q params body lsc clos ((C.mg "__name__").getD .none) c' ctv),toks:=tk }:=fun c' ctv h' tk hx hge hc hp=>by
   have kp:∀b o,¬b=P->s.heap.get? b=some o->h'.get? b=some o:=fun b o z w=>hx b o z w;have nt:∀b o,b=P->s.heap.get? b=some o->¬Imm o:=fun b o z=>by subst z;exact(S.rep _ _ hP).notTup o
   have tk':X7 s.heap h':=Zw (ow:=fun b=>b=P) kp nt;have S1:St C σ { s with heap:=h',toks:=tk }:=by
    refine⟨fun b o w=>kp b o (fun z=>by rw[z,hPb]at w;cases w) (S.base b o w),fun a o w=>?_,S.above,S.gens,S.os⟩
    by_cases z:a=P
    ·subst z;rw[hP]at w;cases w;obtain⟨oc,vs,t,z1,z2,z3,z4⟩:=hc;exact .inr ⟨c',oc,vs,t,by simpa using hp,z1,z2,z3,z4⟩
    ·exact(S.rep a o w).at (fun x hx'=>kp a x z hx') tk'
   have e1:Evo σ s.heap σ h':=⟨fun b o w n=>.inl (kp b o (fun z=>by rw[z,hP]at n;cases n) w),fun b o w=>.inl ⟨o,w⟩,fun b o w=>⟨o,w⟩,tk'⟩;have hsz:s.heap.objs.size<=h'.objs.size:=by
    have:c'<h'.objs.size:=by obtain⟨oc,_,_,z1,_⟩:=hc;exact Heap.lt_size z1
    exact Nat.le_trans hge (Nat.le_of_lt this)
   exact h _ _ S1.push (e1.trans .push) (S.fresh' hsz) ⟨_,c',ctv,Heap.get?_push_size _ rfl,hc.mono fun u u u w=>Heap.get?_push_of_some _ w⟩
  have codeAt:∀{h':Heap} {c' P':Addr},h'.CodeRec (.ref c') q->h'.TableAt c' P' #[]->Xp h' c' q:=fun{h' c' P'} hr ht=>by
   obtain⟨_,oc,vs,t,z,z1,z2,z3⟩:=hr
   cases z
   obtain⟨⟨o',vs',y1,y2,_⟩,_⟩:=ht;rw[z1]at y1;cases y1;exact⟨_,vs,t,z1,y2,z2,z3⟩
  rw[makeFunction_eq];simp only[List.zip_nil_right,List.filterMap_nil,List.isEmpty_nil,if_true,pure_bind];unfold makeTail;rw[hcl,hg0];refine wB (wP ?_)
  cases clos with
  | nil=>
   simp only[List.isEmpty_nil,if_true];refine wB (wP ?_);refine wB (wpAny_functionCodeX hcode (Cs.code e trivial) (Cs.tab e) rfl fun c' h' tk hx hge hlt u hrec htb hnew=>?_);have hg':=hg.extBut hx hgP;refine wB (wpAny_builtinsFor hg' b1 b2 (hx _ _ hbP hbs) b4 b5 b6 ?_);refine wB (wpAny_nsGet hg' ?_);obtain⟨P',_,_,ht'⟩:=hnew;exact wB (wP (wpAny_newObj_type (fin c' .none h' tk hx hge (codeAt hrec ht') htb.2) (by size_fits)))
  | cons q0 r=>
   simp only[List.isEmpty_cons,Bool.false_eq_true,if_false];refine wB (wpAny_newTextTuple ?_);refine wB (wpAny_functionCodeX hcode ((Cs.keeps fun b o e=>Heap.get?_push_of_some _ e).code (Heap.get?_push_of_some _ e) trivial) ((Cs.keeps fun b o e=>Heap.get?_push_of_some _ e).tab (Heap.get?_push_of_some _ e)) rfl fun c' h' tk hx hge hlt u hrec htb hnew=>?_);have hg':=(hg.push _).extBut hx hgP;have hx':Heap.ExtBut P s.heap h':=fun b o hb' e=>hx b o hb' (Heap.get?_push_of_some _ e);have hge':s.heap.objs.size<=c':=Nat.le_trans (by rw[Heap.size_push];exact Y3b) hge;refine wB (wpAny_builtinsFor hg' b1 b2 (hx' _ _ hbP hbs) b4 b5 b6 ?_);refine wB (wpAny_nsGet hg' ?_);obtain⟨P',_,_,ht'⟩:=hnew;exact wB (wP (wpAny_newObj_type (fin c' _ h' tk hx' hge' (codeAt hrec ht') htb.2) (by size_fits)))
 ·refine kla_makeFunctionHit (mg:=C.mg) (cv:=.ref c') hcl hg0 hg hcode Cs e (by simp[TriplesOk,rawInt]) (by simp[codeAmong,rawInt]) ⟨bm,ob,b1,b2,hbG,hbP,hbs,b4,b5,b6⟩ fun ctv h' tk hk hsz=>?_;have S1:St C σ { s with heap:=h',toks:=tk }:=S.ext hk;exact h _ _ S1.push ((Evo.ext hk).trans .push) (S.fresh' hsz) ⟨_,c',ctv,Heap.get?_push_size _ rfl,o,vs,t,Heap.get?_push_of_some _ (hk _ _ e2),h1,h2,h3⟩
noncomputable def Z6p(scope:Scope):Bool:=scope.names.all fun p=>p.2 != .cell&&(p.2 != .free||scope.names.lookup p.1==some .free)
theorem Z5Z{params:Arguments}{body:Expr}{lsc:Scope}{q pn:Str}{f:Addr}{v:Value}{x:V}{ρc:Rho}{E:XP}{Q:pV}(S:St C σ s)(F:Fm C σ s.heap env ρ)(hf:LamAt s.heap f params body lsc (clOf env.cells lsc.names []) q)(rv:VR s.heap v x)(hroom:A.depth<recursionLimit)(hbind:∀pm cdv ctv,bindArgs (kla_fn "<lambda>" q params body lsc (clOf env.cells lsc.names []) pm cdv ctv) ⟨[v],[]⟩=pure [(pn,v)])(hco:lsc.isCoroutine=false)(hgen:lsc.isGenerator=false)(hk:lsc.kind=.function)(hpn:lsc.names.lookup pn=some .local)(hok:Z6p lsc=true)(hfree:(lsc.names.all fun p=>p.2 != .free||(env.cells.lookup p.1).isSome)=true)(cap:Xo ρ lsc.names ρc)(h:∀L' cdv A',A'.handled=A.handled->A'.units<=A.units+3->Ev C A' (mkE lsc L' (clOf env.cells lsc.names []) (q++".<locals>.") (some f) cdv (some L')) body ((pn,x)::ρc) σ Q (fun u u=>False)) :
  wpAny C.M A (call (.ref f) [v]) (EP C σ s.heap Q) E s:=by
 revert A env C σ ρ s params body lsc q pn f v x ρc E Q;k_extra "l";intro A env C σ ρ s params body lsc q pn f v x ρc;k_extra "n";intro E Q S F hf rv hroom hbind hco hgen hk hpn hok hfree cap h
 have names_of:∀p∈lsc.names,p.2≠.cell/\(p.2=.free->lsc.names.lookup p.1=some .free):=fun p hp=>by
  have:=List.all_eq_true.mp hok p hp;simp only[Bool.and_eq_true,bne_iff_ne,ne_eq,Bool.or_eq_true,beq_iff_eq]at this;refine⟨this.1,fun e=>?_⟩;rcases this.2 with z|z
  ·exact absurd e z
  ·exact z
 have cl_of:∀y c,(clOf env.cells lsc.names []).lookup y=some c->env.cells.lookup y=some c/\lsc.names.lookup y=some .free:=fun y c hy=>by
  rcases Z1l (mem_of_lookup hy) with z|⟨z,e⟩
  ·cases z
  ·have h1:=List.all_eq_true.mp hfree _ z;have h2:(env.cells.lookup y).isSome=true:=by simpa using h1
   obtain⟨c',hc'⟩:=Option.isSome_iff_exists.mp h2;rw[hc']at e;exact⟨by rw[hc',e];rfl,(names_of _ z).2 rfl⟩
 obtain⟨pm,c',ctv,ho,hcd⟩:=hf;refine wpAny_call (kla_callFunE hroom ho rfl hco hgen rfl hcd.rec' ?_);rw[hbind];refine wP (wpAny_newFunctionEnv (fun p hp=>(names_of p hp).1) (fun y hy=>by rw[List.mem_singleton.mp hy];exact hpn) (fun h₁ hns hsb=>⟨((C.lim).keeps S.base).fresh _ hsb,?_⟩) hk);have kp:∀b o,s.heap.get? b=some o->h₁.get? b=some o:=fun b o e=>hsb.extBut b o (Nat.ne_of_lt (Heap.lt_size e)) (Heap.get?_push_of_some _ e);have e1:Evo σ s.heap σ h₁:=.ext kp;have F1:=F.evo e1;have F2:Fm C σ h₁ (mkE lsc s.heap.objs.size (clOf env.cells lsc.names []) (q++".<locals>.") (some f) (.ref c') (some s.heap.objs.size)) ((pn,x)::ρc):=by
  refine⟨hk,⟨_,hns,fun y w hy hw=>?_⟩,S.fresh,S.size,fun y c hy=>?_,fun y c hy=>?_,fun y z c hy hz=>?_⟩
  ·have hw':(if y=pn then some x else Rho.get ρc y)=some w:=hw
   by_cases z:y=pn
   ·subst z;rw[if_pos rfl]at hw';cases hw';exact⟨v,by simp[List.lookup],rv.mono e1.tup⟩
   ·rw[if_neg z]at hw';have h1:=(names_of _ (cap.get hw').2).2 rfl;have h2:lsc.names.lookup y=some .local:=hy;rw[h1]at h2;cases h2
  ·obtain⟨h1,h2⟩:=cl_of y c hy;obtain⟨ov,a,b⟩:=F1.cell y c h1;refine⟨ov,a,fun w hw=>?_⟩;have hw':(if y=pn then some x else Rho.get ρc y)=some w:=hw
   by_cases z:y=pn
   ·rw[z,hpn]at h2;cases h2
   ·rw[if_neg z]at hw';exact b w (cap.get hw').1
  ·obtain⟨h1,_⟩:=cl_of y c hy;obtain⟨n1,n2,n3⟩:=F.ncell y c h1;obtain⟨ov,a,b⟩:=F.cell y c h1;exact⟨n1,Nat.ne_of_lt a.lt,n3⟩
  ·exact F.apart y z c (cl_of y c hy).1 (cl_of z c hz).1
 refine kla_codeExpr (wM (h s.heap.objs.size (.ref c') (A.deeper (mkE lsc s.heap.objs.size (clOf env.cells lsc.names []) (q++".<locals>.") (some f) (.ref c') (some s.heap.objs.size))) rfl (Nat.le_refl _) { s with heap:=h₁,toks:=s.toks+1 } (S.ext (t:=s.toks+1) kp) F2) (fun w s' z=>?_) fun u u z=>z.elim);exact z.after e1
theorem Z3q{ks:List Int}{vs:List Value}(h:IntsAre vs ks){i:Nat}(hi:i<vs.length):∃t,vs.getD i Value.none=.int (ks.getD i 0) t:=by
 induction h generalizing i with
 | nil=>simp at hi
 | cons a u r ih=>
  cases i with
  | zero=>exact⟨u,rfl⟩
  | succ i=>simpa using ih (i:=i) (by simpa using hi)
set_option tactic.hygienic true in
theorem Z4x{l f:Addr}{xs:List V}{key:V->Int}{params:Arguments}{body:Expr}{lsc:Scope}{clos:List (Str×Addr)}{q:Str}{Q:pV}(S:St C σ s)(F:Fm C σ s.heap env ρ)(hl:X8 C σ l xs)(h64:xs.length<64)(hfn:σ f=none)(hL:LamAt s.heap f params body lsc clos q)(turn:∀x∈xs,∀s2 v,St C σ s2->Fm C σ s2.heap env ρ->LamAt s2.heap f params body lsc clos q->VR s2.heap v x->wpAny C.M A.in1.in1 (call (.ref f) [v]) (EP C σ s2.heap (fun k σ3=>σ3=σ/\k=.int (key x))) (fun r r=>False) s2)(h:∀(a:Addr) (p:List Nat),σ a=none->p.Perm (List.range xs.length)->p.Pairwise (slt fun i j=>decide (key (xs.getD i .none)<key (xs.getD j .none)))->Q (.ref a) (σ.upd a (.list (p.map fun i=>xs.getD i .none)))) :
  wpAny C.M A (call (.builtin "sorted") [.ref l] [(ofString "key",.ref f)]) (EP C σ s.heap Q) X s:=by
 revert X A env C σ ρ s l f xs key params body lsc clos q Q;k_extra "l";intro X A env C σ ρ s l f xs key params body lsc clos;k_extra "n";intro q Q S F hl h64 hfn hL turn h
 obtain⟨⟨vs⟩,il,rl⟩:=hl.raw S;simp only at rl;have el:=rl.length;refine call_function_entry_kw kind_sorted plain_sorted entry_sorted (ksk_s1 _ _) ?_;unfold Builtin.«sorted»;refine wB (m:=checkCount "sorted" 1 1 _) (wP ?_);refine wB (collect_list il ?_ (by rw[sizeLine_eq];exact Y5z h64 el));refine wB (wpAny_newList ?_ (by rw[sizeLine_eq];exact Y5z h64 el));have hsz:((s.heap.push (seqObj "list" #[] 0)).update s.heap.objs.size (Obj.mapSeq (·++vs.toArray))).objs.size=s.heap.objs.size+1:=by
  rw[Heap.size_update,size_push']
 generalize hH:((s.heap.push (seqObj "list" #[] 0)).update s.heap.objs.size (Obj.mapSeq (·++vs.toArray))).push (seqObj "list" vs.toArray 0)=H;have hHs:H.objs.size=s.heap.objs.size+2:=by rw[<-hH,size_push',hsz]
 have hoL:H.get? (s.heap.objs.size+1)=some (seqObj "list" vs.toArray 0):=by
  rw[<-hH,<-hsz];exact Heap.get?_push_size _ rfl
 have keep:∀b o,s.heap.get? b=some o->H.get? b=some o:=fun b o q=>by
  have hlt:b<s.heap.objs.size:=Heap.lt_size q;rw[<-hH,Heap.get?_push_ne _ _ _ (by rw[hsz];exact Nat.ne_of_lt (Nat.lt_succ_of_lt hlt)),Heap.get?_update_ne _ _ _ _ (Nat.ne_of_lt hlt),Heap.get?_push_ne _ _ _ (Nat.ne_of_lt hlt)];exact q
 have old:∀b o,s.heap.get? b=some o->b≠s.heap.objs.size+1:=fun b o e=>Nat.ne_of_lt (Nat.lt_succ_of_lt (Heap.lt_size e));show wpAny _ _ _ _ _ { s with heap:=H };rw[hsz];generalize hLL:s.heap.objs.size+1=LL at *;have hLsz:s.heap.objs.size<=LL:=by exact(Nq 0x200043805849) hLL
 refine wB (wpAny_holding (wpAny_call_entry_kw slot_list_sort ⟨_,hoL,rfl⟩ entry_list_sort ?_ (ksk_l1 _ _)));rw[ksk_t1];unfold ksk_tree;refine wB (listItems_at hoL rfl ?_);refine wB (listUpdate_at hoL rfl ?_ (by rw[List.size_toArray,sizeLine_eq];exact Y5z h64 el) (Nat.zero_le _));obtain⟨e1,ho1⟩:∃e1,(H.update LL (Obj.mapSeq fun r=>(#[]:Array Value))).get? LL=some (seqObj "list" #[] e1):=⟨_,get?_update_seq hoL fun r=>#[]⟩;refine wB (seqEpoch_at ho1 rfl ?_);refine wB (wpAny_newTuple ?_ (by show vs.length<=_;rw[sizeLine_eq];exact Y5z h64 el));refine wB (wpAny_newList ?_ (Nat.zero_le _));have hks:((H.update LL (Obj.mapSeq fun r=>(#[]:Array Value))).push (seqObj "tuple" vs.toArray 0)).objs.size=s.heap.objs.size+3:=by rw[size_push',Heap.size_update,hHs]
 generalize hG:((H.update LL (Obj.mapSeq fun r=>(#[]:Array Value))).push (seqObj "tuple" vs.toArray 0)).push (seqObj "list" #[] 0)=G;have hGL:G.get? LL=some (seqObj "list" #[] e1):=by rw[<-hG];exact Heap.get?_push_of_some _ (Heap.get?_push_of_some _ ho1)
 have hGk:G.get? (s.heap.objs.size+3)=some (seqObj "list" #[] 0):=by rw[<-hG,<-hks];exact Heap.get?_push_size _ rfl
 have hGo:∀b o,s.heap.get? b=some o->G.get? b=some o:=fun b o e=>by
  rw[<-hG];exact Heap.get?_push_of_some _ (Heap.get?_push_of_some _ ((Heap.get?_update_other _ _ (Ne.symm (old b o e))).trans (keep b o e)))
 refine wpAny_holding ?_;show wpAny _ _ (ksk_rest LL (.ref f) false vs.toArray e1 (.ref _)) _ _ { s with heap:=G };rw[hks];generalize hkS:s.heap.objs.size+3=kS at *;have hKs:s.heap.objs.size<=kS:=by exact(Nq 0x200047805849) hkS
 have hKL:kS≠LL:=by exact(Nr 0x2211843c02c24843805849) hLL hkS
 have hσL:σ LL=none:=S.fresh' hLsz;have hσk:σ kS=none:=S.fresh' hKs;have oldk:∀b o,s.heap.get? b=some o->b≠kS:=fun b o e z=>by have:=Heap.lt_size e;rw[z]at this;exact absurd this (Nat.not_lt.mpr hKs)
 have frk:C.h₀.get? kS=none:=by
  cases z:C.h₀.get? kS with
  | none=>rfl
  | some o=>exact absurd rfl (oldk _ _ (S.base _ _ z))
 have frL:C.h₀.get? LL=none:=by
  cases z:C.h₀.get? LL with
  | none=>rfl
  | some o=>exact absurd rfl (old _ _ (S.base _ _ z))
 unfold ksk_rest;refine wB (wpAny_rule ?_)
 first
  | rw[List.forIn_toArray]
  | (rw[<-Array.forIn_toList];simp only[List.toList_toArray])
  | rw[<-Array.forIn_toList]
 refine wB (ksk_fold (fun i s'=>∃kA e,St C σ s'/\Evo σ s.heap σ s'.heap/\s'.heap.get? LL=some (seqObj "list" #[] e1)/\s'.heap.get? kS=some (seqObj "list" kA e)/\IntsAre kA.toList ((xs.take i).map key)) vs 0 { s with heap:=G }
  ⟨#[],0,S.ext (t:=s.toks) hGo,.ext hGo,hGL,hGk,by simpa using IntsAre.nil⟩ ?step ?done)
 case step=>
  rintro j x s' hx ⟨kA,e,S',E',hL',hk',hI⟩;simp only[Nat.zero_add]at hI ⊢;obtain⟨y,hy,ry⟩:=rl.get' hx;have hzk:kA.size<=64:=by
   have h1:=hI.length;simp only[Array.length_toList,length_map,List.length_take]at h1;exact Y5D h64 h1
  refine wB (wpAny_attempt (wM (turn y (List.mem_of_getElem? hy) s' x S' (F.evo E') (hL.evo E' hfn) (ry.mono E'.tup)) (fun k s'' he=>?_) fun r r hF=>hF.elim));obtain⟨kx,σ3,⟨rfl,rfl⟩,rk,S2,E2⟩:=he
  cases rk
  rename_i tk
  have hL2:=(E2.keep _ _ hL' hσL).exact fun r r z=>(by cases z);have hk2:=(E2.keep _ _ hk' hσk).exact fun r r z=>(by cases z);obtain⟨c2,hc2⟩:∃c2,(s''.heap.update kS (Obj.mapSeq (·.push (Value.int (key y) tk)))).get? kS=some (seqObj "list" (kA.push (.int (key y) tk)) c2):=⟨_,get?_update_seq hk2 (·.push (.int (key y) tk))⟩
  try dsimp only
  refine wB (listUpdate_at hk2 rfl ?_ (by rw[sizeLine_eq];exact(Np 0x80000064000000000040c8009) hzk) (Nat.le_trans (Nat.le_of_eq (Array.size_push ..)) (by rw[sizeLine_eq];exact(Np 0x1c000080000066c1c02c00000000040c8009) hzk)));have kp:∀b o,¬b=kS->s''.heap.get? b=some o->(s''.heap.update kS (Obj.mapSeq (·.push (Value.int (key y) tk)))).get? b=some o:=fun b o z w=>(Heap.get?_update_other _ _ (Ne.symm z)).trans w;have nt:∀b o,b=kS->s''.heap.get? b=some o->¬Imm o:=fun b o z w=>by subst z;rw[hk2]at w;cases w;exact Imm.not (by simp) (by simp) (by simp)
  refine wP ⟨rfl,kA.push (.int (key y) tk),c2,S2.ow (t:=s''.toks) (ow:=fun b=>b=kS) kp nt (fun b z=>z▸hσk) (fun b z=>z▸frk),(E'.trans E2).ow (ow:=fun b=>b=kS) kp (fun b z=>?_),kp _ _ (Ne.symm hKL) hL2,hc2,?_⟩
  ·subst z;exact get?_fresh' hKs
  ·have ea:(kA.push (Value.int (key y) tk)).toList=kA.toList++[Value.int (key y) tk]:=by simp
   rw[ea,List.take_add_one,hy];simpa using ksk_snoc hI
 case done=>
  rintro s' ⟨kA,e,S',E',hL',hk',hI⟩;have hI':IntsAre kA.toList (xs.map key):=by
   rwa [take_of_length_le (by exact(Nq 0xc582008049) el)]at hI
  have hkl:kA.toList.length=vs.length:=by rw[hI'.length,length_map,el]
  have hks2:kA.size=vs.length:=by simpa using hkl
  try dsimp only
  refine wB (listItems_at hk' rfl ?_);have fin:∀(p:List Nat) (st:SortSt),(arrOf st).map (fun x=>x.2)=(p.map fun i=>vs.getD i Value.none).toArray->failedOf st=none->p.Perm (List.range vs.length)->p.Pairwise (slt fun i j=>decide ((xs.map key).getD i 0<(xs.map key).getD j 0))->
    wpAny C.M A.in1.in1 (ksk_tail LL false e1 (.ref kS) st) (fun fin s'=>∃v,fin=.done (.ret v)/\(fun r s'=>wpAny C.M A.in1 (pure (PySem.Fin.done (.ret (.ref LL)))) (fun fin s'=>∃v,fin=.done (.ret v)/\EP C σ s.heap Q v s') X s') v s') X s':=by
   intro p st hout hf hp hs;have hlen:p.length=vs.length:=by simpa using hp.length_eq
   unfold ksk_tail
   try dsimp only
   refine wB (listUpdate_at hk' rfl ?_ (by rw[sizeLine_eq];exact(Nr 0x800000644008849004490000000040c8029) h64 el hks2) (Nat.zero_le _));refine wB (wpAny_letGo ?_);have hL2:(s'.heap.update kS (Obj.mapSeq fun r=>(#[]:Array Value))).get? LL=some (seqObj "list" #[] e1):=(Heap.get?_update_other _ _ hKL).trans hL';refine wB (seqEpoch_at hL2 rfl ?_);rw[hout,hf];simp only[Bool.false_eq_true,if_false,bne_self_eq_false];refine wB (listUpdate_at hL2 rfl ?_ (Nat.zero_le _) (by rw[List.size_toArray,length_map,hlen,sizeLine_eq];exact(Nq 0x380001000000cd820004490000000040c8029) h64 el));refine wP ⟨_,rfl,wP ⟨_,rfl,?_⟩⟩;have kp:∀b o,¬(b=kS\/b=LL)->s'.heap.get? b=some o->((s'.heap.update kS (Obj.mapSeq fun r=>(#[]:Array Value))).update LL (Obj.mapSeq fun r=>(p.map fun i=>vs.getD i Value.none).toArray)).get? b=some o:=fun b o z w=>
    (Heap.get?_update_other _ _ (fun y=>z (.inr y.symm))).trans ((Heap.get?_update_other _ _ (fun y=>z (.inl y.symm))).trans w)
   have nt:∀b o,(b=kS\/b=LL)->s'.heap.get? b=some o->¬Imm o:=fun b o z w=>by
    rcases z with rfl|rfl
    ·rw[hk']at w;cases w;exact Imm.not (by simp) (by simp) (by simp)
    ·rw[hL']at w;cases w;exact Imm.not (by simp) (by simp) (by simp)
   have S3:St C σ { s' with heap:=(s'.heap.update kS (Obj.mapSeq fun r=>(#[]:Array Value))).update LL (Obj.mapSeq fun r=>(p.map fun i=>vs.getD i Value.none).toArray),toks:=s'.toks }:=
    S'.ow (ow:=fun b=>b=kS\/b=LL) kp nt (fun b z=>by rcases z with rfl|rfl<;>assumption) (fun b z=>by rcases z with rfl|rfl<;>assumption)
   have E3:Evo σ s.heap σ ((s'.heap.update kS (Obj.mapSeq fun r=>(#[]:Array Value))).update LL (Obj.mapSeq fun r=>(p.map fun i=>vs.getD i Value.none).toArray)):=E'.ow (ow:=fun b=>b=kS\/b=LL) kp (fun b z=>by
    rcases z with rfl|rfl
    ·exact get?_fresh' hKs
    ·exact get?_fresh' hLsz)
   have bound:∀i∈p,i<vs.length:=fun i hi=>by simpa using hp.mem_iff.mp hi
   have rr:∀u:List Nat,(∀i∈u,i<vs.length)->VRs s.heap (u.map fun i=>vs.getD i Value.none) (u.map fun i=>xs.getD i .none):=fun u=>by
    induction u with
    | nil=>exact fun r=>.nil
    | cons i u ih=>
     intro hb;have hi:i<vs.length:=hb i (.head _);obtain⟨w,hw,rw'⟩:=rl.get (i:=i) (y:=xs.getD i .none) (by have hi':i<xs.length:=(by exact Y5q el hi);simp[hi']);have:w=vs.getD i Value.none:=by simp[hw,List.getD]
     exact .cons (show VR s.heap (vs.getD i Value.none) (xs.getD i .none) from this▸rw') (ih fun j hj=>hb j (.tail _ hj))
   obtain⟨S4,E4⟩:=S3.adopt (a:=LL) (o:=.list (p.map fun i=>xs.getD i .none)) (σ0:=σ) (h0:=s.heap) ⟨_,⟨_,get?_update_seq hL2 fun r=>_⟩,by simpa using(rr p bound).mono E3.tup⟩ (Nat.le_trans S.size hLsz) E3 (get?_fresh' hLsz);refine⟨.ref LL,_,h LL p hσL (el▸hp) (hs.imp_of_mem fun{i j} hi hj z=>?_),.ref _,S4,E4⟩;have g:∀i,i<vs.length->(xs.map key).getD i 0=key (xs.getD i .none):=fun i hi=>by
    have hi':i<xs.length:=by exact Y5q el hi
    simp[hi']
   unfold slt at z ⊢;dsimp only at z ⊢;rw[g i (bound i hi),g j (bound j hj)]at z;exact z
  unfold ksk_end
  try dsimp only
  simp only[Bool.false_eq_true,if_false]
  by_cases h2:vs.toArray.size<2
  ·rw[if_pos h2,if_pos h2];rw[List.size_toArray]at h2;refine wB (wP ?_);rw[StateT.run_pure];refine wB (wP ?_);refine fin (List.range vs.length) _ ?_ rfl (List.Perm.refl _) ?_
   ·show(kA.zip vs.toArray).map (fun x=>x.2)=_;apply Array.toList_inj.mp;refine List.ext_getElem (by simp[hks2]) fun i h1 h2=>?_;simp at h2;simp[h2]
   ·match vs,h2 with
    | [],_=>exact .nil
    | [v],_=>exact .cons (fun r q=>(nomatch q)) .nil
    | _::_::_,h2=>simp at h2;exact Y3I h2
  ·rw[if_neg h2,if_neg h2];rw[List.size_toArray]at h2;rw[ksk_kind hI' (by exact(Nq 0x2c0058084c908049) hks2 h2)];refine wB (wP ?_);have run:(kas_sort vs.length).kasWp (kas_ask C.prog C.w A.in1.in1 oneType' kA.toList) (fun p s2=>s2=s'/\p.toList.Perm (List.range vs.length)/\p.toList.Pairwise (slt fun i j=>decide ((xs.map key).getD i 0<(xs.map key).getD j 0))) s':=by
    refine Z6y (Z6U fun i=>(xs.map key).getD i 0) (fun i j C hi hj hC=>?_) (by exact(Np 0x1c0058004c9) h2) fun P' hp hs=>⟨rfl,hp,hs⟩;obtain⟨t1,z1⟩:=Z3q hI' (i:=i) (by exact Y5K hkl hi);obtain⟨t2,z2⟩:=Z3q hI' (i:=j) (by exact Y5K hkl hj);unfold kas_ask;rw[z1,z2];exact kat_lt_int hC
   refine wB (wM (kat_run (ks:=kA.toList) (vs:=vs) (Q:=fun st' s2=>s2=s'/\∃p:Array Nat,arrOf st'=p.map (kas_item (kA.toList.toArray.zip vs.toArray))/\failedOf st'=none/\p.toList.Perm (List.range vs.length)/\p.toList.Pairwise (slt fun i j=>decide ((xs.map key).getD i 0<(xs.map key).getD j 0)))
    hkl (by exact Y3J h2) (by exact(Nq 0x206421004490000000040c8029) h64 el) (fun p st' s2 a1 a2 a3 a4=>⟨a4.1,p,a2,a3,a4.2⟩) run) ?_ fun r r e=>e)
   rintro⟨⟨⟩,st'⟩ s2 ⟨rfl,p,har,hf,hp,hs⟩;exact fin p.toList st' (kat_snds hkl har) hf hp hs
end
section
variable {X:XP} {A:Around} {C:Cx} {σ:X0} {ρ:Rho} {s:Shared}
theorem Ags.one{env:Env}{e:Expr}{pos:Pos}{R:pV}(h:Ev C A env e ρ σ R X)(he:starEach [e] env=(false,eval e env)::starEach [] env):Ags C A env pos [e] ρ σ (fun vs σ1=>∃v,vs=[v]/\R v σ1) X:=
 Ags.cons (h.mono' fun v σ1 p=>Ags.nil ⟨v,rfl,p⟩) he
theorem Ev.sortLam{sc lsc:Scope}{L c P:Addr}{cells:List (Str×Addr)}{q0 pn:Str}{fn:Option Addr}{fr:Option Addr}{e body:Expr}{params:Arguments}{lpos kp pos p1:Pos}{ρc:Rho}{Q:pV}(Cd:CodeHd C.h₀ c P)(hB:BMod C)(hroom:A.depth<recursionLimit)(hs:sc.names.lookup (ofString "sorted")=some .globalImplicit)(hsk:nsIn C.K mainGlobals (ofString "sorted")=some none)(cap:Xo ρ lsc.names ρc)(hdef:defaultsOf params (mkE sc L cells q0 fn (.ref c) fr)=([],[]))(hbind:∀v cl pm cdv ctv,bindArgs (kla_fn "<lambda>" (q0++"<lambda>") params body lsc cl pm cdv ctv) ⟨[v],[]⟩=pure [(pn,v)])(hco:lsc.isCoroutine=false)(hgen:lsc.isGenerator=false)(hk:lsc.kind=.function)(hpn:lsc.names.lookup pn=some .local)(hok:Z6p lsc=true)(hfree:(lsc.names.all fun p=>p.2 != .free||(cells.lookup p.1).isSome)=true)(hev:eval (.Call (.Name (ofString "sorted") p1) [e] [⟨some (ofString "key"),.Lambda params body lsc lpos,kp⟩] pos) (mkE sc L cells q0 fn (.ref c) fr) =
   (do callWith pos (<-eval (.Name (ofString "sorted") p1) (mkE sc L cells q0 fn (.ref c) fr)) [] (backTo pos (starEach [e] (mkE sc L cells q0 fn (.ref c) fr))) (backToKw pos (keywordEach [⟨some (ofString "key"),.Lambda params body lsc lpos,kp⟩] (mkE sc L cells q0 fn (.ref c) fr)))))(hst:starEach [e] (mkE sc L cells q0 fn (.ref c) fr)=(false,eval e (mkE sc L cells q0 fn (.ref c) fr))::starEach [] (mkE sc L cells q0 fn (.ref c) fr))(h:Ev C A (mkE sc L cells q0 fn (.ref c) fr) e ρ σ (fun v σ1=>∃(l:Addr) (xs:List V) (key:V->Int),v=.ref l/\X8 C σ1 l xs/\xs.length<64/\σ1 P=some (.tab lpos (q0++"<lambda>"))/\
   (∀x∈xs,∀L' f cdv A',A'.handled=A.handled->A'.units<=A.units+6->Ev C A' (mkE lsc L' (clOf cells lsc.names []) (q0++"<lambda>" ++ ".<locals>.") (some f) cdv (some L')) body ((pn,x)::ρc) σ1 (fun k σ3=>σ3=σ1/\k=.int (key x)) (fun u u=>False))/\
   ∀(a:Addr) (p:List Nat),σ1 a=none->p.Perm (List.range xs.length)->p.Pairwise (slt fun i j=>decide (key (xs.getD i .none)<key (xs.getD j .none)))->Q (.ref a) (σ1.upd a (.list (p.map fun i=>xs.getD i .none)))) X) :
  Ev C A (mkE sc L cells q0 fn (.ref c) fr) (.Call (.Name (ofString "sorted") p1) [e] [⟨some (ofString "key"),.Lambda params body lsc lpos,kp⟩] pos) ρ σ Q X:=by
 revert X A C σ ρ sc lsc L c P cells q0 pn fn fr e body params lpos kp pos p1 ρc Q;k_extra "l";intro X A C σ ρ sc lsc L c P cells q0 pn fn fr;k_extra "F";intro e body params lpos kp pos p1 ρc Q Cd hB hroom hs hsk cap hdef hbind hco hgen hk hpn hok hfree hev hst h
 intro s S F;rw[hev];refine wB (wM (Ev.nblt (Q:=fun x σ1=>x=.blt "sorted" /\σ1=σ) hs hsk PyProof.Rows.Boot.sorted (.blt _) ⟨rfl,rfl⟩ (by decide) rfl s S F) ?_ fun u u z=>z);rintro v0 s0 ⟨x0,σ0,⟨rfl,rfl⟩,r0,S0,e0⟩
 cases r0
 refine callWith_of (P:=fun h=>∀b o,C.h₀.get? b=some o->h.get? b=some o) (by rw[hst];rfl) Kp.blt ?_;refine evalArgs_kw2 rfl ?_ hst;refine wM (Ags.one (pos:=pos) h hst s0 S0 (F.evo e0)) ?_ fun u u z=>z;rintro vs s1 ⟨ys,σ1,⟨v,rfl,l,xs,key,rfl,hl,h64,hP,hturn,hq⟩,r1,S1,e1⟩;refine kwAll_cons (kla_eval hdef ?_);refine Z5Y (c:=c) S1 rfl rfl (Z11 (env:=mkE sc L cells q0 fn (.ref c) fr) hfree) Cd hP hB fun f s2 S2 e2 hfn hL=>?_;refine kwAll_nil ⟨S2.base,?_⟩
 cases r1 with
 | cons ra rb=>
 cases ra;cases rb
 have F2:=(F.evo e0).evo (e1.trans e2);show wpAny C.M A (PySem.call (Value.builtin "sorted") [Value.ref l] [(ofString "key",Value.ref f)]) _ _ _;refine wM (Z4x (X:=X) S2 F2 hl h64 hfn hL (fun x hx s3 v S3 F3 hL3 rv=>?_) hq) (fun u u z=>((z.after e2).after e1).after e0) fun u u z=>z;exact Z5Z (env:=mkE sc L cells q0 fn (.ref c) fr) S3 F3 hL3 rv hroom (fun pm cdv ctv=>hbind v _ pm cdv ctv) hco hgen hk hpn hok hfree cap fun L' cdv A' a1 a2=>hturn x hx L' f cdv A' a1 (Nat.le_trans a2 (by show A.units+1+1+3<=_;exact(Np 0x1b00b0f01c0700b5ac0)))
end
section
variable {X:XP} {A:Around} {env:Env} {C:Cx} {σ:X0} {ρ:Rho} {s:Shared}
theorem Ev.nfree{sc:Scope}{L:Addr}{cells:List (Str×Addr)}{q:Str}{fn:Option Addr}{cd:Value}{fr:Option Addr}{x:Str}{pos:Pos}{v:V}{Q:pV}(hk:sc.names.lookup x=some .free)(hv:ρ.get x=some v)(h:Q v σ)(hc:(cells.lookup x).isSome=true)(hd:(x==("__debug__":Str))=false)(hn:(x==("__classdict__":Str))=false) :
  Ev C A (mkE sc L cells q fn cd fr) (.Name x pos) ρ σ Q X:=by
 obtain⟨c,hc⟩:=Option.isSome_iff_exists.mp hc;exact Ev.free hk hc hv h hd hn
theorem Exs.cut{st:Stmt}{ss:List Stmt}{Q:pW}(P:Rho->X0->Prop)(h1:Ex C A env st ρ σ (fun g ρ' σ'=>g=.next/\P ρ' σ') X)(h2:∀ρ' σ',P ρ' σ'->Exs C A env ss ρ' σ' Q X):Exs C A env (st::ss) ρ σ Q X:=
 Exs.cons (h1.mono fun g ρ' σ' ⟨e,p⟩=>by subst e;exact h2 ρ' σ' p)
noncomputable def Xf(C:Cx)(o:V)(a b:Option Int)(σ3:X0)(Q:pV):Prop:=
 (∃l xs,o=.ref l/\X8 C σ3 l xs/\xs.length<=sizeLine/\∀c,σ3 c=Option.none->Q (.ref c) (σ3.upd c (.list (Zs xs a b))))\/
 (∃x,o=.str x/\x.length<=sizeLine/\Q (.str (Txt.slice x a b)) σ3)
theorem Xf.list{l:Addr}{xs:List V}{a b:Option Int}{Q:pV}(hl:X8 C σ l xs)(hz:xs.length<=sizeLine)(h:∀c,σ c=Option.none->Q (.ref c) (σ.upd c (.list (Zs xs a b)))):Xf C (.ref l) a b σ Q:=
 .inl ⟨l,xs,rfl,hl,hz,h⟩
theorem Xf.str{x:Str}{a b:Option Int}{Q:pV}(hz:x.length<=sizeLine)(h:Q (.str (Txt.slice x a b)) σ):Xf C (.str x) a b σ Q:=.inr ⟨x,rfl,hz,h⟩
theorem IsPart.opt{v:Value}{k:Option Int}(p:IsPart v k):∃l:Option (Int×Tok),v=partValue l/\l.map (fun x=>x.1)=k:=by
 cases p with
 | none=>exact⟨none,rfl,rfl⟩
 | int i t=>exact⟨some (i,t),rfl,rfl⟩
theorem Ev.slice{value:Expr}{lo hi:Option Expr}{p pos:Pos}{Q:pV}(h:Ev C A env value ρ σ (fun o σ1=>Prt C A env lo ρ σ1 (fun a σ2=>Prt C A env hi ρ σ2 (fun b σ3=>Xf C o a b σ3 Q) X) X) X):Ev C A env (.Subscript value (.Slice lo hi Option.none p) pos) ρ σ Q X:=by
 revert X A env C σ ρ value lo hi p pos Q;k_extra "x";intro X A env C σ ρ value lo hi p pos Q h
 intro s S F;rw[eval_Subscript];refine wB (wM (h s S F) ?_ fun w w z=>z);rintro o s1 ⟨x,σ1,h1,r1,S1,e1⟩;refine wB (wpAny_holding ?_);rw[arm_eval_Slice];refine wB (wM (h1.run S1 (F.evo e1)) ?_ fun w w z=>z);rintro vl s2 ⟨a,σ2,h2,p2,S2,e2⟩;refine wB (wpAny_holding (wM (h2.run S2 ((F.evo e1).evo e2)) ?_ fun w w z=>z));rintro vu s3 ⟨b,σ3,(⟨l,xs,rfl,hl,hz,q⟩|⟨x,rfl,hz,q⟩),p3,S3,e3⟩
 ·cases r1
  refine wB (wpAny_holding (wP (wpAny_newObj_type ?_)));have S4:St C σ3 { s3 with heap:=s3.heap.push { cls:=.type "slice",data:=.fields #[vl,vu,.none] } }:=S3.push;obtain⟨items,il,rl⟩:=hl.raw S4;have e:=rl.length;simp only[Array.length_toList]at e;refine wB (wpAny_standAt (ZX (.list il) (wpAny_getItem_list_slice (lo:=a) (hi:=b) (st:=none) il ⟨_,Heap.get?_push_size _ rfl,rfl,rfl⟩ p2 p3 .none (by simp) ?_ (by rw[e];exact hz))));obtain⟨S5,e5⟩:=S4.new (t:=s3.toks) (Z1x (C:=C) (vs:=(slicePick items a b none).toList) (xs:=Zs xs a b) (by rw[Z2J];unfold Zs;simp only[Array.length_toList,e];exact rl.pick _));refine⟨.ref _,_,q _ S4.fresh,.ref _,by simpa using S5,?_⟩;have:=(((e1.trans e2).trans e3).trans .push).trans e5;simpa using this
 ·cases r1
  refine wB (wpAny_holding (wP (wpAny_newObj_type ?_)));obtain⟨l,rfl,rfl⟩:=IsPart.opt p2;obtain⟨u,rfl,rfl⟩:=IsPart.opt p3;refine wB (wpAny_standAt (ZX .str (wpAny_getItem_str_slice (l:=l) (u:=u) (st:=none) ⟨_,Heap.get?_push_size _ rfl,rfl,rfl⟩ rfl (post_val_or_str ⟨Nat.le_trans (Txt.slice_le x _ _) hz,fun t' k=>?_⟩))));exact⟨_,σ3,q,.str _ _,(S3.push).toks _,((e1.trans e2).trans e3).trans .push⟩
theorem X1.abs{a:Int}{Q:pV}(h:Q (.int (if a<0 then -a else a)) σ):X1 C A (.builtin "abs") [.int a] σ Q X:=by
 intro s vs S r;obtain⟨_,rfl,r1⟩:=r.one;obtain⟨_,rfl⟩:=r1.intI;exact call_abs_int fun u tk=>EP.pureT S h (.int _ _)
end
set_option tactic.hygienic true in
theorem Z1B:∀(x:Str)(l u:Option Int)(a n:Nat)(h:a+n<=x.length)(e:Builtin.Str.strSliceIndices l u 1 x.length=(List.range n).map fun i=>a+i),(Txt.slice x l u).cps.toList=(x.cps.toList.drop a).take n:=by
 k_extra "K";intro x l u a n h e;have hx:x.cps.toList.length=x.length:=by simp[Str.length]
 unfold Txt.slice;rw[e]
 split
 ·rename_i z
  simp only[length_map,List.length_range,beq_self_eq_true,Bool.true_and,beq_iff_eq]at z;have:a=0:=by exact(Nr 0x18008411244105809) h z
  subst this;rw[List.drop_zero,take_of_length_le (by exact(Nr 0x8000884908049) hx z)]
 ·have e2:(List.filterMap (fun i=>x.cps[i]?) ((List.range n).map fun i=>a+i))=((List.range n).map fun i=>a+i).filterMap (x.cps.toList[·]?):=by simp
  show(List.filterMap (fun i=>x.cps[i]?) ((List.range n).map fun i=>a+i)).toArray.toList=_;rw[e2,Z1n _ a n (by exact(Ns1 0xc20b00431244105809) h hx)]
theorem Z2k(x:Str)(k:Nat)(hk:k<=x.length):(Txt.slice x none (some (k:Int))).cps.toList=x.cps.toList.take k:=by
 have e:Builtin.Str.strSliceIndices none (some (k:Int)) 1 x.length=(List.range k).map fun i=>0+i:=by
  unfold Builtin.Str.strSliceIndices;have h1:¬((k:Int)<0):=by exact Y5v
  have h2:max 0 (min (k:Int) (x.length:Int))=((k:Nat):Int):=by exact Y5w hk
  simp only[h1,if_false,show(1:Int)>0 by decide,if_true,h2];have:=sliceRange_one 0 k;simpa using this
 rw[Z1B x none (some (k:Int)) 0 k (by exact(Nq 0x20062c008009) hk) e,List.drop_zero]
theorem Z4y(x:Str)(k:Nat)(hk:k<=x.length):(Txt.slice x (some (k:Int)) none).cps.toList=x.cps.toList.drop k:=by
 have hx:x.cps.toList.length=x.length:=by simp[Str.length]
 have e:Builtin.Str.strSliceIndices (some (k:Int)) none 1 x.length=(List.range (x.length-k)).map fun i=>k+i:=by
  unfold Builtin.Str.strSliceIndices;have h1:¬((k:Int)<0):=by exact Y5v
  have h2:max 0 (min (k:Int) (x.length:Int))=((k:Nat):Int):=by exact Y5w hk
  simp only[h1,if_false,show(1:Int)>0 by decide,if_true,h2];exact sliceRange_one k x.length
 rw[Z1B x (some (k:Int)) none k (x.length - k) (by exact Y5x hk) e,take_of_length_le (by simp[hx])]
theorem ZV(x y:Str):(x++y).cps.toList=x.cps.toList++y.cps.toList:=by
 show(x.cps++y.cps).toList=_;simp
theorem Z2l(h:Heap):∀n,(∀b o,h.get? b=some o->b<n)->∃m,(∀b o,h.get? b=some o->b<m)/\∀k,m=k+1->∃o,h.get? k=some o
 | 0,hn=>⟨0,hn,fun k e=>by cases e⟩
 | n+1,hn=>by
  cases q:h.get? n with
  | some o=>exact⟨n+1,hn,fun k e=>by cases e;exact⟨o,q⟩⟩
  | none=>
   refine Z2l h n fun b o e=>?_;have:=hn b o e;rcases Nat.lt_or_eq_of_le (Nat.le_of_lt_succ this) with z|z
   ·exact z
   ·rw[z,q]at e;cases e
theorem Z3r{h:Heap}:∀{vs:List Value} {ns:List Int},IntsAre vs ns->VRs h vs (ns.map V.int)
 | [],ns,hI=>by
  cases ns with
  | nil=>exact .nil
  | cons _ _=>have:=hI.length;simp at this
 | v::vs,ns,hI=>by
  cases ns with
  | nil=>have:=hI.length;simp at this
  | cons n ns=>
   cases hI with
   | cons _ h2=>exact .cons (.int _ _) (Z3r (by assumption))
theorem glueT{prog:Program}{w:World}{s₁:Shared}{K:Frag}{p:Program}{loose:List Str}{mean:ExcName->Option Value}{mg mb:Str->Option Value}{l fa c P:Addr}{pos:Pos}{q:Str}{vs:List Value}{ns:List Int}(KX:K.In s₁.heap)(T:Top p loose mean mg mb s₁.heap)(hT:CodeHd s₁.heap c P)(hP:s₁.heap.get? P=some (tabObj #[]))(hK:noTabs K=true)(hPs:P≠sysModules)(gens:s₁.gens=#[])(hl:s₁.heap.IsList l vs.toArray)(hI:IntsAre vs ns)(h:∀C:Cx,C.prog=prog->C.w=w->C.K=K->Zk C->Z3b C l (ns.map V.int)->CodeHd C.h₀ c P->(∃bm ob,C.mg "__builtins__" = some (.ref bm)/\bm≠builtinsNs/\C.h₀.get? bm=some ob/\ob.cls=.type "module" /\ob.dict=some builtinsNs/\ob.data=.plain)->
   X1 C callerA (.ref fa) [.ref l] (X0.upd (fun u=>none) P (.tab pos q)) (fun v σ'=>v=.bool true/\∃o,σ' P=some o/\∃pos' q',o=.tab pos' q') (fun u u=>False)) :
  wpAny (model prog w) callerA (call (.ref fa) [.ref l]) (fun v s'=>v=.bool true/\OldK s₁.heap s'.heap/\s'.os=s₁.os/\AllBare s'.gens) (fun u u=>False) s₁:=by
 revert prog w s₁ K p loose mean mg mb l fa c P pos q vs ns;k_extra "l";intro prog w s₁ K p loose mean mg mb l fa c P pos q;k_extra "n";intro vs ns KX T hT hP hK hPs gens hl hI h
 have hTs:TabsAt [(c,P)] s₁.heap:=fun z hz=>by
  rcases List.mem_cons.mp hz with rfl|hz
  ·exact⟨hT,hP⟩
  ·cases hz
 have hgo:=ghost_top hTs T;obtain⟨n,hn1,hn2⟩:=Z2l (ghostOf s₁.heap [(c,P)]) (ghostOf s₁.heap [(c,P)]).objs.size fun b o e=>Heap.lt_size e;have h0:sysModules<n:=by
  obtain⟨o,es,ep,ho,_⟩:=hgo.g;have:=hn1 _ _ ho;exact Nat.lt_trans (by decide) this
 have hPn:(ghostOf s₁.heap [(c,P)]).get? P=none:=hideAll_none _ (by simp);have:=h ⟨prog,w,ghostOf s₁.heap [(c,P)],s₁.gens,s₁.os,n,hn1,hn2,K,ghost_K hTs KX hK,mg,mb,hgo.g,hgo.b,hgo.builtins,hgo.nolimit,[P],False⟩ rfl rfl rfl (.inl ⟨h0,(fun z=>by
   rcases List.mem_cons.mp z with z|z
   ·exact hPs z.symm
   ·cases z),id⟩) ⟨vs.toArray,ghost_list hTs hl,by simpa using Z3r hI⟩ (ghost_code hTs).1 hgo.bmain s₁ [.ref l]
  ⟨fun u u e=>of_hideAll _ e,fun a o e=>?_,fun a o e=>?_,rfl,rfl⟩ (.cons (.ref _) .nil)
 ·refine wM this ?_ fun u u z=>z;rintro v s' ⟨x,σ',⟨rfl,o,e1,pos',q',rfl⟩,r,S,e⟩
  cases r
  have keep:∀b o,b≠P->s₁.heap.get? b=some o->s'.heap.get? b=some o:=fun b o hb e=>S.base b o (ghost_ne e (by simpa using hb));obtain⟨ps,hps⟩:∃ps,s'.heap.get? P=some (tabObj ps):=by
   rcases S.rep _ _ e1 with z|⟨_,_,_,_,z,_⟩
   ·exact⟨_,z⟩
   ·exact⟨_,z⟩
  refine⟨rfl,⟨fun b o eb=>?_,fun b o eb=>?_⟩,S.os,.of_eq (S.gens.trans gens)⟩
  ·by_cases hb:b=P
   ·subst hb;rw[hP]at eb;cases eb;exact .inr (.inl ⟨(hT.tab hP).isCodeTable,rfl,#[],ps,rfl,by rw[Array.empty_append];exact hps⟩)
   ·exact .inl (keep b o hb eb)
  ·by_cases hb:b=P
   ·subst hb;exact⟨_,hps⟩
   ·exact⟨o,keep b o hb eb⟩
 ·by_cases z:a=P
  ·subst z;rw[X0.upd_self]at e;cases e;exact .inl hP
  ·rw[X0.upd_ne _ _ z]at e;cases e
 ·by_cases z:a=P
  ·subst z;exact⟨hPn,.inr (.inl (by simp))⟩
  ·rw[X0.upd_ne _ _ z]at e;cases e
section
variable {X:XP} {A:Around} {env:Env} {C:Cx} {σ:X0} {ρ:Rho} {s:Shared} {l:List Env}
end
open PySem.Builtin PySem.Builtin.ObjectAttr PySem.Builtin.Getset_descriptor
section
variable {prog:Program} {w:World} {A:Around} {E:pS} {s:Shared} {K:Frag} {x D:Addr}
end
section
variable {X:XP} {A:Around} {env:Env} {C:Cx} {σ:X0} {ρ:Rho} {s:Shared}
end
open PySem.Builtin.Str
noncomputable def ZF(x:Str):List V:=x.cps.toList.map fun c=>V.str ⟨#[c]⟩
section
variable {X:XP} {A:Around} {env:Env} {C:Cx} {σ:X0} {ρ:Rho} {s:Shared}
theorem Z50{x:Str}{k:Nat}{y:V}(h:(ZF x)[k]?=some y):∃c,x.cps[k]?=some c/\y=.str ⟨#[c]⟩:=by
 unfold ZF at h;rw[List.getElem?_map]at h;obtain⟨c,h1,h2⟩:=Option.map_eq_some_iff.mp h;exact⟨c,by simpa using h1,h2.symm⟩
theorem Z2m{x:Str}{k:Nat}(h:(ZF x)[k]?=none):x.cps[k]?=none:=by
 unfold ZF at h;rw[List.getElem?_map]at h;simpa using h
theorem Z20{h:Heap}{it:Addr}{T:String}{x:Str}{t:Tok}{k:Nat}(hT:T="str_ascii_iterator" \/T="str_iterator")(J:h.IsStrIter it T x t k){o:Obj}(e:h.get? it=some o):¬Imm o:=by
 obtain⟨o',e',c,d⟩:=J;rw[e]at e';cases e';rcases hT with rfl|rfl<;>exact Imm.not (by rw[c];simp) (by rw[c];simp) (by rw[c];simp)
theorem Itr.strG{target:Expr}{it:Addr}{x:Str}{t:Tok}{T:String}(hT:T="str_ascii_iterator" \/T="str_iterator")(hh:A.handled=none) :
  Itr C A target (.ref it) (fun b=>b=it) (fun k h=>h.IsStrIter it T x t k) (fun u=>True) (ZF x) where
 frame:=fun k h h' ⟨o,e,r⟩ _ kp=>⟨o,kp it o rfl e,r⟩
 notTup:=fun k h b o' J q z=>by subst q;exact Z20 hT J z
 notD:=fun k h b o' ⟨o,e,c,d⟩ q z es n w=>by subst q;rw[e]at z;cases z;rw[d]at w;cases w
 there:=fun k h b ⟨o,e,_⟩ q=>by subst q;exact⟨o,e⟩
 more:=fun k σ s y Q X S hok hJ hx no hQ=>by
  obtain⟨c,hc,rfl⟩:=Z50 hx;have go:∀h',h'.IsStrIter it T x t (k+1)->Heap.SameBut it s.heap h'->Q (some (.str ⟨#[c]⟩ s.toks)) { s with heap:=h',toks:=s.toks+1 }:=fun h' J' sb=>by
   have kp:∀b o,¬b=it->s.heap.get? b=some o->h'.get? b=some o:=fun b o q e=>(sb.2 b q).trans e;refine hQ _ h' (s.toks+1) (.str _ _) kp (fun b o' q z=>?_) (fun Q' X' hq=>?_)
   ·subst q;exact Z20 hT J' z
   ·obtain⟨o,e,hc,_⟩:=id J';rcases hT with rfl|rfl<;>exact ZN (s:={ s with heap:=h',toks:=s.toks+1 }) e hc (by decide) (hq h' (s.toks+1) J' fun u u u e=>e)
  rcases hT with rfl|rfl
  ·exact wpAny_pyNext_ascii_item hJ hc go
  ·exact wpAny_pyNext_wide_item hJ hc go
 self:=fun k s Q X hJ hq=>by
  rcases hT with rfl|rfl
  ·exact wpAny_pyIter_striter_ascii hJ hq
  ·exact wpAny_pyIter_striter_wide hJ hq
 done:=fun k σ s Q X S hok hJ hx no hQ=>by
  rcases hT with rfl|rfl
  ·exact wpAny_pyNext_ascii_end hh hJ (Z2m hx) fun h' kp=>hQ h' s.toks fun b o q e=>kp b o q e
  ·exact wpAny_pyNext_wide_end hh hJ (Z2m hx) fun h' kp=>hQ h' s.toks fun b o q e=>kp b o q e
theorem ItV.str{target:Expr}{x:Str}(hh:A.handled=none):ItV C A target (.str x) σ (ZF x) (fun z=>True):=by
 refine⟨trivial,fun s v Q X S r hQ=>?_⟩
 cases r with
 | str _ t=>
  cases ha:x.cps.all (·<128)
  ·exact wpAny_pyIter_wide ha (hQ _ _ _ _ s.toks (Itr.strG (t:=t) (.inr rfl) hh) (fun b o e=>Heap.get?_push_of_some _ e) (fun b w=>w▸Nat.le_refl _) ⟨_,Heap.get?_push_size _ rfl,rfl,rfl⟩)
  ·exact wpAny_pyIter_ascii ha (hQ _ _ _ _ s.toks (Itr.strG (t:=t) (.inl rfl) hh) (fun b o e=>Heap.get?_push_of_some _ e) (fun b w=>w▸Nat.le_refl _) ⟨_,Heap.get?_push_size _ rfl,rfl,rfl⟩)
noncomputable def inS(x y:Str):Bool:=!(Builtin.Str.occurrences x y 0 x.length 1).isEmpty
theorem X4.inStr{x y:Str}{Q:pV}(h:Q (.bool (inS x y)) σ):X4 C A .In (.str y) (.str x) σ Q X:=by
 intro s a b S ra rb;obtain⟨_,rfl⟩:=ra.strI;obtain⟨_,rfl⟩:=rb.strI;exact PyProof.Rows.in_str (EP.pure S h (.bool _))
theorem UnWP.not{x:V}{Q:pV}(h:Xh C A x σ (fun b σ'=>Q (.bool (!b)) σ') X):UnWP C A .Not x σ Q X:=by
 intro s v S r;refine PyProof.Rows.not_of (wM (h s v S r) ?_ fun u u z=>z);rintro b s' ⟨σ',q,S',e'⟩;exact⟨_,σ',q,.bool _,S',e'⟩
end
structure Led(σ:X0)(l:lO):Prop where
 nd:(l.map (fun x=>x.1)).Nodup
 at_:∀p∈l,σ p.1=some p.2
theorem Led.nil{σ:X0}:Led σ []:=⟨List.nodup_nil,fun z h=>nomatch h⟩
theorem Led.get{σ:X0}{l:lO}(L:Led σ l)(n:Nat){x:Addr}{o:O}(h:l[n]?=some (x,o)):σ x=some o:=L.at_ (x,o) (List.mem_of_getElem? h)
theorem Led.ne{σ:X0}{l:lO}(L:Led σ l)(i j:Nat){x y:Addr}{o o':O}(hi:l[i]?=some (x,o))(hj:l[j]?=some (y,o'))(h:i≠j):x≠y:=by
 obtain⟨hl,a⟩:=List.getElem?_eq_some_iff.mp hi;obtain⟨hl',b⟩:=List.getElem?_eq_some_iff.mp hj;have nd:=List.pairwise_iff_getElem.mp L.nd;rcases Nat.lt_or_gt_of_ne h with q|q
 ·have:=nd i j (by simpa using hl) (by simpa using hl') q;rw[getElem_map,getElem_map,a,b]at this;exact this
 ·have:=nd j i (by simpa using hl') (by simpa using hl) q;rw[getElem_map,getElem_map,a,b]at this;exact Ne.symm this
theorem Led.set{σ:X0}{l:lO}(L:Led σ l)(n:Nat){x:Addr}{o:O}(o':O)(h:l[n]?=some (x,o)):Led (σ.upd x o') (l.set n (x,o')):=by
 obtain⟨hl,he⟩:=List.getElem?_eq_some_iff.mp h;have hk:(l.set n (x,o')).map (fun x=>x.1)=l.map (fun x=>x.1):=by
  rw[List.map_set];show(l.map (fun x=>x.1)).set n x=_;rw[show x=(l.map (fun x=>x.1))[n]'(by simpa using hl) by rw[getElem_map,he]];exact List.set_getElem_self _
 refine⟨by rw[hk];exact L.nd,fun p hp=>?_⟩;obtain⟨i,hi⟩:=List.mem_iff_getElem?.mp hp
 by_cases e:i=n
 ·subst e;rw[List.getElem?_set_self hl]at hi
  cases hi
  exact X0.hit
 ·rw[List.getElem?_set_ne (Ne.symm e)]at hi;exact X0.miss (L.ne i n (x:=p.1) (o:=p.2) hi h e) (L.get i hi)
theorem Led.setS{σ:X0}{l1 l2:lO}{x:Addr}{o:O}(L:Led σ (l1++(x,o)::l2))(o':O):Led (σ.upd x o') (l1++(x,o')::l2):=by
 have:=L.set l1.length (x:=x) (o:=o) o' (by simp);simpa using this
theorem Led.new{σ:X0}{l:lO}(L:Led σ l){x:Addr}(o:O)(h:σ x=none):Led (σ.upd x o) ((x,o)::l):=by
 refine⟨?_,fun p hp=>?_⟩
 ·rw[map_cons,List.nodup_cons];refine⟨fun hm=>?_,L.nd⟩;obtain⟨p,hp,e⟩:=List.mem_map.mp hm;have:=L.at_ p hp;rw[e,h]at this;cases this
 ·rcases List.mem_cons.mp hp with rfl|hp
  ·exact X0.hit
  ·exact X0.at_fresh h (L.at_ p hp)
theorem Led.free{σ:X0}{l:lO}(L:Led σ l){x:Addr}(h:σ x=none):x∉l.map (fun x=>x.1):=fun hm=>by
 obtain⟨p,hp,e⟩:=List.mem_map.mp hm;have:=L.at_ p hp;rw[e,h]at this;cases this
theorem Led.add{σ σ':X0}{l:lO}(L:Led σ l)(g:X6 σ σ'){x:Addr}{o:O}(h:σ x=none)(h':σ' x=some o):Led σ' ((x,o)::l):=by
 refine⟨?_,fun p hp=>?_⟩
 ·rw[map_cons,List.nodup_cons];refine⟨fun hm=>?_,L.nd⟩;obtain⟨p,hp,e⟩:=List.mem_map.mp hm;have:=L.at_ p hp;rw[e,h]at this;cases this
 ·rcases List.mem_cons.mp hp with rfl|hp
  ·exact h'
  ·exact g _ _ (L.at_ p hp)
theorem Led.add3{σ σ':X0}{l:lO}(L:Led σ l)(g:X6 σ σ'){x y z:Addr}{o1 o2 o3:O}(h1:σ x=none)(h2:σ y=none)(h3:σ z=none)(n1:x≠y)(n2:x≠z)(n3:y≠z)(k1:σ' x=some o1)(k2:σ' y=some o2)(k3:σ' z=some o3):Led σ' ((x,o1)::(y,o2)::(z,o3)::l):=by
 have a:=L.free h1;have b:=L.free h2;have c:=L.free h3;refine⟨?_,fun p hp=>?_⟩
 ·simp only[map_cons,List.nodup_cons,List.mem_cons,not_or];exact⟨⟨n1,n2,a⟩,⟨n3,b⟩,c,L.nd⟩
 ·simp only[List.mem_cons]at hp;rcases hp with rfl|rfl|rfl|hp
  ·exact k1
  ·exact k2
  ·exact k3
  ·exact g _ _ (L.at_ p hp)
theorem Led.grow{σ σ':X0}{l:lO}(L:Led σ l)(g:X6 σ σ'):Led σ' l:=⟨L.nd,fun p hp=>g _ _ (L.at_ p hp)⟩
theorem Led.perm{σ:X0}{l l':lO}(L:Led σ l)(h:l'.Perm l):Led σ l':=⟨(h.map _).nodup_iff.mpr L.nd,fun p hp=>L.at_ p (h.mem_iff.mp hp)⟩
theorem Led.sub{σ:X0}{l l':lO}(L:Led σ l)(h:l'.Sublist l):Led σ l':=⟨(h.map _).nodup L.nd,fun p hp=>L.at_ p (h.subset hp)⟩
noncomputable def O.kind:O->Nat
 | .list _=>0
 | .sd _=>1
 | .id _=>2
 | .inst _ _=>3
 | .tab _ _=>4
 | .exc _=>5
 | .ie _ _=>6
theorem X0.ne_kind{σ:X0}{x y:Addr}{o o':O}(h1:σ x=some o)(h2:σ y=some o')(h:o.kind≠o'.kind):x≠y:=fun e=>by
 subst e;rw[h1]at h2;cases h2;exact h rfl
section
variable {X:XP} {A:Around} {env:Env} {C:Cx} {σ:X0} {ρ:Rho} {s:Shared}
noncomputable def WhQ(I:Nat->Rho->X0->Prop)(n:Nat)(Q:pW)(g:FV)(ρ:Rho)(σ:X0):Prop:=
 match g with
 | .next|.cont=>∃m,m<n/\I m ρ σ
 | .brk=>Q .next ρ σ
 | .ret v=>Q (.ret v) ρ σ
theorem WhQ.n{I:Nat->Rho->X0->Prop}{n:Nat}{Q:pW}(h:∃m,m<n/\I m ρ σ):WhQ I n Q .next ρ σ:=h
theorem WhQ.r{I:Nat->Rho->X0->Prop}{n:Nat}{Q:pW}{v:V}(h:Q (.ret v) ρ σ):WhQ I n Q (.ret v) ρ σ:=h
theorem Ex.while{test:Expr}{body:List Stmt}{pos:Pos}{Q:pW}(I:Nat->Rho->X0->Prop)(turn:∀n ρ σ,I n ρ σ->Tst C A env test ρ σ (fun b σ1=>if b=true then Exs C A env body ρ σ1 (WhQ I n Q) (fun u u=>False) else Q .next ρ σ1) (fun u u=>False))(n:Nat)(h:I n ρ σ):Ex C A env (.While test body [] pos) ρ σ Q X:=by
 revert X A env C σ ρ test body pos Q I turn n h;k_extra "q";intro X A env C σ ρ test body pos Q I turn n h
 intro s S F;refine wpAny_While (codeAny_whileLoop (fun n s'=>∃ρ1 σ1,I n ρ1 σ1/\St C σ1 s'/\Fm C σ1 s'.heap env ρ1/\Xn env σ s.heap σ1 s'.heap) ?_ n ⟨ρ,σ,h,S,F,.refl _⟩);rintro n s' ⟨ρ1,σ1,hI,S1,F1,e1⟩;refine wM (turn n ρ1 σ1 hI s' S1 F1) ?_ fun u u z=>z.elim;rintro b s2 ⟨σ2,h2,S2,e2⟩;have F2:=F1.evo e2;have e12:=e1.trans (e2.evoF F1.own)
 cases b with
 | false=>
  simp only[Bool.false_eq_true,if_false]at h2 ⊢;exact wpAny_execs_nil ⟨.next,ρ1,σ2,h2,.next,S2,F2,e12⟩
 | true=>
  simp only[if_true]at h2 ⊢;refine wM (h2 s2 S2 F2) ?_ fun u u z=>z.elim;rintro f s3 ⟨g,ρ3,σ3,h3,r3,S3,F3,e3⟩;have e13:=e12.trans e3
  cases r3 with
  | next=>obtain⟨m,hm,hI'⟩:=h3;exact⟨m,hm,ρ3,σ3,hI',S3,F3,e13⟩
  | cont=>obtain⟨m,hm,hI'⟩:=h3;exact⟨m,hm,ρ3,σ3,hI',S3,F3,e13⟩
  | brk=>exact⟨_,ρ3,σ3,h3,.next,S3,F3,e13⟩
  | ret r=>exact⟨_,ρ3,σ3,h3,.ret r,S3,F3,e13⟩
theorem X5.neg2{x y:V}{Q:pV}(h:Q x σ):X5 C A (.tup [y,x]) (.int (-1)) σ Q X:=
 X5.tup (j:=1) (by decide) (by decide) rfl rfl h
theorem X5.neg3{x y z:V}{Q:pV}(h:Q x σ):X5 C A (.tup [z,y,x]) (.int (-1)) σ Q X:=
 X5.tup (j:=2) (by decide) (by decide) rfl rfl h
end
noncomputable def ZO(xs:List V):List V:=xs.zipIdx.map fun p=>.tup [.int (p.2:Int),p.1]
theorem Z2V{xs:List V}{k:Nat}:(ZO xs)[k]?=(xs[k]?).map fun x=>V.tup [.int (k:Int),x]:=by
 unfold ZO;rw[List.getElem?_map,List.getElem?_zipIdx]
 cases xs[k]?<;>simp
section
variable {X:XP} {A:Around} {env:Env} {C:Cx} {σ:X0} {ρ:Rho} {s:Shared}
theorem Itr.enum{elts:List Expr}{k0:Nat}{tp:Pos}{e it l:Addr}{xs:List V}(hh:A.handled=none)(hei:e≠it)(hle:l≠e)(hli:l≠it) :
  Itr C A (.Tuple elts k0 tp) (.ref e) (fun b=>b=e\/b=it) (fun k h=>(∃old,IsEnum h e it k old)/\h.IsListIter it l k) (fun σ=>X8 C σ l xs) (ZO xs) where
 frame:=fun k h h' ⟨⟨old,he⟩,hit⟩ _ kp=>⟨⟨old,kp e _ (.inl rfl) he⟩,hit.at fun o x=>kp it o (.inr rfl) x⟩
 notTup:=fun k h b o' ⟨⟨old,he⟩,⟨o,eo,c,_⟩⟩ q z=>by
  rcases q with rfl|rfl
  ·rw[he]at z;cases z;exact Imm.not (by simp) (by simp) (by simp)
  ·rw[eo]at z;cases z;exact Imm.not (by rw[c];simp) (by rw[c];simp) (by rw[c];simp)
 notD:=fun k h b o' ⟨⟨old,he⟩,⟨o,eo,c,d⟩⟩ q z es n w=>by
  rcases q with rfl|rfl
  ·rw[he]at z;cases z;cases w
  ·rw[eo]at z;cases z;rw[d]at w;cases w
 there:=fun k h b ⟨⟨old,he⟩,⟨o,eo,_⟩⟩ q=>by
  rcases q with rfl|rfl
  ·exact⟨_,he⟩
  ·exact⟨_,eo⟩
 more:=fun k σ s x Q X S hok hJ hx no hQ=>by
  obtain⟨items,hl,hr⟩:=hok.raw S;obtain⟨⟨old,he⟩,hit⟩:=hJ;rw[Z2V]at hx;obtain⟨y,hy,rfl⟩:=Option.map_eq_some_iff.mp hx;obtain⟨u,hu,ru⟩:=hr.get hy;refine wpAny_pyNext_enum_item he hit hl (by simpa using hu) hei fun h' ho hit' hT hsz hk=>?_;have helt:e<s.heap.objs.size:=Heap.lt_size he;have hilt:it<s.heap.objs.size:=by obtain⟨_,x,_⟩:=hit;exact Heap.lt_size x
  have kp:∀b o,¬(b=e\/b=it)->s.heap.get? b=some o->h'.get? b=some o:=fun b o q e'=>hk b o (fun z=>q (.inl z)) (fun z=>q (.inr z)) e';have tk:X7 s.heap h':=Zw (ow:=fun b=>b=e\/b=it) kp fun b o' q z=>by
   obtain⟨o,eo,c,_⟩:=hit;rcases q with rfl|rfl
   ·rw[he]at z;cases z;exact Imm.not (by simp) (by simp) (by simp)
   ·rw[eo]at z;cases z;exact Imm.not (by rw[c];simp) (by rw[c];simp) (by rw[c];simp)
  refine hQ (.ref s.heap.objs.size) h' (s.toks+1) (.tup (n:=0) hT (.cons (.int _ _) (.cons (ru.mono tk) .nil))) kp (fun b o' q z=>?_) fun Q' X' hq=>?_
  ·obtain⟨o,eo,c,_⟩:=hit';rcases q with rfl|rfl
   ·rw[ho]at z;cases z;exact Imm.not (by simp) (by simp) (by simp)
   ·rw[eo]at z;cases z;exact Imm.not (by rw[c];simp) (by rw[c];simp) (by rw[c];simp)
  ·refine wpAny_letOwnedTupleGo_enum (s:={ s with heap:=h',toks:=s.toks+1 }) ho fun h'' he'' hs''=>?_;refine hq h'' (s.toks+1) ⟨⟨_,by simpa using he''⟩,hit'.at fun o y=>(hs''.2 it hei.symm).trans y⟩ fun b o q y=>(hs''.2 b fun z=>q (.inl z)).trans y
 self:=fun k s Q X ⟨⟨old,he⟩,_⟩ hq=>wpAny_pyIter_enum he hq
 done:=fun k σ s Q X S hok hJ hx no hQ=>by
  obtain⟨items,hl,hr⟩:=hok.raw S;obtain⟨⟨old,he⟩,hit⟩:=hJ;have hn:items[k]?=none:=by
   rw[Z2V,Option.map_eq_none_iff]at hx;have h1:=List.getElem?_eq_none_iff.mp hx;have h2:=hr.length;simp only[Array.length_toList]at h2;exact Array.getElem?_eq_none_iff.mpr (by(first|lia|(first|lia|omega)))
  exact wpAny_pyNext_enum_end hh he hit hl hn fun h' hx=>hQ h' s.toks fun b o q y=>hx b o (fun z=>q (.inr z)) y
theorem VR.gtup{a:Addr}{items:List Value}{n:Nat}{vs:List V}(h:C.K.lookup a=some (Zf items.toArray n))(r:VRs C.h₀ items vs):VR C.h₀ (.ref a) (.tup vs):=
 .tup (C.KX a _ h) (by simpa using r)
theorem Src.enum{e func:Expr}{pos:Pos}{elts:List Expr}{k0:Nat}{tp:Pos}{Q:List V->(X0->Prop)->X0->Prop}(hh:A.handled=none)(h:Ev C A env func ρ σ (fun fx σ1=>fx=.typ "enumerate" /\Ags C A env pos [e] ρ σ1 (fun xs σ2=>∃l ys,xs=[.ref l]/\X8 C σ2 l ys/\Q (ZO ys) (fun σ=>X8 C σ l ys) σ2) X) X)(hev:eval (.Call func [e] [] pos) env=(do callWith pos (<-eval func env) [] (backTo pos (starEach [e] env)) (backToKw pos (keywordEach [] env))):=by kernel_rfl)(he:(backTo pos (starEach [e] env)).any (fun x=>x.1)=false:=by kernel_rfl):Src C A env (.Tuple elts k0 tp) (.Call func [e] [] pos) ρ σ Q X:=by
 revert X A env C σ ρ e func pos elts k0 tp Q;k_extra "z";intro X A env C σ ρ e func pos elts k0 tp Q hh h hev he
 intro s S F;rw[hev];refine wB (wM (h s S F) ?_ fun u u z=>z);rintro v s1 ⟨x,σ1,⟨rfl,q⟩,r1,S1,e1⟩
 cases r1
 refine callWith_of (P:=fun h=>∀b o,C.h₀.get? b=some o->h.get? b=some o) (by rw[he];rfl) Kp.typ ?_;refine Z1Y he (wM (q s1 S1 (F.evo e1)) ?_ fun u u z=>z);rintro vs s2 ⟨xs,σ2,⟨l,ys,rfl,hl,hq⟩,r2,S2,e2⟩;refine⟨S2.base,?_⟩
 cases r2 with
 | cons ra rb=>
  cases rb
  cases ra
  obtain⟨items,il,rl⟩:=hl.raw S2;have hlt:l<s2.heap.objs.size:=by obtain⟨_,z,_⟩:=il;exact Heap.lt_size z
  refine call_enumerate_list il fun h' hE hI hz kp=>?_;refine wpAny_pyIter_enum (s:={ s2 with heap:=h' }) hE ?_;have e12:=e1.trans e2;have fr:∀b,(b=s2.heap.objs.size+1\/b=s2.heap.objs.size)->s2.heap.objs.size<=b:=fun b w=>by
   rcases w with w|w
   ·rw[w];exact Nat.le_succ _
   ·rw[w];exact Nat.le_refl _
  exact⟨ZO ys,_,σ2,_,_,hq,Itr.enum hh (Nat.ne_of_gt (Nat.lt_succ_self _)) (Nat.ne_of_lt (Nat.lt_succ_of_lt hlt)) (Nat.ne_of_lt hlt),hl,S2.ext (t:=s2.toks) kp,e12.trans (.ext kp),fun b w=>⟨Evo.fresh (h':=s2.heap) S2 e12 (fr b w),S2.fresh' (fr b w)⟩,⟨⟨_,hE⟩,hI⟩⟩
theorem Src.enumN{e:Expr}{p pos:Pos}{elts:List Expr}{k0:Nat}{tp:Pos}{Q:List V->(X0->Prop)->X0->Prop}(hh:A.handled=none)(h:Ev C A env (.Name (ofString "enumerate") p) ρ σ (fun fx σ1=>fx=.typ "enumerate" /\Ags C A env pos [e] ρ σ1 (fun xs σ2=>∃l ys,xs=[.ref l]/\X8 C σ2 l ys/\Q (ZO ys) (fun σ=>X8 C σ l ys) σ2) X) X)(hev:eval (.Call (.Name (ofString "enumerate") p) [e] [] pos) env=(do callWith pos (<-eval (.Name (ofString "enumerate") p) env) [] (backTo pos (starEach [e] env)) (backToKw pos (keywordEach [] env))):=by kernel_rfl)(he:(backTo pos (starEach [e] env)).any (fun x=>x.1)=false:=by kernel_rfl):Src C A env (.Tuple elts k0 tp) (.Call (.Name (ofString "enumerate") p) [e] [] pos) ρ σ Q X:=Src.enum hh h hev he
theorem Z51{α:Type}(f:α->V)(xs:List α):ZO (xs.map f)=xs.zipIdx.map fun p=>V.tup [.int (p.2:Int),f p.1]:=by
 unfold ZO;rw[List.zipIdx_map,map_map];rfl
end
section
variable {prog:Program} {w:World} {A:Around} {E:pS} {s:Shared}
theorem Z4z{P:Shared->Prop}{x:Value}{Tx:String}{tp:Addr}{cs:List Value}{vs:List Bool}{n:Nat}{tk:Tok}{s:Shared}{Q:PySem.Fin->Shared->Prop}(hP:∀s tk,P s->P { s with toks:=tk })(hx:s.TypeIs x Tx)(htp:s.heap.get? tp=some { cls:=.type "tuple",data:=.seq cs.toArray n })(ha:AnswersAll P x cs vs)(hs:P s)(hq:∀tk',Q (.done (.ret (.bool (vs.any id)))) { s with toks:=tk' }):wpAny (model prog w) A (Builtin.«isinstance.nested» ⟨[x,.ref tp,.int 0 tk],[]⟩) Q E s:=by
 revert prog w A E P x Tx tp cs vs n tk s Q;k_extra "v";intro prog w A E P x Tx tp cs vs n tk s Q hP hx htp ha hs hq
 obtain⟨h,g,d,t,os⟩:=s;have hT2:(⟨h,g,d,t,os⟩:Shared).TypeIs (.ref tp) "tuple":=⟨_,htp,rfl⟩;have f1:=F.isi_sub_tuple
 repeat (any_goals (first|assumption|wp_step))
 refine wpAny_arrayLoop ?_;simp only[Option.getD_some,List.toList_toArray];refine isinstance_items (dep:=0) hP cs vs _ _ ha hs fun tk'=>?_
 cases hv:vs.any id with
 | true=>
  simp only[if_true]
  repeat (any_goals (first|assumption|wp_step))
  exact hv▸hq tk'
 | false=>
  simp only[Bool.false_eq_true,if_false]
  repeat (any_goals (first|assumption|wp_step))
  exact hv▸hq tk'
theorem Z45{x:Value}{Tx:String}{tp:Addr}{cs:List Value}{vs:List Bool}{n:Nat}(ha:AnswersAll (fun s=>s.TypeIs x Tx) x cs vs) :
  Meets (Builtin.«isinstance» ⟨[x,.ref tp],[]⟩)
   (fun z R s=>s.TypeIs x Tx/\s.heap.get? tp=some { cls:=.type "tuple",data:=.seq cs.toArray n }/\∀tk,R (.ok (.ret (.bool (vs.any id)))) { s with toks:=tk }):=
 fun z z z z z hs=>isinstance_outer (Z4z (fun z tk h=>h.toks tk) hs.1 hs.2.1 ha hs.1 hs.2.2) (Shared.TypeIs.not_mainsLoader hs.1)
end
section
variable {X:XP} {A:Around} {C:Cx} {σ:X0}
theorem X1.isiLT{x:V}{t:Ty}{Q:pV}(ht:Xe C σ x t)(h2:t=.list\/t=.tup)(h:Q (.bool true) σ):X1 C A (.builtin "isinstance") [x,.tup [.typ "list",.typ "tuple"]] σ Q X:=by
 revert X A C σ x t Q;k_extra "B";intro X A C σ x t Q ht h2 h
 intro s vs S r;obtain⟨_,_,rfl,r1,r2⟩:=r.two;have b:=ht.bears S r1;obtain⟨tp,⟨it⟩,n,rfl,hg,hr⟩:=r2.tupI;obtain⟨_,_,hi,q1,q2⟩:=hr.two;simp only at hi;subst hi;obtain rfl:=q1.typI;obtain rfl:=q2.typI;rcases h2 with rfl|rfl
 ·obtain⟨a,o,rfl,e,c⟩:=b;exact call_isinstance (Z45 (Tx:="list") (n:=n) (cs:=[.type "list",.type "tuple"]) (vs:=[true,false]) (.cons (.of_true F.isi_meta_list F.sub_list_list) (.cons (.of_false_list (by decide +kernel) F.isi_meta_tuple F.sub_list_tuple) .nil))) ⟨⟨o,e,c⟩,hg,fun tk=>EP.pureT S h (.bool _)⟩
 ·obtain⟨a,o,rfl,e,c⟩:=b;exact call_isinstance (Z45 (Tx:="tuple") (n:=n) (cs:=[.type "list",.type "tuple"]) (vs:=[false,true]) (.cons (.of_false_tuple (by decide +kernel) F.isi_meta_list F.sub_tuple_list) (.cons (.of_true F.isi_meta_tuple F.sub_tuple_tuple) .nil))) ⟨⟨o,e,c⟩,hg,fun tk=>EP.pureT S h (.bool _)⟩
end
section
variable {X:XP} {A:Around} {env:Env} {C:Cx} {σ:X0} {ρ:Rho} {s:Shared}
theorem X1.max2{a b:Int}{Q:pV}(hh:A.handled=none)(h:Q (.int (max a b)) σ):X1 C A (.builtin "max") [.int a,.int b] σ Q X:=by
 revert X A C σ a b Q;k_extra "B";intro X A C σ a b Q hh h
 intro s vs S r
 cases r with
 | cons r1 r2=>
 obtain⟨_,rfl⟩:=r1.intI
 cases r2 with
 | cons r2 r3=>
 cases r2;cases r3
 refine max_two_ints hh fun h' tk kp=>?_
 by_cases z:b>a
 ·rw[if_pos z];rw[show max a b=b by omega]at h;exact⟨_,σ,h,.int _ _,S.ext kp,.ext kp⟩
 ·rw[if_neg z];rw[show max a b=a by omega]at h;exact⟨_,σ,h,.int _ _,S.ext kp,.ext kp⟩
end
section
variable {X:XP} {A:Around} {env:Env} {C:Cx} {σ:X0} {ρ:Rho}
end
section
variable {X:XP} {A:Around} {env:Env} {C:Cx} {σ:X0} {ρ:Rho} {s:Shared} {l:List Env} {D:Addr} {P:X0->Prop}
variable {Q:pW}
end
section
variable {X:XP} {A:Around} {env:Env} {C:Cx} {σ:X0} {ρ:Rho} {s:Shared} {l:List Env} {D:Addr} {P:X0->Prop}
end
section
variable {X:XP} {A:Around} {env:Env} {C:Cx} {σ:X0} {ρ:Rho} {s:Shared} {l:List Env} {D:Addr} {P:X0->Prop}
end
section
variable {X:XP} {A:Around} {env:Env} {C:Cx} {σ:X0} {ρ:Rho} {s:Shared}
end
section
variable {A:Around} {s:Shared}
end
section
variable {X:XP} {A:Around} {C:Cx} {σ:X0}
end
section
variable {X:XP} {A:Around} {env:Env} {C:Cx} {σ:X0} {ρ:Rho} {s:Shared}
end
section
variable {prog:Program} {w:World} {A:Around} {E:pS} {s:Shared}
end
section
variable {X:XP} {A:Around} {env:Env} {C:Cx} {σ:X0} {ρ:Rho} {s:Shared}
end
section
variable {A:Around} {env:Env} {C:Cx} {σ:X0} {ρ:Rho} {s:Shared} {l:List Env}
end
section
variable {X:XP} {A:Around} {C:Cx} {σ:X0} {s:Shared}
end
section
variable {C:Cx} {σ:X0}
end
theorem Z3s{P1 P2:Prop}{g:Prop}(h:P1->P2->g):(P1/\P2)->g:=fun e=>h e.1 e.2
theorem Z6V{P1 P2 P3:Prop}{g:Prop}(h:P1->P2->P3->g):(P1/\P2/\P3)->g:=fun e=>h e.1 e.2.1 e.2.2
theorem Z2n{P1 P2 P3 P4:Prop}{g:Prop}(h:P1->P2->P3->P4->g):(P1/\P2/\P3/\P4)->g:=fun e=>h e.1 e.2.1 e.2.2.1 e.2.2.2
theorem Z1C{α:Type}{P1:α->Prop}{g:Prop}(h:∀x,P1 x->g):(∃x,P1 x)->g:=fun e=>e.elim fun x e=>h x e
theorem Z2o{α:Type}{P1 P2 P3:α->Prop}{g:Prop}(h:∀x,P1 x->P2 x->P3 x->g):(∃x,P1 x/\P2 x/\P3 x)->g:=fun e=>e.elim fun x e=>h x e.1 e.2.1 e.2.2
theorem Z52{α:Type}{P1 P2 P3 P4 P5:α->Prop}{g:Prop}(h:∀x,P1 x->P2 x->P3 x->P4 x->P5 x->g):(∃x,P1 x/\P2 x/\P3 x/\P4 x/\P5 x)->g:=fun e=>e.elim fun x e=>h x e.1 e.2.1 e.2.2.1 e.2.2.2.1 e.2.2.2.2
theorem ZQ{α:Type}{P1 P2 P3 P4 P5 P6:α->Prop}{g:Prop}(h:∀x,P1 x->P2 x->P3 x->P4 x->P5 x->P6 x->g):(∃x,P1 x/\P2 x/\P3 x/\P4 x/\P5 x/\P6 x)->g:=fun e=>e.elim fun x e=>h x e.1 e.2.1 e.2.2.1 e.2.2.2.1 e.2.2.2.2.1 e.2.2.2.2.2
theorem Z53{α:Type}{P1 P2 P3 P4 P5 P6 P7:α->Prop}{g:Prop}(h:∀x,P1 x->P2 x->P3 x->P4 x->P5 x->P6 x->P7 x->g):(∃x,P1 x/\P2 x/\P3 x/\P4 x/\P5 x/\P6 x/\P7 x)->g:=fun e=>e.elim fun x e=>h x e.1 e.2.1 e.2.2.1 e.2.2.2.1 e.2.2.2.2.1 e.2.2.2.2.2.1 e.2.2.2.2.2.2
theorem Z6W{α:Type}{P1 P2 P3 P4 P5 P6 P7 P8:α->Prop}{g:Prop}(h:∀x,P1 x->P2 x->P3 x->P4 x->P5 x->P6 x->P7 x->P8 x->g):(∃x,P1 x/\P2 x/\P3 x/\P4 x/\P5 x/\P6 x/\P7 x/\P8 x)->g:=fun e=>e.elim fun x e=>h x e.1 e.2.1 e.2.2.1 e.2.2.2.1 e.2.2.2.2.1 e.2.2.2.2.2.1 e.2.2.2.2.2.2.1 e.2.2.2.2.2.2.2
theorem Z2p{α:Type}{P1 P2 P3 P4 P5 P6 P7 P8 P9:α->Prop}{g:Prop}(h:∀x,P1 x->P2 x->P3 x->P4 x->P5 x->P6 x->P7 x->P8 x->P9 x->g):(∃x,P1 x/\P2 x/\P3 x/\P4 x/\P5 x/\P6 x/\P7 x/\P8 x/\P9 x)->g:=fun e=>e.elim fun x e=>h x e.1 e.2.1 e.2.2.1 e.2.2.2.1 e.2.2.2.2.1 e.2.2.2.2.2.1 e.2.2.2.2.2.2.1 e.2.2.2.2.2.2.2.1 e.2.2.2.2.2.2.2.2
theorem Z6A{α:Type}{P1 P2 P3 P4 P5 P6 P7 P8 P9 P10 P11:α->Prop}{g:Prop}(h:∀x,P1 x->P2 x->P3 x->P4 x->P5 x->P6 x->P7 x->P8 x->P9 x->P10 x->P11 x->g):(∃x,P1 x/\P2 x/\P3 x/\P4 x/\P5 x/\P6 x/\P7 x/\P8 x/\P9 x/\P10 x/\P11 x)->g:=fun e=>e.elim fun x e=>h x e.1 e.2.1 e.2.2.1 e.2.2.2.1 e.2.2.2.2.1 e.2.2.2.2.2.1 e.2.2.2.2.2.2.1 e.2.2.2.2.2.2.2.1 e.2.2.2.2.2.2.2.2.1 e.2.2.2.2.2.2.2.2.2.1 e.2.2.2.2.2.2.2.2.2.2
theorem Z54{α β:Type}{P1 P2 P3 P4:α->β->Prop}{g:Prop}(h:∀x y,P1 x y->P2 x y->P3 x y->P4 x y->g):(∃x y,P1 x y/\P2 x y/\P3 x y/\P4 x y)->g:=fun e=>e.elim fun x e=>e.elim fun y e=>h x y e.1 e.2.1 e.2.2.1 e.2.2.2
theorem Z2q{α β:Type}{P1 P2 P3 P4 P5 P6:α->β->Prop}{g:Prop}(h:∀x y,P1 x y->P2 x y->P3 x y->P4 x y->P5 x y->P6 x y->g):(∃x y,P1 x y/\P2 x y/\P3 x y/\P4 x y/\P5 x y/\P6 x y)->g:=fun e=>e.elim fun x e=>e.elim fun y e=>h x y e.1 e.2.1 e.2.2.1 e.2.2.2.1 e.2.2.2.2.1 e.2.2.2.2.2
theorem Z55{α β:Type}{P1 P2 P3 P4 P5 P6 P7:α->β->Prop}{g:Prop}(h:∀x y,P1 x y->P2 x y->P3 x y->P4 x y->P5 x y->P6 x y->P7 x y->g):(∃x y,P1 x y/\P2 x y/\P3 x y/\P4 x y/\P5 x y/\P6 x y/\P7 x y)->g:=fun e=>e.elim fun x e=>e.elim fun y e=>h x y e.1 e.2.1 e.2.2.1 e.2.2.2.1 e.2.2.2.2.1 e.2.2.2.2.2.1 e.2.2.2.2.2.2
theorem Z46{α β γ:Type}{P1 P2 P3 P4 P5 P6 P7 P8 P9 P10 P11:α->β->γ->Prop}{g:Prop}(h:∀x y z,P1 x y z->P2 x y z->P3 x y z->P4 x y z->P5 x y z->P6 x y z->P7 x y z->P8 x y z->P9 x y z->P10 x y z->P11 x y z->g):(∃x y z,P1 x y z/\P2 x y z/\P3 x y z/\P4 x y z/\P5 x y z/\P6 x y z/\P7 x y z/\P8 x y z/\P9 x y z/\P10 x y z/\P11 x y z)->g:=fun e=>e.elim fun x e=>e.elim fun y e=>e.elim fun z e=>h x y z e.1 e.2.1 e.2.2.1 e.2.2.2.1 e.2.2.2.2.1 e.2.2.2.2.2.1 e.2.2.2.2.2.2.1 e.2.2.2.2.2.2.2.1 e.2.2.2.2.2.2.2.2.1 e.2.2.2.2.2.2.2.2.2.1 e.2.2.2.2.2.2.2.2.2.2
theorem Z56{α β γ δ:Type}{P1 P2 P3 P4 P5 P6 P7:α->β->γ->δ->Prop}{g:Prop}(h:∀x y z w,P1 x y z w->P2 x y z w->P3 x y z w->P4 x y z w->P5 x y z w->P6 x y z w->P7 x y z w->g):(∃x y z w,P1 x y z w/\P2 x y z w/\P3 x y z w/\P4 x y z w/\P5 x y z w/\P6 x y z w/\P7 x y z w)->g:=fun e=>e.elim fun x e=>e.elim fun y e=>e.elim fun z e=>e.elim fun w e=>h x y z w e.1 e.2.1 e.2.2.1 e.2.2.2.1 e.2.2.2.2.1 e.2.2.2.2.2.1 e.2.2.2.2.2.2
theorem Z3t{α β γ δ:Type}{P1 P2 P3 P4 P5 P6 P7 P8 P9:α->β->γ->δ->Prop}{g:Prop}(h:∀x y z w,P1 x y z w->P2 x y z w->P3 x y z w->P4 x y z w->P5 x y z w->P6 x y z w->P7 x y z w->P8 x y z w->P9 x y z w->g):(∃x y z w,P1 x y z w/\P2 x y z w/\P3 x y z w/\P4 x y z w/\P5 x y z w/\P6 x y z w/\P7 x y z w/\P8 x y z w/\P9 x y z w)->g:=fun e=>e.elim fun x e=>e.elim fun y e=>e.elim fun z e=>e.elim fun w e=>h x y z w e.1 e.2.1 e.2.2.1 e.2.2.2.1 e.2.2.2.2.1 e.2.2.2.2.2.1 e.2.2.2.2.2.2.1 e.2.2.2.2.2.2.2.1 e.2.2.2.2.2.2.2.2
section
variable {X:XP} {A:Around} {env:Env} {C:Cx} {σ:X0} {ρ:Rho}
theorem Exs.cutJ{st:Stmt}{ss:List Stmt}{Q:pW}(P:Rho->X0->Prop)(h1:∀J:pW,(∀ρ' σ',P ρ' σ'->J .next ρ' σ')->(∀v ρ' σ',Q (.ret v) ρ' σ'->J (.ret v) ρ' σ')->Ex C A env st ρ σ J X)(h2:∀ρ' σ',P ρ' σ'->Exs C A env ss ρ' σ' Q X):Exs C A env (st::ss) ρ σ Q X:=
 Exs.cons (h1 (fun g ρ' σ'=>Then C A env ss Q X g ρ' σ') (fun ρ' σ' p=>h2 ρ' σ' p) fun v ρ' σ' q=>q)
theorem Xi.invJ{α:Type}{target:Expr}{body:List Stmt}{ok:X0->Prop}{Q:pW}(enc:α->V)(I:List α->Rho->X0->Prop)(step:∀(J:pW) x xs,(∀ρ σ,ok σ->I xs ρ σ->J .next ρ σ)->(∀ρ σ,ok σ->I xs ρ σ->J .cont ρ σ)->(∀v ρ σ,Q (.ret v) ρ σ->J (.ret v) ρ σ)->∀ρ σ,I (x::xs) ρ σ->Asg C A env target (enc x) ρ σ (fun ρ1 σ1=>Exs C A env body ρ1 σ1 J (fun z z=>False)) (fun z z=>False))(done:∀ρ σ,I [] ρ σ->Q .next ρ σ)(xs:List α)(ρ:Rho)(σ:X0)(h:I xs ρ σ):Xi C A env target body ok Q (xs.map enc) ρ σ:=
 Xi.inv enc I (fun x xs ρ σ h=>step (LpQ ok (I xs) Q) x xs (fun z z a b=>⟨a,b⟩) (fun z z a b=>⟨a,b⟩) (fun z z z q=>q) ρ σ h) done xs ρ σ h
theorem Xa.invJ{α:Type}{x:Str}{elt:Expr}{ok:X0->Prop}{R:List V->X0->Prop}(enc:α->V)(I:List α->List V->X0->Prop)(step:∀(J:pV) y ys out,(∀z σ2,out.length<=sizeLine->ok σ2->I ys (out++[z]) σ2->J z σ2)->∀σ,I (y::ys) out σ->Ev C A env elt (ρ.put x (enc y)) σ J (fun u u=>False))(done:∀out σ,I [] out σ->R out σ)(ys:List α)(out:List V)(σ:X0)(h:I ys out σ):Xa C A env x [] elt ok ρ R (ys.map enc) out σ:=
 Xa.inv enc I (fun y ys out σ h=>step _ y ys out (fun u u a b c=>⟨a,b,c⟩) σ h) done ys out σ h
end
noncomputable def Zj:Expr->Bool
 | .Starred _ _=>false
 | _=>true
theorem ZP{e:Expr}(h:Zj e=true)(es:List Expr)(env:Env):starEach (e::es) env=(false,eval e env)::starEach es env:=by
 cases e<;>first|rfl|cases h
theorem Z6X{a b:String}(h:(a==b)=false):ofString a≠ofString b:=Z6T fun e=>by rw[e,beq_self_eq_true]at h;cases h
noncomputable def Z2r:Expr->Bool
 | .Call _ _ _ _=>false
 | _=>true
theorem Z1O{o:Expr}(h:Z2r o=true)(name:Str)(env:Env):attributeBase o name env (eval o env)=eval o env:=by
 cases o<;>first|rfl|cases h
section
variable {A:Around} {env:Env} {C:Cx} {σ:X0} {ρ:Rho}
noncomputable def Pe(C:Cx)(A:Around)(env:Env)(ρ:Rho)(σ:X0)(e:Expr)(v:V):Prop:=∀(Q:pV) (X:XP),Q v σ->Ev C A env e ρ σ Q X
noncomputable def Pes(C:Cx)(A:Around)(env:Env)(ρ:Rho)(σ:X0)(es:List Expr)(vs:List V):Prop:=∀(pos:Pos) (Q:List V->X0->Prop) (X:XP),Q vs σ->Ags C A env pos es ρ σ Q X
noncomputable def Xr(C:Cx)(x:V)(name:Str)(σ:X0)(y:V):Prop:=∀Q:pV,Q y σ->Xl C x name σ Q
noncomputable def ItP(C:Cx)(A:Around)(x y:V)(σ:X0)(z:V):Prop:=∀(Q:pV) (X:XP),Q z σ->X5 C A x y σ Q X
noncomputable def BiP(C:Cx)(A:Around)(op:Operator)(x y:V)(σ:X0)(z:V):Prop:=∀(Q:pV) (X:XP),Q z σ->X9 C A op x y σ Q X
noncomputable def CmP(C:Cx)(A:Around)(op:CmpOp)(x y:V)(σ:X0)(z:V):Prop:=∀(Q:pV) (X:XP),Q z σ->X4 C A op x y σ Q X
noncomputable def Tp(C:Cx)(A:Around)(env:Env)(ρ:Rho)(σ:X0)(e:Expr)(b:Bool):Prop:=∀(Q:Bool->X0->Prop) (X:XP),Q b σ->Tst C A env e ρ σ Q X
theorem Ev.pe{X:XP}{A:Around}{env:Env}{C:Cx}{σ:X0}{ρ:Rho}{v:V}{e:Expr}{Q:pV}(h:Pe C A env ρ σ e v)(k:Q v σ):Ev C A env e ρ σ Q X:=h Q X k
theorem Tst.pe{e:Expr}{b:Bool}{Q:Bool->X0->Prop}{X:XP}(h:Tp C A env ρ σ e b)(k:Q b σ):Tst C A env e ρ σ Q X:=h Q X k
theorem Ags.pe{X:XP}{A:Around}{env:Env}{C:Cx}{es:List Expr}{vs:List V}{σ:X0}{ρ:Rho}{pos:Pos}{Q:List V->X0->Prop}(h:Pes C A env ρ σ es vs)(k:Q vs σ):Ags C A env pos es ρ σ Q X:=h pos Q X k
theorem Pe.cint{k:Nat}{C:Cx}{A:Around}{env:Env}{σ:X0}{ρ:Rho}{i:Int}{pos:Pos}:Pe C A env ρ σ (.Constant (.int i) k pos) (.int i):=fun z z h=>Ev.cint h
theorem Pe.cstr{k:Nat}{C:Cx}{A:Around}{env:Env}{σ:X0}{ρ:Rho}{i:Str}{pos:Pos}:Pe C A env ρ σ (.Constant (.str i) k pos) (.str i):=fun z z h=>Ev.cstr h
theorem Pe.cbool{i:Bool}{k:Nat}{pos:Pos}:Pe C A env ρ σ (.Constant (.bool i) k pos) (.bool i):=fun z z h=>Ev.cbool h
theorem Pe.cnone{k:Nat}{pos:Pos}:Pe C A env ρ σ (.Constant .none k pos) .none:=fun z z h=>Ev.cnone h
theorem Pe.nloc{sc:Scope}{q:Str}{f:Addr}{cd:Value}{C:Cx}{A:Around}{L:Addr}{σ:X0}{ρ:Rho}{x:Str}{v:V}{pos:Pos}(hk:sc.names.lookup x=some .local)(hv:ρ.get x=some v)(hd:(x==("__debug__":Str))=false):Pe C A (fE sc q f cd L) ρ σ (.Name x pos) v:=fun z z h=>Ev.nlocF hk hv h hd
theorem Pe.nlocM{sc:Scope}{L:Addr}{cells:List (Str×Addr)}{q:Str}{fn:Option Addr}{cd:Value}{fr:Option Addr}{x:Str}{pos:Pos}{v:V}(hk:sc.names.lookup x=some .local)(hv:ρ.get x=some v)(hd:(x==("__debug__":Str))=false):Pe C A (mkE sc L cells q fn cd fr) ρ σ (.Name x pos) v:=fun z z h=>Ev.nloc hk hv h hd
theorem Pe.ncel{sc:Scope}{q:Str}{f:Addr}{cd:Value}{C:Cx}{A:Around}{L:Addr}{x:Str}{v:V}{σ:X0}{ρ:Rho}{pos:Pos}(hk:sc.names.lookup x=some .cell)(hv:ρ.get x=some v)(hd:(x==("__debug__":Str))=false)(hc:((cellsFrom (L+1) sc.names []).lookup x).isSome=true):Pe C A (fE sc q f cd L) ρ σ (.Name x pos) v:=fun z z h=>Ev.ncelF hk hv h hc hd
theorem Pe.nglob{sc:Scope}{q:Str}{f:Addr}{cd:Value}{A:Around}{L:Addr}{C:Cx}{x:Str}{v:Value}{y:V}{pos:Pos}{σ:X0}{ρ:Rho}(hk:sc.names.lookup x=some .globalImplicit)(e:nsIn C.K mainGlobals x=some (some v))(r:VR C.h₀ v y)(hd:(x==("__debug__":Str))=false):Pe C A (fE sc q f cd L) ρ σ (.Name x pos) y:=fun z z h=>Ev.nglobF hk e r h hd
theorem Pe.tup{es:List Expr}{k:Nat}{pos:Pos}{vs:List V}(h:Pes C A env ρ σ es vs)(hz:vs.length<=9000):Pe C A env ρ σ (.Tuple es k pos) (.tup vs):=fun z z q=>Ev.tuple (h pos _ _ ⟨by rw[sizeLine_eq];exact Nat.le_trans hz (by decide),q⟩)
theorem Pe.attr{o:Expr}{name:Str}{pos:Pos}{x y:V}(h:Pe C A env ρ σ o x)(k:Xr C x name σ y)(hb:Z2r o=true):Pe C A env ρ σ (.Attribute o name pos) y:=fun z z q=>Ev.attr' (h _ _ (k _ q)) (Z1O hb name env)
theorem Pe.sub{C:Cx}{A:Around}{env:Env}{σ:X0}{x:V}{ρ:Rho}{y:V}{z:V}{o:Expr}{i:Expr}{pos:Pos}(h:Pe C A env ρ σ o x)(h2:Pe C A env ρ σ i y)(k:ItP C A x y σ z):Pe C A env ρ σ (.Subscript o i pos) z:=fun u u q=>Ev.sub (h _ _ (h2 _ _ (k _ _ q)))
theorem Pe.bin{a b:Expr}{op:Operator}{pos:Pos}{x y z:V}(h:Pe C A env ρ σ a x)(h2:Pe C A env ρ σ b y)(k:BiP C A op x y σ z):Pe C A env ρ σ (.BinOp a op b pos) z:=fun u u q=>Ev.bin (h _ _ (h2 _ _ (k _ _ q)))
theorem Pe.cmp{a b:Expr}{op:CmpOp}{pos:Pos}{x y z:V}(h:Pe C A env ρ σ a x)(h2:Pe C A env ρ σ b y)(k:CmP C A op x y σ z)(hm:behindInMarks op b=false):Pe C A env ρ σ (.Compare a [op] [b] pos) z:=fun u u q=>Ev.cmp (h _ _ (h2 _ _ (k _ _ q))) hm
theorem Pes.nil:Pes C A env ρ σ [] []:=fun z z z h=>Ags.nil h
theorem Pes.cons{C:Cx}{A:Around}{env:Env}{σ:X0}{ρ:Rho}{vs:List V}{es:List Expr}{v:V}{e:Expr}(h:Pe C A env ρ σ e v)(k:Pes C A env ρ σ es vs)(hs:Zj e=true):Pes C A env ρ σ (e::es) (v::vs):=fun pos z z q=>Ags.cons (h _ _ (k pos _ _ q)) (ZP hs es env)
theorem Xr.mk{a c dx:Addr}{es:List (Str×V)}{y:V}{attr:Option Value}{name:Str}(h1:σ a=some (.inst c dx))(h2:σ dx=some (.sd es))(h3:sget es name=some y)(k1:plainGet C.K c name=true)(k2:hasDictIn C.K c=true)(k3:findIn C.K (.ref c) name=some attr)(k4:noGet C.K attr=true)(k5:∀i,y≠.blt i):Xr C (.ref a) name σ y:=fun z h=>Xl.mk h1 h2 h3 k1 k2 k3 k4 k5 h
theorem Xr.go{x y:V}{name:Str}{Q:pV}(h:Xr C x name σ y)(k:Q y σ):Xl C x name σ Q:=h Q k
theorem ItP.tup0{a:V}{r:List V}:ItP C A (.tup (a::r)) (.int 0) σ a:=fun z z h=>X5.tup0 h
theorem ItP.tup1{a b:V}{r:List V}:ItP C A (.tup (a::b::r)) (.int 1) σ b:=fun z z h=>X5.tup1 h
theorem ItP.tup2{a b c:V}{r:List V}:ItP C A (.tup (a::b::c::r)) (.int 2) σ c:=fun z z h=>X5.tup2 h
theorem BiP.add{a b:Int}:BiP C A .Add (.int a) (.int b) σ (.int (a+b)):=fun z z h=>X9.add_int h
theorem CmP.lt_int{a b:Int}:CmP C A .Lt (.int a) (.int b) σ (.bool (decide (a<b))):=fun z z h=>X4.lt_int h
theorem CmP.gt_int{a b:Int}:CmP C A .Gt (.int a) (.int b) σ (.bool (decide (b<a))):=fun z z h=>X4.gt_int h
theorem CmP.ge_int{a b:Int}:CmP C A .GtE (.int a) (.int b) σ (.bool (decide (b<=a))):=fun z z h=>X4.ge_int h
theorem CmP.eq_str{a b:Str}:CmP C A .Eq (.str a) (.str b) σ (.bool (a==b)):=fun z z h=>X4.eq_str h
theorem CmP.ne_str{a b:Str}:CmP C A .NotEq (.str a) (.str b) σ (.bool (a != b)):=fun z z h=>X4.ne_str h
theorem Tp.cmp{a b:Expr}{op:CmpOp}{pos:Pos}{x y:V}{c:Bool}(h:Pe C A env ρ σ a x)(h2:Pe C A env ρ σ b y)(k:CmP C A op x y σ (.bool c))(hm:behindInMarks op b=false):Tp C A env ρ σ (.Compare a [op] [b] pos) c:=fun z z q=>Tst.cmp (h _ _ (h2 _ _ (k _ _ (Xh.bool q)))) hm
end
section
variable {X:XP} {A:Around} {C:Cx} {σ:X0}
theorem X6.none0{σ σ':X0}(g:X6 σ σ'){x:Addr}(h:σ' x=Option.none):σ x=Option.none:=by
 cases e:σ x with
 | none=>rfl
 | some o=>rw[g _ _ e]at h;cases h
theorem X1.intB{b:Bool}{Q:pV}(h:Q (.int (if b then 1 else 0)) σ):X1 C A (.type "int") [.bool b] σ Q X:=by
 intro s vs S r;obtain⟨_,rfl,r1⟩:=r.one;obtain rfl:=r1.boolI;exact call_int_bool (EP.pureT S h (.int _ _))
end
section
variable {A:Around} {env:Env} {C:Cx} {σ:X0} {ρ:Rho} {l:List Env} {D:Addr} {P:X0->Prop}
end
noncomputable def Z1e:Expr->Bool
 | .ListComp ..=>true
 | .SetComp ..=>true
 | .DictComp ..=>true
 | _=>false
noncomputable def isNm:Expr->Bool
 | .Name ..=>true
 | _=>false
noncomputable def Z57:Expr->Bool
 | .Name ..=>true
 | .Call ..=>true
 | .Attribute ..=>true
 | .Subscript ..=>true
 | _=>false
noncomputable def Z3u:Expr->Bool
 | .Tuple ..=>true
 | .List ..=>true
 | _=>false
noncomputable def ZI(o:Expr)(args:List Expr)(ap pos:Pos):Bool:=args.all Zj&&Z2r o&&decide (args.length<20)&&(ap.endLine==pos.line)
theorem ZA{pos:Pos}{env:Env}:∀{es:List Expr},es.all Zj=true->(backTo pos (starEach es env)).any (fun x=>x.1)=false
 | [],_=>rfl
 | e::es,h=>by
  rw[List.all_cons,Bool.and_eq_true]at h;rw[ZP h.1];exact ZA (es:=es) h.2
theorem Z3v{pos:Pos}{env:Env}:∀{es:List Expr},es.all Zj=true->(backTo pos (starEach es env)).all (fun x=>!x.1)=true
 | [],_=>rfl
 | e::es,h=>by
  rw[List.all_cons,Bool.and_eq_true]at h;rw[ZP h.1];exact Z3v (es:=es) h.2
theorem Z58{pos:Pos}{env:Env}{es:List Expr}(h:es.all Zj=true)(hl:es.length<20):((backTo pos (starEach es env)).all (fun x=>!x.1)&&(backToKw pos (keywordEach [] env)).all (fun x=>x.1.isSome)
   && decide (es.length+([]:List Keyword).length+(if ([]:List Keyword).isEmpty then 0 else 1)<30))=true:=by
 rw[Z3v h];show decide (es.length+0+0<30)=true;exact decide_eq_true (Nat.lt_of_lt_of_le hl (Nat.le_of_ble_eq_true rfl))
theorem Z2L{o:Expr}{args:List Expr}{ap pos:Pos}(h:ZI o args ap pos=true):args.all Zj=true/\Z2r o=true/\args.length<20/\(ap.endLine==pos.line)=true:=by
 unfold ZI at h;rw[Bool.and_eq_true,Bool.and_eq_true,Bool.and_eq_true,decide_eq_true_eq]at h;exact⟨h.1.1.1,h.1.1.2,h.1.2,h.2⟩
theorem Z6B{o:Expr}{name:Str}{apos pos:Pos}{args:List Expr}{env:Env}(h:ZI o args apos pos=true):eval (.Call (.Attribute o name apos) args [] pos) env=(do
   let ov <-eval o env
   standAt apos.atName
   let (f,first) <-holding [ov] (getMethod ov name (do return (<-importBound o env).getD true))
   callWith pos f first (backTo pos (starEach args env)) (backToKw pos (keywordEach [] env))):=by
 have ⟨h,hb,hl,hline⟩:=Z2L h;have hf:methodCallForm (args.length+([]:List Keyword).length) (backTo pos (starEach args env)) (backToKw pos (keywordEach [] env))=true:=Z58 h hl;have hp:methodCallPos true o env apos pos=pure pos:=by unfold methodCallPos;rw[hline];rfl
 rw[arm_eval_Call,Z1O hb];unfold methodCall;rw[hf,hp];rfl
theorem Z1P{f:Expr}{args:List Expr}{pos:Pos}{env:Env}(h:isNm f=true):eval (.Call f args [] pos) env=(do callWith pos (<-eval f env) [] (backTo pos (starEach args env)) (backToKw pos (keywordEach [] env))):=by
 cases f<;>first|rfl|cases h
theorem Z6q{v:Expr}(h:Z1e v=false)(t:Option Expr)(line:Nat)(env:Env):swapsWith v t line env=pure false:=by
 cases v<;>first|rfl|cases h
theorem Z7H{t v:Expr}(h:Z3u t=false)(env:Env):swappedStores [t] v env=pure none:=by
 cases t<;>first|rfl|cases h
theorem Z7I{t:Expr}(h:Z3u t=false)(hs:Zj t=true)(env:Env):(assignEach [t] env).map (fun x=>x.2)=[assign t env]:=by
 cases t<;>first|rfl|(cases hs;done)|(cases h;done)
theorem Z6Y{e:Expr}(h:Z57 e=true)(env:Env):isTrue e env (eval e env)=(do let v <-eval e env;standAt e.pos;holding [v] (truthy v)):=by
 cases e<;>first|rfl|cases h
section
variable {X:XP} {A:Around} {env:Env} {C:Cx} {σ:X0} {ρ:Rho}
theorem Ev.bmethS{o:Expr}{name:Str}{apos pos:Pos}{args:List Expr}{T id:String}{Q:pV}(pa:PlainAttrs T)(slot:Slot T name id)(hty:typeOf (.builtin id)=Pure.pure (.type "method_descriptor"))(h:Ev C A env o ρ σ (fun x σ1=>TyV C σ1 x T/\Ags C A env pos args ρ σ1 (fun xs σ2=>X1 C A (.builtin id) (x::xs) σ2 Q X) X) X)(k:ZI o args apos pos=true):Ev C A env (.Call (.Attribute o name apos) args [] pos) ρ σ Q X:=
 have ⟨h1,h2,h3,h4⟩:=Z2L k
 Ev.bmeth pa slot hty h (Z1O h2 name env) (Z58 h1 h3) h4 (ZA h1)
theorem Ev.methS{o:Expr}{name:Str}{apos pos:Pos}{args:List Expr}{Q:pV}(h:Ev C A env o ρ σ (fun x σ1=>Xj C A env pos args ρ x name σ1 Q X) X)(k:ZI o args apos pos=true):Ev C A env (.Call (.Attribute o name apos) args [] pos) ρ σ Q X:=Ev.meth' h (Z6B k) (ZA (Z2L k).1)
theorem Ags.consS{pos:Pos}{e:Expr}{es:List Expr}{Q:List V->X0->Prop}(h:Ev C A env e ρ σ (fun x σ1=>Ags C A env pos es ρ σ1 (fun xs σ2=>Q (x::xs) σ2) X) X)(k:Zj e=true):Ags C A env pos (e::es) ρ σ Q X:=Ags.cons h (ZP k es env)
theorem Ex.assignS{t value:Expr}{pos:Pos}{Q:pW}(h:Ev C A env value ρ σ (fun x σ1=>Asg C A env t x ρ σ1 (fun ρ' σ'=>Q .next ρ' σ') X) X)(k:(Z1e value||Z3u t||!(Zj t))=false):Ex C A env (.Assign [t] value pos) ρ σ Q X:=
 have ⟨k1,k2⟩:=Bool.or_eq_false_iff.mp k;have ⟨k1,k3⟩:=Bool.or_eq_false_iff.mp k1
 Ex.assign h (Z6q k1 _ _ _) (Z7H k3 _) (Z7I k3 (by rw[<-Bool.not_eq_false',k2]) _)
theorem Ex.exprS{e:Expr}{pos:Pos}{Q:pW}(h:Ev C A env e ρ σ (fun x σ1=>Q .next ρ σ1) X)(hi:interactive env=false)(k:Z1e e=false):Ex C A env (.Expr e pos) ρ σ Q X:=Ex.expr h hi (Z6q k _ _ _)
theorem Tst.valS{e:Expr}{Q:Bool->X0->Prop}(h:Ev C A env e ρ σ (fun x σ1=>Xh C A x σ1 Q X) X)(k:Z57 e=true):Tst C A env e ρ σ Q X:=Tst.val h (Z6Y k env)
theorem Ev.attrS{o:Expr}{name:Str}{pos:Pos}{Q:pV}(h:Ev C A env o ρ σ (fun x σ1=>Xl C x name σ1 Q) X)(k:Z2r o=true):Ev C A env (.Attribute o name pos) ρ σ Q X:=Ev.attr' h (Z1O k name env)
end
section
variable {X:XP} {A:Around} {env:Env} {C:Cx} {σ:X0} {ρ:Rho}
theorem ZD{a b:Bool}(h:(a&&b)=true):a=true/\b=true:=by rwa [Bool.and_eq_true]at h
noncomputable def Xx(C:Cx)(A:Around)(env:Env)(X:XP)(pos:Pos)(args:List Expr)(ρ:Rho)(Q:pV)(fx:V)(σ1:X0):Prop:=
 ∃f,(fx=.blt f/\Ags C A env pos args ρ σ1 (fun xs σ2=>X1 C A (.builtin f) xs σ2 Q X) X)\/(fx=.typ f/\Ags C A env pos args ρ σ1 (fun xs σ2=>X1 C A (.type f) xs σ2 Q X) X)
theorem Ev.callBT{func:Expr}{args:List Expr}{pos:Pos}{Q:pV}(h:Ev C A env func ρ σ (Xx C A env X pos args ρ Q) X)(k:(isNm func&&args.all Zj)=true):Ev C A env (.Call func args [] pos) ρ σ Q X:=Ev.callB h (Z1P (ZD k).1) (ZA (ZD k).2)
theorem Xx.b{f:String}{pos:Pos}{args:List Expr}{Q:pV}(h:Ags C A env pos args ρ σ (fun xs σ2=>X1 C A (.builtin f) xs σ2 Q X) X):Xx C A env X pos args ρ Q (.blt f) σ:=⟨_,.inl ⟨rfl,h⟩⟩
theorem Xx.t{f:String}{pos:Pos}{args:List Expr}{Q:pV}(h:Ags C A env pos args ρ σ (fun xs σ2=>X1 C A (.type f) xs σ2 Q X) X):Xx C A env X pos args ρ Q (.typ f) σ:=⟨_,.inr ⟨rfl,h⟩⟩
noncomputable def CallRK(C:Cx)(A:Around)(env:Env)(X:XP)(pos:Pos)(args:List Expr)(ρ:Rho)(Q:pV)(fx:V)(σ1:X0):Prop:=
 ∃f,fx=.ref f/\keepIn C.K (.ref f)=true/\Ags C A env pos args ρ σ1 (fun xs σ2=>X1 C A (.ref f) xs σ2 Q X) X
theorem Ev.callRT{func:Expr}{args:List Expr}{pos:Pos}{Q:pV}(h:Ev C A env func ρ σ (CallRK C A env X pos args ρ Q) X)(k:(isNm func&&args.all Zj)=true):Ev C A env (.Call func args [] pos) ρ σ Q X:=Ev.callR h (Z1P (ZD k).1) (ZA (ZD k).2)
theorem CallRK.go{f:Addr}{pos:Pos}{args:List Expr}{Q:pV}(k:keepIn C.K (.ref f)=true)(h:Ags C A env pos args ρ σ (fun xs σ2=>X1 C A (.ref f) xs σ2 Q X) X):CallRK C A env X pos args ρ Q (.ref f) σ:=⟨_,rfl,k,h⟩
end
section
variable {X:XP} {A:Around} {C:Cx} {σ:X0}
theorem atK2{β γ δ α:Type}{F:α->Frag}{x:α}{K:Frag}{G:Frag->γ->δ->β}{a:γ}{b:δ}{r:β}(hK:K=F x)(h:∀y,G (F y) a b=r):G K a b=r:=hK▸h x
theorem atK1{β γ α:Type}{F:α->Frag}{x:α}{K:Frag}{G:Frag->γ->β}{a:γ}{r:β}(hK:K=F x)(h:∀y,G (F y) a=r):G K a=r:=hK▸h x
theorem atK0{β α:Type}{F:α->Frag}{x:α}{K:Frag}{G:Frag->β}{r:β}(hK:K=F x)(h:∀y,G (F y)=r):G K=r:=hK▸h x
theorem kNs{F:Params->Frag}{C:Cx}{a:Str}{r:Option (Option Value)}(hK:C.K=F C.w.params)(h:∀y,nsIn (F y) mainGlobals a=r):nsIn C.K mainGlobals a=r:=hK▸h _
theorem kFi{F:Params->Frag}{C:Cx}{a:Value}{b:Str}{r:Option (Option Value)}(hK:C.K=F C.w.params)(h:∀y,findIn (F y) a b=r):findIn C.K a b=r:=hK▸h _
theorem kKe{F:Params->Frag}{C:Cx}{a:Value}(hK:C.K=F C.w.params)(h:∀y,keepIn (F y) a=true):keepIn C.K a=true:=hK▸h _
theorem kHa{F:Params->Frag}{C:Cx}{a:Addr}(hK:C.K=F C.w.params)(h:∀y,hasDictIn (F y) a=true):hasDictIn C.K a=true:=hK▸h _
theorem kPl{F:Params->Frag}{C:Cx}{a:Addr}{b:Str}(hK:C.K=F C.w.params)(h:∀y,plainGet (F y) a b=true):plainGet C.K a b=true:=hK▸h _
theorem kCo{F:Params->Frag}{C:Cx}{a:Value}{b:Str}(hK:C.K=F C.w.params)(h:∀y,codeIn (F y) a b=true):codeIn C.K a b=true:=hK▸h _
theorem kNo{F:Params->Frag}{C:Cx}{a:Option Value}(hK:C.K=F C.w.params)(h:∀y,noGet (F y) a=true):noGet C.K a=true:=hK▸h _
theorem VRs.byGet{h:Heap}:∀{vs:List Value} {xs:List V},vs.length=xs.length->(∀(i:Nat) v x,vs[i]?=some v->xs[i]?=some x->VR h v x)->VRs h vs xs
 | [],[],_,_=>.nil
 | v::vs,x::xs,e,k=>.cons (k 0 v x rfl rfl) (VRs.byGet (Nat.succ.inj e) fun i a b h1 h2=>k (i+1) a b h1 h2)
end
section
variable {X:XP} {A:Around} {C:Cx} {σ:X0}
end
section
variable {X:XP} {A:Around} {env:Env} {C:Cx} {σ:X0} {ρ:Rho} {sc:Scope} {q:Str} {f:Addr} {cd:Value} {L:Addr}
theorem nb_f{b:Bool}(h:(!b)=true):b=false:=by cases b<;>first|rfl|cases h
theorem Exs.asgN{sc:Scope}{q:Str}{f:Addr}{cd:Value}{A:Around}{L:Addr}{C:Cx}{X:XP}{Q:pW}{σ:X0}{x:Str}{tp:Pos}{pos:Pos}{value:Expr}{ss:List Stmt}{ρ:Rho}(hk:sc.names.lookup x=some .local)(h:Ev C A (fE sc q f cd L) value ρ σ (fun y σ1=>Exs C A (fE sc q f cd L) ss (ρ.put x y) σ1 Q X) X)(k:(Z1e value||((cellsFrom (L+1) sc.names []).lookup x).isSome)=false):Exs C A (fE sc q f cd L) (.Assign [.Name x tp] value pos::ss) ρ σ Q X:=
 have ⟨k1,k2⟩:=Bool.or_eq_false_iff.mp k
 Exs.cons (Ex.assignS (h.mono fun y σ1 z=>Asg.nlocF hk rfl z (Option.isNone_iff_eq_none.mp (Option.isSome_eq_false_iff.mp k2))) (by rw[k1];rfl))
theorem Exs.asgP{x:Str}{tp pos:Pos}{value:Expr}{v:V}{ss:List Stmt}{Q:pW}(hk:sc.names.lookup x=some .local)(hp:Pe C A (fE sc q f cd L) ρ σ value v)(h:Exs C A (fE sc q f cd L) ss (ρ.put x v) σ Q X)(k:(Z1e value||((cellsFrom (L+1) sc.names []).lookup x).isSome)=false):Exs C A (fE sc q f cd L) (.Assign [.Name x tp] value pos::ss) ρ σ Q X:=Exs.asgN hk (hp _ _ h) k
theorem Exs.expN{e:Expr}{pos:Pos}{ss:List Stmt}{Q:pW}(h:Ev C A env e ρ σ (fun z σ1=>Exs C A env ss ρ σ1 Q X) X)(hi:interactive env=false)(hs:Z1e e=false):Exs C A env (.Expr e pos::ss) ρ σ Q X:=Exs.cons (Ex.exprS h hi hs)
theorem Exs.retP{e:Expr}{pos:Pos}{v:V}{ss:List Stmt}{Q:pW}(hp:Pe C A env ρ σ e v)(h:Q (.ret v) ρ σ):Exs C A env (.Return (some e) pos::ss) ρ σ Q X:=Exs.cons (Ex.ret (hp _ _ h))
theorem Exs.ifP{t:Expr}{b1 b2 ss:List Stmt}{pos:Pos}{b:Bool}{Q:pW}(hp:Tp C A env ρ σ t b)(h:if b=true then Exs C A env b1 ρ σ (Then C A env ss Q X) X else Exs C A env b2 ρ σ (Then C A env ss Q X) X):Exs C A env (.If t b1 b2 pos::ss) ρ σ Q X:=Exs.cons (Ex.ite (hp _ _ h))
theorem Ev.callPB{g:Str}{np cp:Pos}{args:List Expr}{i:String}{vs:List V}{Q:pV}(hk:sc.names.lookup g=some .globalImplicit)(e:nsIn C.K mainGlobals g=some none)(hv:bootBuiltins g=some (.builtin i))(hn:g≠"__name__")(hp:Pes C A (fE sc q f cd L) ρ σ args vs)(h:X1 C A (.builtin i) vs σ Q X)(k:(!(g==("__debug__":Str))&&args.all Zj)=true):Ev C A (fE sc q f cd L) (.Call (.Name g np) args [] cp) ρ σ Q X:=
 Ev.callB (Ev.nbltF hk e hv (.blt _) ⟨i,.inl ⟨rfl,hp _ _ _ h⟩⟩ hn (nb_f (ZD k).1)) (Z1P rfl) (ZA (ZD k).2)
theorem Ev.callPT{g:Str}{np cp:Pos}{args:List Expr}{i:String}{vs:List V}{Q:pV}(hk:sc.names.lookup g=some .globalImplicit)(e:nsIn C.K mainGlobals g=some none)(hv:bootBuiltins g=some (.type i))(hn:g≠"__name__")(hp:Pes C A (fE sc q f cd L) ρ σ args vs)(h:X1 C A (.type i) vs σ Q X)(k:(!(g==("__debug__":Str))&&args.all Zj)=true):Ev C A (fE sc q f cd L) (.Call (.Name g np) args [] cp) ρ σ Q X:=
 Ev.callB (Ev.nbltF hk e hv (.typ _) ⟨i,.inr ⟨rfl,hp _ _ _ h⟩⟩ hn (nb_f (ZD k).1)) (Z1P rfl) (ZA (ZD k).2)
noncomputable def MetP(C:Cx)(σ:X0)(a:Addr)(name:Str)(g:Addr):Prop:=∀(A:Around) (env:Env) (pos:Pos) (args:List Expr) (ρ:Rho) (Q:pV) (X:XP),Ags C A env pos args ρ σ (fun xs σ2=>X1 C A (.ref g) (.ref a::xs) σ2 Q X) X->Xj C A env pos args ρ (.ref a) name σ Q X
theorem MetP.mk{a c dx g:Addr}{es:List (Str×V)}{name:Str}(h1:σ a=some (.inst c dx))(h2:σ dx=some (.sd es))(h3:sget es name=none)(k1:plainGet C.K c name=true)(k2:findIn C.K (.ref c) name=some (some (.ref g)))(k3:isFn C.K (.ref g)=true)(k4:keepIn C.K (.ref g)=true):MetP C σ a name g:=
 fun z z z z z z z h=>Xj.mk h1 h2 h3 k1 k2 k3 k4 h
theorem Ev.methP{o:Expr}{name:Str}{apos pos:Pos}{args:List Expr}{a g:Addr}{vs:List V}{Q:pV}(ho:Pe C A env ρ σ o (.ref a))(m:MetP C σ a name g)(hp:Pes C A env ρ σ args vs)(h:X1 C A (.ref g) (.ref a::vs) σ Q X)(k:ZI o args apos pos=true):Ev C A env (.Call (.Attribute o name apos) args [] pos) ρ σ Q X:=Ev.methS (ho _ _ (m _ _ _ _ _ _ _ (hp _ _ _ h))) k
theorem Ev.bmethP{o:Expr}{name:Str}{apos pos:Pos}{args:List Expr}{T id:String}{x:V}{vs:List V}{Q:pV}(pa:PlainAttrs T)(slot:Slot T name id)(hty:typeOf (.builtin id)=Pure.pure (.type "method_descriptor"))(ho:Pe C A env ρ σ o x)(ty:TyV C σ x T)(hp:Pes C A env ρ σ args vs)(h:X1 C A (.builtin id) (x::vs) σ Q X)(k:ZI o args apos pos=true):Ev C A env (.Call (.Attribute o name apos) args [] pos) ρ σ Q X:=
 Ev.bmethS pa slot hty (ho _ _ ⟨ty,hp _ _ _ h⟩) k
end
section
variable {X:XP} {A:Around} {env:Env} {C:Cx} {σ:X0} {ρ:Rho} {s:Shared}
theorem PR.nth{K:Type}{h:Heap}{kvs:List (K×Value)}{es:List (K×V)}(z:PR h kvs es):∀{i:Nat} {p:K×V},es[i]?=some p->∃v,kvs[i]?=some (p.1,v):=by
 induction z with
 | nil=>intro i p e;cases e
 | cons r _ ih=>
  intro i p e
  cases i with
  | zero=>cases e;exact⟨_,rfl⟩
  | succ i=>exact ih e
end
noncomputable def Zt:Bool->Keyed->Array Keyed->Nat->Nat->Nat->StateT SortSt Sem (Option Nat):=sortPriv% PySem.Builtin.gallop
noncomputable def Z2a:Array Keyed->Array Keyed->StateT SortSt Sem (Array Keyed):=sortPriv% PySem.Builtin.mergeLo
noncomputable def Z2b:Array Keyed->Array Keyed->StateT SortSt Sem (Array Keyed):=sortPriv% PySem.Builtin.mergeHi
abbrev Z1f(st:SortSt)(g:Nat):SortSt:=SortSt.mk' (kindOf st) (arrOf st) (pendingOf st) g (failedOf st)
abbrev Z6C(st:SortSt)(a:Array Keyed):SortSt:=SortSt.mk' (kindOf st) a (pendingOf st) (gallopOf st) (failedOf st)
noncomputable def ZJ(left:Bool)(key:Keyed)(arr:Array Keyed)(base i:Nat):StateT SortSt Sem (Option Bool):=do
 let x <-elem' arr (base+i)
 if left then lt' x key else return (<-lt' key x).map (!·)
abbrev Zm:=Option (Option Nat)×Nat×Nat
noncomputable def Z59(left:Bool)(key:Keyed)(arr:Array Keyed)(base n hint:Nat):StateT SortSt Sem Zm:=
 forIn [0:n] ((none,0,1):Zm) fun z r=>
  if r.2.2>=n-hint then pure (ForInStep.done (none,r.2.1,r.2.2))
  else do
   let x <-ZJ left key arr base (hint+r.2.2)
   match x with
   | some more=>if (!more)=true then pure (ForInStep.done (none,r.2.1,r.2.2)) else pure (ForInStep.yield (none,r.2.2,2*r.2.2+1))
   | _=>pure (ForInStep.done (some none,r.2.1,r.2.2))
noncomputable def Z6r(left:Bool)(key:Keyed)(arr:Array Keyed)(base n hint:Nat):StateT SortSt Sem Zm:=
 forIn [0:n] ((none,0,1):Zm) fun z r=>
  if r.2.2>=hint+1 then pure (ForInStep.done (none,r.2.1,r.2.2))
  else do
   let x <-ZJ left key arr base (hint-r.2.2)
   match x with
   | some found=>if found=true then pure (ForInStep.done (none,r.2.1,r.2.2)) else pure (ForInStep.yield (none,r.2.2,2*r.2.2+1))
   | _=>pure (ForInStep.done (some none,r.2.1,r.2.2))
noncomputable def Z7J(left:Bool)(key:Keyed)(arr:Array Keyed)(base n lo hi:Nat):StateT SortSt Sem Zm:=
 forIn [0:n] ((none,lo,hi):Zm) fun z r=>
  if r.2.1>=r.2.2 then pure (ForInStep.done (none,r.2.1,r.2.2))
  else do
   let x <-ZJ left key arr base (r.2.1+(r.2.2-r.2.1) / 2)
   match x with
   | some more=>if more=true then pure (ForInStep.yield (none,r.2.1+(r.2.2-r.2.1) / 2+1,r.2.2)) else pure (ForInStep.yield (none,r.2.1,r.2.1+(r.2.2-r.2.1) / 2))
   | _=>pure (ForInStep.done (some none,r.2.1,r.2.2))
noncomputable def binP(left:Bool)(key:Keyed)(arr:Array Keyed)(base n lo hi:Nat):StateT SortSt Sem (Option Nat):=do
 let r <-Z7J left key arr base n lo hi
 match r.1 with
 | some r=>pure r
 | none=>pure (some r.2.2)
theorem Z4A(left:Bool)(key:Keyed)(arr:Array Keyed)(base n hint:Nat):Zt left key arr base n hint=(do
 let x <-ZJ left key arr base hint
 match x with
 | some right=>
  if right=true then do
   let r <-Z59 left key arr base n hint
   match r.1 with
   | some r=>pure r
   | none=>binP left key arr base n (hint+r.2.1+1) (hint+min r.2.2 (n-hint))
  else do
   let r <-Z6r left key arr base n hint
   match r.1 with
   | some r=>pure r
   | none=>binP left key arr base n (hint+1-min r.2.2 (hint+1)) (hint-r.2.1)
 | _=>pure none):=by kernel_rfl
section
variable {M:Model} {A:Around} {E:pS} {s:Shared}
theorem Z4{arr:Array Keyed}{i:Nat}{x:Keyed}{Q:Keyed->SortSt->Prop}{st:SortSt}(e:arr[i]?=some x)(h:Q x st):wpS M A E s (elem' arr i) Q st:=by
 show wpS M A E s (match arr[i]? with|some p=>pure p|none=>unsupported "internal:list.sort.index") Q st;rw[e];exact wpS_pure h
structure Ask(M:Model)(A:Around)(E:pS)(s:Shared)(κ:SortKind)(G:Keyed->Prop)(kx:Keyed->Int):Prop where
 ask:∀(x y:Keyed) (st:SortSt) (Q:Option Bool->SortSt->Prop),G x->G y->kindOf st=κ->Q (some (decide (kx x<kx y))) st->wpS M A E s (lt' x y) Q st
variable {κ:SortKind} {G:Keyed->Prop} {kx:Keyed->Int}
noncomputable def bey(kx:Keyed->Int)(left:Bool)(key:Keyed)(arr:Array Keyed)(base i:Nat):Bool:=match arr[base+i]? with
 | some x=>if left then decide (kx x<kx key) else !decide (kx key<kx x)
 | none=>false
theorem Z6D(c:Ask M A E s κ G kx){left:Bool}{key:Keyed}{arr:Array Keyed}{base i:Nat}{st:SortSt}{Q:Option Bool->SortSt->Prop}(hk:kindOf st=κ)(hkey:G key){x:Keyed}(e:arr[base+i]?=some x)(hx:G x)(h:Q (some (bey kx left key arr base i)) st):wpS M A E s (ZJ left key arr base i) Q st:=by
 unfold ZJ;unfold bey at h;rw[e]at h;refine wpS_bind (Z4 e ?_)
 cases left with
 | true=>exact c.ask x key st Q hx hkey hk h
 | false=>
  refine wpS_bind (c.ask key x st _ hkey hx hk ?_);exact wpS_pure h
theorem Z3{α:Type}{Q:α->SortSt->Prop}{st:SortSt}{p:Prop}[Decidable p]{x y:StateT SortSt Sem α}(h1:p->wpS M A E s x Q st)(h2:¬p->wpS M A E s y Q st):wpS M A E s (if p then x else y) Q st:=by
 by_cases h:p
 ·rw[if_pos h];exact h1 h
 ·rw[if_neg h];exact h2 h
theorem nbt{b:Bool}(h:(!b)=true):b=false:=by cases b<;>first|rfl|cases h
theorem nbf{b:Bool}(h:¬(!b)=true):b=true:=by cases b<;>first|rfl|exact absurd rfl h
structure GC(M:Model)(A:Around)(E:pS)(s:Shared)(left:Bool)(key:Keyed)(arr:Array Keyed)(base n:Nat)(st:SortSt)(b:Nat->Bool):Prop where
 ask:∀(i:Nat) (Q:Option Bool->SortSt->Prop),i<n->Q (some (b i)) st->wpS M A E s (ZJ left key arr base i) Q st
 mono:∀i j,i<=j->j<n->b j=true->b i=true
 anti:∀i j,i<=j->j<n->b i=false->b j=false
section
variable {left:Bool} {key:Keyed} {arr:Array Keyed} {base n hint:Nat} {st:SortSt} {b:Nat->Bool}
theorem Z47{lo hi:Nat}{Q:Option Nat->SortSt->Prop}(c:GC M A E s left key arr base n st b)(h1:lo<=hi)(h2:hi<=n)(h3:∀i,i<lo->b i=true)(h4:∀i,hi<=i->i<n->b i=false)(h:∀k,k<=n->(∀i,i<k->b i=true)->(∀i,k<=i->i<n->b i=false)->Q (some k) st):wpS M A E s (binP left key arr base n lo hi) Q st:=by
 revert M A E s left key arr base n st b lo hi Q;k_extra "v";intro M A E s left key arr base n st b lo hi Q c h1 h2 h3 h4 h
 refine wpS_bind (wpS_mono (wpS_forRange (I:=fun x (r:Zm) st'=>st'=st/\r.1=none/\r.2.1<=r.2.2/\r.2.2<=n/\r.2.2-r.2.1<=n-x/\(∀i,i<r.2.1->b i=true)/\(∀i,r.2.2<=i->i<n->b i=false))
  (Q:=fun(r:Zm) st'=>st'=st/\r.1=none/\r.2.2<=n/\(∀i,i<r.2.2->b i=true)/\(∀i,r.2.2<=i->i<n->b i=false)) ?_ ?_ ⟨rfl,rfl,h1,h2,by exact(Nr 0x6037102e008009) h2,h3,h4⟩) ?_)
 ·rintro x ⟨r,lo,hi⟩ st' _ hx ⟨rfl,rfl,q1,q2,q3,q4,q5⟩;refine Z3 (fun hge=>?_) fun hge=>wpS_bind (c.ask _ _ (by exact Y1C q2 hge) ?_)
  ·obtain rfl:lo=hi:=by exact YO q1 hge
   exact wpS_pure ⟨rfl,rfl,q2,q4,q5⟩
  ·refine Z3 (fun hm=>?_) fun hm=>?_
   ·exact wpS_pure ⟨rfl,rfl,by exact Y1E hge,by exact Y15 q2,by exact Y1F q3,fun i hi'=>c.mono i _ (by exact Y1H hi') (by exact Y1C q2 hge) hm,q5⟩
   ·exact wpS_pure ⟨rfl,rfl,by exact Y1J,by exact Y1L q2 hge,by exact Y1M q3,q4,fun i hi' hi2=>c.anti _ i hi' hi2 (Bool.eq_false_iff.mpr hm)⟩
 ·rintro⟨r,lo,hi⟩ st' ⟨rfl,rfl,q1,q2,q3,q4,q5⟩;obtain rfl:lo=hi:=by exact Y1d q1 q3
  exact⟨rfl,rfl,q2,q4,q5⟩
 ·rintro⟨r,lo,hi⟩ st' ⟨rfl,rfl,q1,q2,q3⟩;exact wpS_pure (h hi q1 q2 q3)
theorem Z5a{Q:Zm->SortSt->Prop}(c:GC M A E s left key arr base n st b)(hh:hint<n)(hr:b hint=true)(h:∀la o,la<o->la<n-hint->b (hint+la)=true->(n-hint<=o\/b (hint+o)=false)->Q (none,la,o) st):wpS M A E s (Z59 left key arr base n hint) Q st:=by
 revert M A E s left key arr base n hint st b Q;k_extra "z";intro M A E s left key arr base n hint st b Q c hh hr h
 refine wpS_mono (wpS_forRange (I:=fun x (r:Zm) st'=>st'=st/\r.1=none/\r.2.1<r.2.2/\r.2.1<n-hint/\x+1<=r.2.2/\b (hint+r.2.1)=true)
  (Q:=fun(r:Zm) st'=>st'=st/\r.1=none/\r.2.1<r.2.2/\r.2.1<n-hint/\b (hint+r.2.1)=true/\(n-hint<=r.2.2\/b (hint+r.2.2)=false)) ?_ ?_ ⟨rfl,rfl,by exact Y1N,by exact(Nq 0x1b830108029) hh,by exact Y1P,hr⟩) ?_
 ·rintro x ⟨r,la,o⟩ st' _ hx ⟨rfl,rfl,q1,q2,q3,q4⟩;refine Z3 (fun hge=>wpS_pure ⟨rfl,rfl,q1,q2,q4,.inl hge⟩) fun hge=>wpS_bind (c.ask _ _ (by exact(Nr 0x805608041b80c9) hge) (Z3 (fun hm=>?_) fun hm=>?_))
  ·exact wpS_pure ⟨rfl,rfl,q1,q2,q4,.inr (nbt hm)⟩
  ·exact wpS_pure ⟨rfl,rfl,by exact Y1R,by exact(Nr 0x106e008041b80c9) hge,by exact Y1T q3,nbf hm⟩
 ·rintro⟨r,la,o⟩ st' ⟨rfl,rfl,q1,q2,q3,q4⟩;exact⟨rfl,rfl,q1,q2,q4,.inl (by exact Y1U q3)⟩
 ·rintro⟨r,la,o⟩ st' ⟨rfl,rfl,q1,q2,q3,q4⟩;exact h la o q1 q2 q3 q4
theorem Z60{Q:Zm->SortSt->Prop}(c:GC M A E s left key arr base n st b)(hh:hint<n)(hr:b hint=false)(h:∀la o,la<o->la<hint+1->b (hint-la)=false->(hint+1<=o\/b (hint-o)=true)->Q (none,la,o) st):wpS M A E s (Z6r left key arr base n hint) Q st:=by
 revert M A E s left key arr base n hint st b Q;k_extra "z";intro M A E s left key arr base n hint st b Q c hh hr h
 refine wpS_mono (wpS_forRange (I:=fun x (r:Zm) st'=>st'=st/\r.1=none/\r.2.1<r.2.2/\r.2.1<hint+1/\x+1<=r.2.2/\b (hint-r.2.1)=false)
  (Q:=fun(r:Zm) st'=>st'=st/\r.1=none/\r.2.1<r.2.2/\r.2.1<hint+1/\b (hint-r.2.1)=false/\(hint+1<=r.2.2\/b (hint-r.2.2)=true)) ?_ ?_ ⟨rfl,rfl,by exact Y1N,by exact(Np 0x700b0301),by exact Y1P,hr⟩) ?_
 ·rintro x ⟨r,la,o⟩ st' _ hx ⟨rfl,rfl,q1,q2,q3,q4⟩;refine Z3 (fun hge=>wpS_pure ⟨rfl,rfl,q1,q2,q4,.inl hge⟩) fun hge=>wpS_bind (c.ask _ _ (by exact Y22 hh) (Z3 (fun hm=>?_) fun hm=>?_))
  ·exact wpS_pure ⟨rfl,rfl,q1,q2,q4,.inr hm⟩
  ·exact wpS_pure ⟨rfl,rfl,by exact Y1R,by exact(Nq 0x380d80100701b00c9) hge,by exact Y1T q3,Bool.eq_false_iff.mpr hm⟩
 ·rintro⟨r,la,o⟩ st' ⟨rfl,rfl,q1,q2,q3,q4⟩;exact⟨rfl,rfl,q1,q2,q4,.inl (by exact Y24 hh q3)⟩
 ·rintro⟨r,la,o⟩ st' ⟨rfl,rfl,q1,q2,q3,q4⟩;exact h la o q1 q2 q3 q4
theorem Z5b{Q:Option Nat->SortSt->Prop}(c:Ask M A E s κ G kx)(hk:kindOf st=κ)(hkey:G key)(hG:∀i,i<n->∃x,arr[base+i]?=some x/\G x)(hh:hint<n)(mono:∀i j,i<=j->j<n->bey kx left key arr base j=true->bey kx left key arr base i=true)(h:∀k,k<=n->(∀i,i<k->bey kx left key arr base i=true)->(∀i,k<=i->i<n->bey kx left key arr base i=false)->Q (some k) st):wpS M A E s (Zt left key arr base n hint) Q st:=by
 revert M A E s κ G kx left key arr base n hint st Q;k_extra "l";intro M A E s κ G kx left key arr base n hint st Q c hk hkey hG hh mono h
 have c:GC M A E s left key arr base n st (bey kx left key arr base):=⟨fun i Q hi hq=>by
  obtain⟨x,e,g⟩:=hG i hi;exact Z6D c hk hkey e g hq,mono,fun i j hij hj hf=>by
  cases q:bey kx left key arr base j with
  | false=>rfl
  | true=>rw[mono i j hij hj q]at hf;cases hf⟩
 generalize bey kx left key arr base=b at *;rw[Z4A];refine wpS_bind (c.ask hint _ hh (Z3 (fun hr=>wpS_bind (Z5a c hh hr fun la o q1 q2 q3 q4=>?_)) fun hr=>wpS_bind (Z60 c hh (Bool.eq_false_iff.mpr hr) fun la o q1 q2 q3 q4=>?_)))
 ·refine Z47 c (by exact Y1V q1 q2) (by exact Y1W q2) (fun i hi=>c.mono i _ (by exact(Nr 0x41b0001c0836b0029) hi) (by exact(Nr 0x402b0441b8029) q2) q3) (fun i h1 h2=>?_) h;rcases q4 with q|q
  ·exact Y1Z h1 h2 q
  ·exact c.anti _ i (by exact Y20 h1 h2) h2 q
 ·refine Z47 c (by exact Y25 q1) (by exact(Nr 0x1102e008029) hh) (fun i hi=>?_) (fun i h1 h2=>c.anti _ i h1 h2 q3) h
  by_cases hz:hint+1<=o
  ·exact Y27 hi hz
  ·exact c.mono i _ (by exact Y28 hi) (by exact Y22 hh) (q4.resolve_left hz)
end
end
section
variable {kx:Keyed->Int}
noncomputable def Xd(kx:Keyed->Int)(l:List Keyed):Prop:=l.Pairwise fun x y=>kx x<=kx y
structure MI(kx:Keyed->Int)(a b:List Keyed)(out ra rb:List Keyed):Prop where
 perm:(out++(ra++rb)).Perm (a++b)
 srt:Xd kx out
 lo:∀x∈out,∀y∈ra++rb,kx x<=kx y
 sa:Xd kx ra
 sb:Xd kx rb
variable {a b out ra rb:List Keyed}
theorem MI.addA(I:MI kx a b out ra rb)(k:Nat)(h:∀x∈ra.take k,∀y∈rb,kx x<=kx y):MI kx a b (out++ra.take k) (ra.drop k) rb:=by
 have e:ra.take k++ra.drop k=ra:=List.take_append_drop k ra;have s:=I.sa;rw[<-e]at s;obtain⟨s1,s2,s3⟩:=List.pairwise_append.mp s;refine⟨?_,?_,?_,s2,I.sb⟩
 ·have:out++ra.take k++(ra.drop k++rb)=out++(ra++rb):=by
   rw[append_assoc,<-append_assoc (ra.take k),e]
  rw[this];exact I.perm
 ·refine List.pairwise_append.mpr ⟨I.srt,s1,fun x hx y hy=>I.lo x hx y ?_⟩;exact List.mem_append.mpr (.inl (List.mem_of_mem_take hy))
 ·intro x hx y hy;rcases List.mem_append.mp hx with hx|hx
  ·rcases List.mem_append.mp hy with hy|hy
   ·exact I.lo x hx y (List.mem_append.mpr (.inl (List.mem_of_mem_drop hy)))
   ·exact I.lo x hx y (List.mem_append.mpr (.inr hy))
  ·rcases List.mem_append.mp hy with hy|hy
   ·exact s3 x hx y hy
   ·exact h x hx y hy
theorem MI.addB(I:MI kx a b out ra rb)(k:Nat)(h:∀y∈rb.take k,∀x∈ra,kx y<=kx x):MI kx a b (out++rb.take k) ra (rb.drop k):=by
 revert kx a b out ra rb I k h;k_extra "O";intro kx a b out ra rb I k h
 have e:rb.take k++rb.drop k=rb:=List.take_append_drop k rb;have s:=I.sb;rw[<-e]at s;obtain⟨s1,s2,s3⟩:=List.pairwise_append.mp s;refine⟨?_,?_,?_,I.sa,s2⟩
 ·refine List.Perm.trans ?_ I.perm;rw[append_assoc];refine List.Perm.append_left out ?_;have:ra++rb=ra++(rb.take k++rb.drop k):=by rw[e]
  rw[this];exact List.perm_append_comm_assoc _ _ _
 ·refine List.pairwise_append.mpr ⟨I.srt,s1,fun x hx y hy=>I.lo x hx y ?_⟩;exact List.mem_append.mpr (.inr (List.mem_of_mem_take hy))
 ·intro x hx y hy;rcases List.mem_append.mp hx with hx|hx
  ·rcases List.mem_append.mp hy with hy|hy
   ·exact I.lo x hx y (List.mem_append.mpr (.inl hy))
   ·exact I.lo x hx y (List.mem_append.mpr (.inr (List.mem_of_mem_drop hy)))
  ·rcases List.mem_append.mp hy with hy|hy
   ·exact h x hx y hy
   ·exact s3 x hx y hy
noncomputable def Xs(kx:Keyed->Int)(a b r:List Keyed):Prop:=r.Perm (a++b)/\Xd kx r
theorem MI.fin(I:MI kx a b out ra rb)(h:∀x∈ra,∀y∈rb,kx x<=kx y):Xs kx a b (out++ra++rb):=by
 rw[append_assoc];exact⟨I.perm,List.pairwise_append.mpr ⟨I.srt,List.pairwise_append.mpr ⟨I.sa,I.sb,h⟩,I.lo⟩⟩
theorem MI.finB(I:MI kx a b out ra rb)(h:∀x∈ra,∀y∈rb,kx y<=kx x):Xs kx a b (out++rb++ra):=by
 rw[append_assoc];refine⟨(List.Perm.append_left out List.perm_append_comm).trans I.perm,List.pairwise_append.mpr ⟨I.srt,List.pairwise_append.mpr ⟨I.sb,I.sa,fun x hx y hy=>h y hy x hx⟩,fun x hx y hy=>I.lo x hx y ?_⟩⟩;rcases List.mem_append.mp hy with hy|hy
 ·exact List.mem_append.mpr (.inr hy)
 ·exact List.mem_append.mpr (.inl hy)
theorem Zn(xs:Array Keyed)(i k:Nat):(xs.extract i k).toList=(xs.toList.drop i).take (k-i):=by
 rw[Array.toList_extract]
theorem Z1Q(xs:Array Keyed)(i:Nat):(xs.extract i xs.size).toList=xs.toList.drop i:=by
 rw[Zn,take_of_length_le (by simp)]
variable {M:Model} {A:Around} {E:pS} {s:Shared} {κ:SortKind} {G:Keyed->Prop}
theorem Z2M{l:List Keyed}(hs:Xd kx l){i j:Nat}{x y:Keyed}(hij:i<=j)(hx:l[i]?=some x)(hy:l[j]?=some y):kx x<=kx y:=by
 obtain⟨hi,ex⟩:=List.getElem?_eq_some_iff.mp hx;obtain⟨hj,ey⟩:=List.getElem?_eq_some_iff.mp hy;rcases Nat.lt_or_ge i j with h|h
 ·have:=List.pairwise_iff_getElem.mp hs i j hi hj h;rw[ex,ey]at this;exact this
 ·have:i=j:=by exact YO hij h
  subst this;rw[ex]at ey;rw[ey];exact Int.le_refl _
theorem Z1g(arr:Array Keyed)(base n i:Nat)(hi:i<n):((arr.toList.drop base).take n)[i]?=arr[base+i]?:=by
 rw[List.getElem?_take_of_lt hi,List.getElem?_drop];simp
theorem Z1h{left:Bool}{key:Keyed}{arr:Array Keyed}{base n hint:Nat}{st:SortSt}{Q:Option Nat->SortSt->Prop}(c:Ask M A E s κ G kx)(hk:kindOf st=κ)(hkey:G key)(hG:∀x∈arr.toList,G x)(hs:Xd kx ((arr.toList.drop base).take n))(hn:base+n<=arr.size)(hh:hint<n)(h:∀k,k<=n->(∀x∈(arr.toList.drop base).take k,kx x<=kx key/\(left=true->kx x<kx key))->(∀x∈((arr.toList.drop base).take n).drop k,kx key<=kx x/\(left=false->kx key<kx x))->Q (some k) st):wpS M A E s (Zt left key arr base n hint) Q st:=by
 revert kx M A E s κ G left key arr base n hint st Q;k_extra "l";intro kx M A E s κ G left key arr base n hint st Q c hk hkey hG hs hn hh h
 have at_:∀i,i<n->∃x,arr[base+i]?=some x/\x∈arr.toList:=fun i hi=>by
  have:base+i<arr.size:=by exact Yb hn hi
  exact⟨arr[base+i],by simp[this],by simp⟩
 refine Z5b c hk hkey (fun i hi=>by obtain⟨x,e,m⟩:=at_ i hi;exact⟨x,e,hG x m⟩) hh ?_ fun k h1 h2 h3=>h k h1 ?_ ?_
 ·intro i j hij hj hb;obtain⟨x,ex,_⟩:=at_ i (by exact Y29 hij hj);obtain⟨y,ey,_⟩:=at_ j hj;have:=Z2M hs hij ((Z1g arr base n i (by exact Y29 hij hj)).trans ex) ((Z1g arr base n j hj).trans ey);unfold bey at hb ⊢;rw[ex];rw[ey]at hb
  cases left
  ·simp only[Bool.false_eq_true,if_false,Bool.not_eq_true',decide_eq_false_iff_not]at hb ⊢;exact(Jr 0x110c1110c908069) this hb
  ·simp only[if_true,decide_eq_true_eq]at hb ⊢;exact(Jr 0x8041048908069) this hb
 ·intro x hx;obtain⟨i,hi⟩:=List.mem_iff_getElem?.mp hx;have hik:i<k:=by
   have:=(List.getElem?_eq_some_iff.mp hi).1;simp at this;exact Y2c this
  rw[Z1g arr base k i hik]at hi;have hb:=h2 i hik;unfold bey at hb;rw[hi]at hb
  cases left
  ·simp only[Bool.false_eq_true,if_false,Bool.not_eq_true',decide_eq_false_iff_not]at hb;exact⟨by exact Yg hb,fun z=>by cases z⟩
  ·simp only[if_true,decide_eq_true_eq]at hb;exact⟨by exact Yr hb,fun u=>hb⟩
 ·intro x hx;obtain⟨i,hi⟩:=List.mem_iff_getElem?.mp hx;rw[List.getElem?_drop]at hi;have hik:k+i<n:=by
   have:=(List.getElem?_eq_some_iff.mp hi).1;simp at this;exact Y2d this
  rw[Z1g arr base n _ hik]at hi;have hb:=h3 (k+i) (by exact Y17) hik;unfold bey at hb;rw[hi]at hb
  cases left
  ·simp only[Bool.false_eq_true,if_false,Bool.not_eq_false',decide_eq_true_eq]at hb;exact⟨by exact Yr hb,fun u=>hb⟩
  ·simp only[if_true,decide_eq_false_iff_not]at hb;exact⟨by exact Yg hb,fun z=>by cases z⟩
abbrev MA(kx:Keyed->Int)(a b out:Array Keyed)(ia ib:Nat):Prop:=MI kx a.toList b.toList out.toList (a.toList.drop ia) (b.toList.drop ib)
section
variable {a b out:Array Keyed} {ia ib:Nat}
theorem Zo{xs:Array Keyed}{i:Nat}{x:Keyed}(e:xs[i]?=some x):xs.toList.drop i=x::xs.toList.drop (i+1):=by
 have e':xs.toList[i]?=some x:=by simpa using e
 obtain⟨hi,rfl⟩:=List.getElem?_eq_some_iff.mp e';exact List.drop_eq_getElem_cons hi
theorem MA.pushB{y:Keyed}(I:MA kx a b out ia ib)(ey:b[ib]?=some y)(h:∀x∈a.toList.drop ia,kx y<=kx x):MA kx a b (out.push y) ia (ib+1):=by
 have:=MI.addB I 1 (by rw[Zo ey];simpa using h);rw[Zo ey]at this;unfold MA;rw[Array.toList_push];simpa using this
theorem MA.pushA{x:Keyed}(I:MA kx a b out ia ib)(ex:a[ia]?=some x)(h:∀y∈b.toList.drop ib,kx x<=kx y):MA kx a b (out.push x) (ia+1) ib:=by
 have:=MI.addA I 1 (by rw[Zo ex];simpa using h);rw[Zo ex]at this;unfold MA;rw[Array.toList_push];simpa using this
theorem MA.extA(k:Nat)(I:MA kx a b out ia ib)(h:∀x∈(a.toList.drop ia).take k,∀y∈b.toList.drop ib,kx x<=kx y):MA kx a b (out++a.extract ia (ia+k)) (ia+k) ib:=by
 have:=MI.addA I k h;rw[List.drop_drop]at this;have e:(out++a.extract ia (ia+k)).toList=out.toList++(a.toList.drop ia).take k:=by
  rw[Array.toList_append,Zn];simp
 unfold MA;rw[e];exact this
theorem MA.extB(k:Nat)(I:MA kx a b out ia ib)(h:∀y∈(b.toList.drop ib).take k,∀x∈a.toList.drop ia,kx y<=kx x):MA kx a b (out++b.extract ib (ib+k)) ia (ib+k):=by
 have:=MI.addB I k h;rw[List.drop_drop]at this;have e:(out++b.extract ib (ib+k)).toList=out.toList++(b.toList.drop ib).take k:=by
  rw[Array.toList_append,Zn];simp
 unfold MA;rw[e];exact this
theorem MA.headA{x:Keyed}(I:MA kx a b out ia ib)(ex:a[ia]?=some x):∀z∈a.toList.drop ia,kx x<=kx z:=by
 intro z hz;have:=I.sa;rw[Zo ex]at this hz;rcases List.mem_cons.mp hz with rfl|hz
 ·exact Int.le_refl _
 ·exact(List.pairwise_cons.mp this).1 z hz
theorem MA.headB{y:Keyed}(I:MA kx a b out ia ib)(ey:b[ib]?=some y):∀z∈b.toList.drop ib,kx y<=kx z:=by
 intro z hz;have:=I.sb;rw[Zo ey]at this hz;rcases List.mem_cons.mp hz with rfl|hz
 ·exact Int.le_refl _
 ·exact(List.pairwise_cons.mp this).1 z hz
theorem MA.len(I:MA kx a b out ia ib)(ha:ia<=a.size)(hb:ib<=b.size):out.size=ia+ib:=by
 have:=I.perm.length_eq;simp at this;exact(Nt 0x81620861b0877006f6258491880908009) ha hb this
theorem MA.done(I:MA kx a b out ia ib)(h:a.size<=ia\/b.size<=ib):Xs kx a.toList b.toList (out++a.extract ia a.size++b.extract ib b.size).toList:=by
 rw[Array.toList_append,Array.toList_append,Z1Q,Z1Q];refine MI.fin I ?_;rcases h with h|h
 ·rw[List.drop_of_length_le (by simpa using h)];simp
 ·rw[List.drop_of_length_le (l:=b.toList) (by simpa using h)];simp
theorem MA.last(I:MA kx a b out ia ib)(h:∀x∈a.toList.drop ia,∀y∈b.toList.drop ib,kx y<=kx x):Xs kx a.toList b.toList (out++b.extract ib b.size++a.extract ia a.size).toList:=by
 rw[Array.toList_append,Array.toList_append,Z1Q,Z1Q];exact MI.finB I h
end
end
end Mine.Internal
set_option maxHeartbeats 1000000
namespace Mine.Internal
open PySem PyProof.Rows
section
variable {prog:Program} {w:World} {A:Around} {E:pS} {s:Shared} {κ:SortKind} {G:Keyed->Prop} {kx:Keyed->Int}
theorem Zb{xs:Array Keyed}{i:Nat}(h:i<xs.size):∃x,xs[i]?=some x/\x∈xs.toList:=⟨xs[i],by simp[h],by simp⟩
theorem Z61{l:List Keyed}{i:Nat}{x:Keyed}(h:x∈l.drop i):x∈l:=List.mem_of_mem_drop h
structure Alv(kx:Keyed->Int)(a b:Array Keyed)(n0:Nat)(out:Array Keyed)(ia ib:Nat):Prop where
 I:MA kx a b out ia ib
 ha:ia+1<a.size
 hb:ib<b.size
 hn:n0<=out.size
section
variable {M:Model} {α β γ δ R T:Type} {Q:α->SortSt->Prop} {st:SortSt}
theorem Z9{m n:Nat}{x y:StateT SortSt Sem α}(h1:m=n->wpS M A E s x Q st)(h2:¬m=n->wpS M A E s y Q st):wpS M A E s (if (m==n)=true then x else y) Q st:=
 Z3 (fun q=>h1 (beq_iff_eq.mp q)) fun q=>h2 fun z=>q (beq_iff_eq.mpr z)
theorem Z2N{p:Prop}{d:Decidable p}{x y:StateT SortSt Sem α}(h1:p->wpS M A E s x Q st)(h2:¬p->wpS M A E s y Q st):wpS M A E s (if decide p=true then x else y) Q st:=
 Z3 (fun q=>h1 (of_decide_eq_true q)) fun q=>h2 fun z=>q (decide_eq_true z)
noncomputable def Sg(st st':SortSt):Prop:=∃g,st'=Z1f st g
theorem Sg.refl:Sg st st:=⟨gallopOf st,rfl⟩
theorem Sg.set{st':SortSt}(h:Sg st st')(g:Nat):Sg st (Z1f st' g):=by
 obtain⟨g',rfl⟩:=h;exact⟨g,rfl⟩
theorem Sg.kind{st':SortSt}(h:Sg st st')(hk:kindOf st=κ):kindOf st'=κ:=by
 obtain⟨g',rfl⟩:=h;exact hk
noncomputable def Z7K(I:T->SortSt->Prop)(D:T->SortSt->Prop)(F:R->SortSt->Prop):ForInStep (Option R×T)->SortSt->Prop
 | .done (none,t),st=>D t st
 | .done (some r,_),st=>F r st
 | .yield (none,t),st=>I t st
 | .yield (some _,_),_=>False
noncomputable def Z7L(D:T->SortSt->Prop)(F:R->SortSt->Prop):Option R×T->SortSt->Prop
 | (none,t),st=>D t st
 | (some r,_),st=>F r st
theorem ZK{n:Nat}{body:Nat->Option R×T->StateT SortSt Sem (ForInStep (Option R×T))}{t0:T}(I:Nat->T->SortSt->Prop)(D:T->SortSt->Prop)(F:R->SortSt->Prop)(step:∀x t st,x<n->I x t st->wpS M A E s (body x (none,t)) (Z7K (I (x+1)) D F) st)(h0:I 0 t0 st)(hend:∀t st,I n t st->D t st){f:Option R×T->StateT SortSt Sem α}(hN:∀t st,D t st->wpS M A E s (f (none,t)) Q st)(hS:∀r t st,F r st->wpS M A E s (f (some r,t)) Q st):wpS M A E s (forIn [0:n] (none,t0) body>>=f) Q st:=by
 refine wpS_bind (wpS_mono (wpS_forRange (I:=fun x r st=>∃t,r=(none,t)/\I x t st) (Q:=fun r st=>Z7L D F r st) ?_ ?_ ⟨t0,rfl,h0⟩) fun r st h=>by
  rcases r with⟨_|r,t⟩
  ·exact hN t st h
  ·exact hS r t st h)
 ·rintro x r st' - hx ⟨t,rfl,hI⟩;refine wpS_mono (step x t st' hx hI) fun q st2 hq=>?_;rcases q with⟨_|r,t⟩|⟨_|r,t⟩
  ·exact hq
  ·exact hq
  ·exact⟨t,rfl,hq⟩
  ·exact hq.elim
 ·rintro r st' ⟨t,rfl,hI⟩;refine hend t st' ?_;rw[show n=max 0 n from(Nat.max_eq_right (Nat.zero_le n)).symm];exact hI
end
abbrev KA:=Array Keyed
abbrev L5:=Option KA×KA×Nat×Nat×Nat
abbrev L6:=Option KA×KA×Nat×Nat×Nat×Nat
abbrev L7:=Option KA×KA×Nat×Nat×Nat×Nat×Nat
noncomputable def loD(a b out:KA)(ia ib:Nat):KA:=out++a.extract ia a.size++b.extract ib b.size
noncomputable def loL(a b out:KA)(ia ib:Nat):KA:=out++b.extract ib b.size++a.extract ia a.size
noncomputable def lo1(a b:KA)(mg:Nat)(out:KA)(ia ib ac bc:Nat):StateT SortSt Sem (ForInStep L6):=
 elem' b ib>>=fun y=>elem' a ia>>=fun x=>lt' y x>>=fun w=>match w with
 | some z=>if z=true then elem' b ib>>=fun y=>
   if (ib+1==b.size)=true then pure (.done (some (loD a b (out.push y) ia (ib+1)),out.push y,ia,ib+1,0,bc+1))
   else if bc+1>=mg then pure (.done (none,out.push y,ia,ib+1,0,bc+1)) else pure (.yield (none,out.push y,ia,ib+1,0,bc+1))
  else elem' a ia>>=fun x=>
   if (ia+1+1==a.size)=true then pure (.done (some (loL a b (out.push x) (ia+1) ib),out.push x,ia+1,ib,ac+1,0))
   else if ac+1>=mg then pure (.done (none,out.push x,ia+1,ib,ac+1,0)) else pure (.yield (none,out.push x,ia+1,ib,ac+1,0))
 | _=>pure (.done (some (loD a b out ia ib),out,ia,ib,ac,bc))
noncomputable def lo2D(a b out:KA)(ia ib mg k k1:Nat):StateT SortSt Sem (ForInStep L7):=elem' a ia>>=fun x=>
 if (ia+1+1==a.size)=true then pure (.done (some (loL a b (out.push x) (ia+1) ib),out.push x,ia+1,ib,mg,k,k1))
 else if (decide (k<7)&&decide (k1<7))=true then pure (.done (none,out.push x,ia+1,ib,mg,k,k1)) else pure (.yield (none,out.push x,ia+1,ib,mg,k,k1))
noncomputable def lo2C(a b out:KA)(ia ib mg k k0:Nat):StateT SortSt Sem (ForInStep L7):=elem' b ib>>=fun y=>
 if (ib+1==b.size)=true then pure (.done (some (loD a b (out.push y) ia (ib+1)),out.push y,ia,ib+1,mg,k,k0))
 else elem' a ia>>=fun x=>Zt true x b (ib+1) (b.size-(ib+1)) 0>>=fun w=>match w with
  | some k1=>if k1>0 then(if (ib+1+k1==b.size)=true then pure (.done (some (loD a b (out.push y++b.extract (ib+1) (ib+1+k1)) ia (ib+1+k1)),out.push y++b.extract (ib+1) (ib+1+k1),ia,ib+1+k1,mg,k,k1))
    else lo2D a b (out.push y++b.extract (ib+1) (ib+1+k1)) ia (ib+1+k1) mg k k1)
   else lo2D a b (out.push y) ia (ib+1) mg k k1
  | _=>pure (.done (some (loD a b (out.push y) ia (ib+1)),out.push y,ia,ib+1,mg,k,k0))
noncomputable def lo2(a b out:KA)(ia ib ac bc mg:Nat):StateT SortSt Sem (ForInStep L7):=modify (fun s=>Z1f s mg)>>=fun z=>elem' b ib>>=fun y=>Zt false y a ia (a.size-ia) 0>>=fun w=>match w with
 | some k=>if k>0 then(if (ia+k+1==a.size)=true then pure (.done (some (loL a b (out++a.extract ia (ia+k)) (ia+k) ib),out++a.extract ia (ia+k),ia+k,ib,mg,k,bc))
   else if (ia+k==a.size)=true then pure (.done (some (loD a b (out++a.extract ia (ia+k)) (ia+k) ib),out++a.extract ia (ia+k),ia+k,ib,mg,k,bc))
   else lo2C a b (out++a.extract ia (ia+k)) (ia+k) ib mg k bc)
  else lo2C a b out ia ib mg k bc
 | _=>pure (.done (some (loD a b out ia ib),out,ia,ib,mg,ac,bc))
noncomputable def lo3(a b out:KA)(ia ib mg:Nat):StateT SortSt Sem (ForInStep L5):=
 forIn [0:a.size+b.size] ((none,out,ia,ib,0,0):L6) (fun z r=>lo1 a b mg r.2.1 r.2.2.1 r.2.2.2.1 r.2.2.2.2.1 r.2.2.2.2.2)>>=fun s=>match s.1 with
 | some r=>pure (.done (some r,s.2.1,s.2.2.1,s.2.2.2.1,mg))
 | none=>liftM (rule "list.sort.gallop")>>=fun z=>
  forIn [0:a.size+b.size] ((none,s.2.1,s.2.2.1,s.2.2.2.1,mg+1,s.2.2.2.2.1,s.2.2.2.2.2):L7) (fun z r=>if r.2.2.2.2.1>1 then lo2 a b r.2.1 r.2.2.1 r.2.2.2.1 r.2.2.2.2.2.1 r.2.2.2.2.2.2 (r.2.2.2.2.1-1) else lo2 a b r.2.1 r.2.2.1 r.2.2.2.1 r.2.2.2.2.2.1 r.2.2.2.2.2.2 r.2.2.2.2.1)>>=fun q=>match q.1 with
  | some r=>pure (.done (some r,q.2.1,q.2.2.1,q.2.2.2.1,q.2.2.2.2.1))
  | none=>modify (fun s=>Z1f s (q.2.2.2.2.1+1))>>=fun z=>pure (.yield (none,q.2.1,q.2.2.1,q.2.2.2.1,q.2.2.2.2.1+1))
theorem Z35(a b:KA):Z2a a b=(liftM (rule "list.sort.merge-lo")>>=fun z=>elem' b 0>>=fun y=>
  if (1==b.size)=true then pure (loD a b #[y] 0 1) else if (0+1==a.size)=true then pure (loL a b #[y] 0 1)
  else get>>=fun s=>forIn [0:a.size+b.size] ((none,#[y],0,1,gallopOf s):L5) (fun z r=>lo3 a b r.2.1 r.2.2.1 r.2.2.2.1 r.2.2.2.2)>>=fun q=>match q.1 with
   | some r=>pure r
   | none=>liftM (unsupported "internal:list.sort.merge-bound":Sem (Array Keyed))):=by kernel_rfl
structure LoC(κ:SortKind)(G:Keyed->Prop)(kx:Keyed->Int)(a b:KA)(st:SortSt):Prop where
 hk:kindOf st=κ
 Ga:∀x∈a.toList,G x
 Gb:∀x∈b.toList,G x
 last:∀{out:KA} {ia ib:Nat},MA kx a b out ia ib->ia+1=a.size->Xs kx a.toList b.toList (loL a b out ia ib).toList
noncomputable def LoF(kx:Keyed->Int)(a b:KA)(st:SortSt)(r:KA)(st':SortSt):Prop:=Sg st st'/\Xs kx a.toList b.toList r.toList
noncomputable def LoN(kx:Keyed->Int)(a b:KA)(st:SortSt)(n:Nat)(out:KA)(ia ib:Nat)(st':SortSt):Prop:=Sg st st'/\Alv kx a b n out ia ib
section
variable {a b out:KA} {st0 st:SortSt} {ia ib mg n:Nat}
theorem Alv.mono{m:Nat}(L:Alv kx a b n out ia ib)(h:m<=n):Alv kx a b m out ia ib:=⟨L.I,L.ha,L.hb,Nat.le_trans h L.hn⟩
theorem Z6Z{ac bc:Nat}{Q:ForInStep L6->SortSt->Prop}(c:Ask (model prog w) A E s κ G kx)(K:LoC κ G kx a b st0)(S:Sg st0 st)(L:Alv kx a b n out ia ib)(hF:∀r t st',LoF kx a b st0 r st'->Q (.done (some r,t)) st')(hN:∀out ia ib u st',LoN kx a b st0 (n+1) out ia ib st'->Q (.done (none,out,ia,ib,u)) st'/\Q (.yield (none,out,ia,ib,u)) st'):wpS (model prog w) A E s (lo1 a b mg out ia ib ac bc) Q st:=by
 revert prog w A E s κ G kx a b out st0 st ia ib mg n ac bc Q;k_extra "l";intro prog w A E s κ G kx a b out st0 st ia ib;k_extra "K";intro mg n ac bc Q c K S L hF hN
 obtain⟨xa,ea,ma⟩:=Zb (Nat.lt_of_succ_lt L.ha);obtain⟨xb,eb,mb⟩:=Zb L.hb;refine wpS_bind (Z4 eb (wpS_bind (Z4 ea (wpS_bind (c.ask xb xa _ _ (K.Gb _ mb) (K.Ga _ ma) (S.kind K.hk) (Z2N (fun hw=>?_) fun hw=>?_))))))
 ·have I2:=L.I.pushB eb fun u hu=>Int.le_trans (Int.le_of_lt hw) (L.I.headA ea u hu);refine wpS_bind (Z4 eb (Z9 (fun q=>wpS_pure (hF _ _ _ ⟨S,I2.done (.inr (Nat.le_of_eq q.symm))⟩)) fun q=>?_));have z:=fun u=>hN _ _ _ u _ ⟨S,I2,L.ha,Nat.lt_of_le_of_ne L.hb q,by rw[Array.size_push];exact Nat.succ_le_succ L.hn⟩;exact Z3 (fun y=>wpS_pure (z _).1) fun y=>wpS_pure (z _).2
 ·have I2:=L.I.pushA ea fun u hu=>Int.le_trans (Int.not_lt.mp hw) (L.I.headB eb u hu);refine wpS_bind (Z4 ea (Z9 (fun q=>wpS_pure (hF _ _ _ ⟨S,K.last I2 q⟩)) fun q=>?_));have z:=fun u=>hN _ _ _ u _ ⟨S,I2,Nat.lt_of_le_of_ne L.ha q,L.hb,by rw[Array.size_push];exact Nat.succ_le_succ L.hn⟩;exact Z3 (fun y=>wpS_pure (z _).1) fun y=>wpS_pure (z _).2
theorem Z48{xa:Keyed}{k k1:Nat}{Q:ForInStep L7->SortSt->Prop}(K:LoC κ G kx a b st0)(S:Sg st0 st)(m1:ia+1<a.size)(n1:ib<b.size)(m2:n<=out.size)(I:MA kx a b out ia ib)(ea:a[ia]?=some xa)(n4:∀u∈b.toList.drop ib,kx xa<=kx u)(hF:∀r t st',LoF kx a b st0 r st'->Q (.done (some r,t)) st')(hN:∀out ia ib u st',LoN kx a b st0 n out ia ib st'->Q (.done (none,out,ia,ib,u)) st'/\Q (.yield (none,out,ia,ib,u)) st'):wpS (model prog w) A E s (lo2D a b out ia ib mg k k1) Q st:=by
 have I5:=I.pushA ea n4;refine wpS_bind (Z4 ea (Z9 (fun q=>wpS_pure (hF _ _ _ ⟨S,K.last I5 q⟩)) fun q=>?_));have z:=fun u=>hN _ _ _ u _ ⟨S,I5,Nat.lt_of_le_of_ne m1 q,n1,by rw[Array.size_push];exact Nat.le_succ_of_le m2⟩;exact Z3 (fun y=>wpS_pure (z _).1) fun y=>wpS_pure (z _).2
theorem Z49{xb:Keyed}{k k0:Nat}{Q:ForInStep L7->SortSt->Prop}(c:Ask (model prog w) A E s κ G kx)(K:LoC κ G kx a b st0)(S:Sg st0 st)(m1:ia+1<a.size)(n1:ib<b.size)(m2:n<=out.size)(I:MA kx a b out ia ib)(eb:b[ib]?=some xb)(m4:∀u∈a.toList.drop ia,kx xb<=kx u)(hF:∀r t st',LoF kx a b st0 r st'->Q (.done (some r,t)) st')(hN:∀out ia ib u st',LoN kx a b st0 n out ia ib st'->Q (.done (none,out,ia,ib,u)) st'/\Q (.yield (none,out,ia,ib,u)) st'):wpS (model prog w) A E s (lo2C a b out ia ib mg k k0) Q st:=by
 revert prog w A E s κ G kx a b out st0 st ia ib mg n xb k k0 Q;k_extra "l";intro prog w A E s κ G kx a b out st0 st ia ib;k_extra "O";intro mg n xb k k0 Q c K S m1 n1 m2 I eb m4 hF hN
 have I3:=I.pushB eb m4;refine wpS_bind (Z4 eb (Z9 (fun q=>wpS_pure (hF _ _ _ ⟨S,I3.done (.inr (Nat.le_of_eq q.symm))⟩)) fun q=>?_));have q5:=Nat.lt_of_le_of_ne n1 q;obtain⟨xa,ea,ma⟩:=Zb (Nat.lt_of_succ_lt m1);have m5:n<=(out.push xb).size:=by rw[Array.size_push];exact Nat.le_succ_of_le m2
 refine wpS_bind (Z4 ea (wpS_bind (Z1h (base:=ib+1) (n:=b.size-(ib+1)) c (S.kind K.hk) (K.Ga _ ma) K.Gb ?_ ?_ (Nat.sub_pos_of_lt q5) fun k' j1 j2 j3=>Z3 (fun hk1=>Z9 (fun q=>?_) fun q=>?_) fun hk1=>?_)))
 ·rw[take_of_length_le (by simp)];exact I3.sb
 ·exact Nat.le_of_eq (Nat.add_sub_of_le (Nat.le_of_lt q5))
 all_goals rw[take_of_length_le (i:=b.size - (ib+1)) (by simp),List.drop_drop]at j3
 ·exact wpS_pure (hF _ _ _ ⟨S,(I3.extB k' fun u hu v hv=>Int.le_trans (j2 u hu).1 (I3.headA ea v hv)).done (.inr (Nat.le_of_eq q.symm))⟩)
 ·exact Z48 K S m1 (Nat.lt_of_le_of_ne (Nat.add_le_of_le_sub' (Nat.le_of_lt q5) j1) q) (by rw[Array.size_append];exact Nat.le_add_right_of_le m5) (I3.extB k' fun u hu v hv=>Int.le_trans (j2 u hu).1 (I3.headA ea v hv)) ea (fun u hu=>(j3 u hu).1) hF hN
 ·obtain rfl:k'=0:=Nat.eq_zero_of_not_pos hk1;exact Z48 K S m1 q5 m5 I3 ea (fun u hu=>(j3 u hu).1) hF hN
theorem Z5c{ac bc:Nat}{Q:ForInStep L7->SortSt->Prop}(c:Ask (model prog w) A E s κ G kx)(K:LoC κ G kx a b st0)(S:Sg st0 st)(L:Alv kx a b n out ia ib)(hF:∀r t st',LoF kx a b st0 r st'->Q (.done (some r,t)) st')(hN:∀out ia ib u st',LoN kx a b st0 n out ia ib st'->Q (.done (none,out,ia,ib,u)) st'/\Q (.yield (none,out,ia,ib,u)) st'):wpS (model prog w) A E s (lo2 a b out ia ib ac bc mg) Q st:=by
 revert prog w A E s κ G kx a b out st0 st ia ib mg n ac bc Q;k_extra "l";intro prog w A E s κ G kx a b out st0 st ia ib;k_extra "K";intro mg n ac bc Q c K S L hF hN
 obtain⟨xb,eb,mb⟩:=Zb L.hb;have hlt:=Nat.lt_of_succ_lt L.ha;refine wpS_bind (wpS_modify (wpS_bind (Z4 eb (wpS_bind (Z1h (base:=ia) (n:=a.size-ia) c (S.kind K.hk) (K.Gb _ mb) K.Ga ?_ ?_ (Nat.sub_pos_of_lt hlt) fun k k1 k2 k3=>Z3 (fun hk1=>Z9 (fun q=>?_) fun q=>Z9 (fun q'=>?_) fun q'=>?_) fun hk1=>?_)))))
 ·rw[take_of_length_le (by simp)];exact L.I.sa
 ·exact Nat.le_of_eq (Nat.add_sub_of_le (Nat.le_of_lt hlt))
 all_goals rw[take_of_length_le (i:=a.size - ia) (by simp),List.drop_drop]at k3
 ·exact wpS_pure (hF _ _ _ ⟨S.set _,K.last (L.I.extA k fun u hu v hv=>Int.le_trans (k2 u hu).1 (L.I.headB eb v hv)) q⟩)
 ·exact wpS_pure (hF _ _ _ ⟨S.set _,(L.I.extA k fun u hu v hv=>Int.le_trans (k2 u hu).1 (L.I.headB eb v hv)).done (.inl (Nat.le_of_eq q'.symm))⟩)
 ·exact Z49 c K (S.set _) (Nat.lt_of_le_of_ne (Nat.lt_of_le_of_ne (Nat.add_le_of_le_sub' (Nat.le_of_lt hlt) k1) q') q) L.hb (by rw[Array.size_append];exact Nat.le_add_right_of_le L.hn) (L.I.extA k fun u hu v hv=>Int.le_trans (k2 u hu).1 (L.I.headB eb v hv)) eb (fun u hu=>(k3 u hu).1) hF hN
 ·obtain rfl:k=0:=Nat.eq_zero_of_not_pos hk1;exact Z49 c K (S.set _) L.ha L.hb L.hn L.I eb (fun u hu=>(k3 u hu).1) hF hN
theorem Z70(c:Ask (model prog w) A E s κ G kx){Q:ForInStep L5->SortSt->Prop}(K:LoC κ G kx a b st0)(S:Sg st0 st)(L:Alv kx a b n out ia ib)(hF:∀r t st',LoF kx a b st0 r st'->Q (.done (some r,t)) st')(hN:∀out ia ib u st',LoN kx a b st0 (n+1) out ia ib st'->Q (.yield (none,out,ia,ib,u)) st'):wpS (model prog w) A E s (lo3 a b out ia ib mg) Q st:=by
 refine ZK (t0:=(out,ia,ib,0,0)) (fun z (t:KA×Nat×Nat×Nat×Nat) st'=>LoN kx a b st0 (n+min z 1) t.1 t.2.1 t.2.2.1 st') (fun t st'=>LoN kx a b st0 (n+1) t.1 t.2.1 t.2.2.1 st') (LoF kx a b st0) (fun z t st' hz I=>Z6Z c K I.1 (I.2.mono (Nat.le_add_right n _)) (fun y y y z=>z) fun y y y y y I=>⟨I,I.1,I.2.mono (Nat.add_le_add_left (Nat.min_le_right _ _) _)⟩) ⟨S,L⟩ (fun t st' I=>⟨I.1,I.2.mono (Nat.le_of_eq ?_)⟩) (fun t st' I=>wpS_bind (wpS_lift (wpAny_rule ⟨rfl,?_⟩))) fun r t st' z=>wpS_pure (hF _ _ _ z)
 ·rw[Nat.min_eq_right];exact Nat.le_trans (Nat.succ_le_of_lt (Nat.lt_of_le_of_lt (Nat.zero_le _) L.ha)) (Nat.le_add_right _ _)
 ·refine ZK (t0:=(t.1,t.2.1,t.2.2.1,mg+1,t.2.2.2.1,t.2.2.2.2)) (fun _ (t:KA×Nat×Nat×Nat×Nat×Nat) st'=>LoN kx a b st0 (n+1) t.1 t.2.1 t.2.2.1 st') (fun t st'=>LoN kx a b st0 (n+1) t.1 t.2.1 t.2.2.1 st') (LoF kx a b st0) (fun z t st' hz I=>?_) I (fun t st' I=>I) (fun t st' I=>wpS_bind (wpS_modify (wpS_pure (hN _ _ _ _ _ ⟨I.1.set _,I.2⟩)))) fun r t2 st' hr=>wpS_pure (hF _ _ _ hr);exact Z3 (fun y=>Z5c c K I.1 I.2 (fun y y y z=>z) fun y y y y y I=>⟨I,I⟩) fun y=>Z5c c K I.1 I.2 (fun y y y z=>z) fun y y y y y I=>⟨I,I⟩
end
theorem Z4B{a b:Array Keyed}{st:SortSt}{Q:Array Keyed->SortSt->Prop}(c:Ask (model prog w) A E s κ G kx)(hk:kindOf st=κ)(Ga:∀x∈a.toList,G x)(Gb:∀x∈b.toList,G x)(sa:Xd kx a.toList)(sb:Xd kx b.toList)(ha:1<=a.size)(hb:1<=b.size)(h0:∀y,b[0]?=some y->∀x∈a.toList,kx y<=kx x)(h1:∀x,a[a.size-1]?=some x->∀y∈b.toList,kx y<=kx x)(h:∀r st',Sg st st'->Xs kx a.toList b.toList r.toList->Q r st'):wpS (model prog w) A E s (Z2a a b) Q st:=by
 revert prog w A E s κ G kx a b st Q;k_extra "x";intro prog w A E s κ G kx a b st Q c hk Ga Gb sa sb ha hb h0 h1 h
 have K:LoC κ G kx a b st:=⟨hk,Ga,Gb,fun{out ia ib} I e=>by
  refine I.last fun x hx y hy=>?_;obtain⟨z,ez,_⟩:=Zb (xs:=a) (i:=ia) (by exact(Nq 0x200843805849) e);rw[Zo ez,List.drop_of_length_le (by simp;exact(Nq 0x1c02c10043805849) e)]at hx;rw[List.mem_singleton.mp hx];exact h1 z (by rw[show a.size-1=ia from Nat.sub_eq_of_eq_add e.symm];exact ez) y (Z61 hy)⟩
 obtain⟨y0,ey0,my0⟩:=Zb (xs:=b) (i:=0) hb;have I0:MA kx a b #[] 0 0:=⟨by simp,List.Pairwise.nil,by simp,by simpa using sa,by simpa using sb⟩;have I1:MA kx a b #[y0] 0 1:=I0.pushB ey0 (by simpa using h0 y0 ey0);rw[Z35];refine wpS_bind (wpS_lift (wpAny_rule ⟨rfl,wpS_bind (Z4 ey0 (Z9 (fun q1=>?_) fun q1=>Z9 (fun q2=>?_) fun q2=>wpS_bind (wpS_get ?_)))⟩))
 ·exact wpS_pure (h _ _ .refl (I1.done (.inr (Nat.le_of_eq q1.symm))))
 ·exact wpS_pure (h _ _ .refl (K.last I1 q2))
 refine ZK (t0:=(#[y0],0,1,gallopOf st)) (fun x (t:KA×Nat×Nat×Nat) st'=>LoN kx a b st (x+1) t.1 t.2.1 t.2.2.1 st') (fun u u=>False) (LoF kx a b st) (fun x t st' hx I=>Z70 c K I.1 I.2 (fun u u u z=>z) fun u u u u u z=>z) ⟨.refl,I1,Nat.lt_of_le_of_ne ha q2,Nat.lt_of_le_of_ne hb q1,Nat.le_refl 1⟩ (fun t st' I=>?_) (fun u u z=>z.elim) fun r t st' hr=>wpS_pure (h _ _ hr.1 hr.2);have z1:=I.2.I.len (Nat.le_of_lt (Nat.lt_of_succ_lt I.2.ha)) (Nat.le_of_lt I.2.hb);have z2:=I.2.hn;have z3:=I.2.ha;have z4:=I.2.hb;exact(Nt 0x28820a461c06c14803820ed602441b0049) z1 z2 z3 z4
end
abbrev H5:=Option KA×Nat×Nat×KA×Nat
abbrev H6:=Option KA×Nat×Nat×KA×Nat×Nat
abbrev H7:=Option KA×Nat×Nat×KA×Nat×Nat×Nat
noncomputable def hiD(a b out:KA)(na nb:Nat):KA:=a.extract 0 na++b.extract 0 nb++out.reverse
noncomputable def hiF(a b out:KA)(na nb:Nat):KA:=b.extract 0 nb++a.extract 0 na++out.reverse
noncomputable def hi1(a b:KA)(mg na nb:Nat)(out:KA)(ac bc:Nat):StateT SortSt Sem (ForInStep H6):=
 elem' b (nb-1)>>=fun y=>elem' a (na-1)>>=fun x=>lt' y x>>=fun w=>match w with
 | some z=>if z=true then elem' a (na-1)>>=fun x=>
   if (na-1==0)=true then pure (.done (some (hiD a b (out.push x) (na-1) nb),na-1,nb,out.push x,ac+1,0))
   else if ac+1>=mg then pure (.done (none,na-1,nb,out.push x,ac+1,0)) else pure (.yield (none,na-1,nb,out.push x,ac+1,0))
  else elem' b (nb-1)>>=fun y=>
   if (nb-1==1)=true then pure (.done (some (hiF a b (out.push y) na (nb-1)),na,nb-1,out.push y,0,bc+1))
   else if bc+1>=mg then pure (.done (none,na,nb-1,out.push y,0,bc+1)) else pure (.yield (none,na,nb-1,out.push y,0,bc+1))
 | _=>pure (.done (some (hiD a b out na nb),na,nb,out,ac,bc))
noncomputable def hi2D(a b:KA)(na nb:Nat)(out:KA)(mg k k1:Nat):StateT SortSt Sem (ForInStep H7):=elem' a (na-1)>>=fun x=>
 if (na-1==0)=true then pure (.done (some (hiD a b (out.push x) (na-1) nb),na-1,nb,out.push x,mg,k,k1))
 else if (decide (k<7)&&decide (k1<7))=true then pure (.done (none,na-1,nb,out.push x,mg,k,k1)) else pure (.yield (none,na-1,nb,out.push x,mg,k,k1))
noncomputable def hi2C(a b:KA)(na nb:Nat)(out:KA)(mg k k0:Nat):StateT SortSt Sem (ForInStep H7):=elem' b (nb-1)>>=fun y=>
 if (nb-1==1)=true then pure (.done (some (hiF a b (out.push y) na (nb-1)),na,nb-1,out.push y,mg,k,k0))
 else elem' a (na-1)>>=fun x=>Zt true x b 0 (nb-1) (nb-1-1)>>=fun w=>match w with
  | some j=>if nb-1-j>0 then(if (j==1)=true then pure (.done (some (hiF a b (out.push y++(b.extract j (nb-1)).reverse) na j),na,j,out.push y++(b.extract j (nb-1)).reverse,mg,k,nb-1-j))
    else if (j==0)=true then pure (.done (some (hiD a b (out.push y++(b.extract j (nb-1)).reverse) na j),na,j,out.push y++(b.extract j (nb-1)).reverse,mg,k,nb-1-j))
    else hi2D a b na j (out.push y++(b.extract j (nb-1)).reverse) mg k (nb-1-j))
   else hi2D a b na (nb-1) (out.push y) mg k (nb-1-j)
  | _=>pure (.done (some (hiD a b (out.push y) na (nb-1)),na,nb-1,out.push y,mg,k,k0))
noncomputable def hi2(a b:KA)(na nb:Nat)(out:KA)(ac bc mg:Nat):StateT SortSt Sem (ForInStep H7):=modify (fun s=>Z1f s mg)>>=fun z=>elem' b (nb-1)>>=fun y=>Zt false y a 0 na (na-1)>>=fun w=>match w with
 | some j=>if na-j>0 then(if (j==0)=true then pure (.done (some (hiD a b (out++(a.extract j na).reverse) j nb),j,nb,out++(a.extract j na).reverse,mg,na-j,bc))
   else hi2C a b j nb (out++(a.extract j na).reverse) mg (na-j) bc)
  else hi2C a b na nb out mg (na-j) bc
 | _=>pure (.done (some (hiD a b out na nb),na,nb,out,mg,ac,bc))
noncomputable def hi3(a b:KA)(na nb:Nat)(out:KA)(mg:Nat):StateT SortSt Sem (ForInStep H5):=
 forIn [0:a.size+b.size] ((none,na,nb,out,0,0):H6) (fun z r=>hi1 a b mg r.2.1 r.2.2.1 r.2.2.2.1 r.2.2.2.2.1 r.2.2.2.2.2)>>=fun s=>match s.1 with
 | some r=>pure (.done (some r,s.2.1,s.2.2.1,s.2.2.2.1,mg))
 | none=>liftM (rule "list.sort.gallop")>>=fun z=>
  forIn [0:a.size+b.size] ((none,s.2.1,s.2.2.1,s.2.2.2.1,mg+1,s.2.2.2.2.1,s.2.2.2.2.2):H7) (fun z r=>if r.2.2.2.2.1>1 then hi2 a b r.2.1 r.2.2.1 r.2.2.2.1 r.2.2.2.2.2.1 r.2.2.2.2.2.2 (r.2.2.2.2.1-1) else hi2 a b r.2.1 r.2.2.1 r.2.2.2.1 r.2.2.2.2.2.1 r.2.2.2.2.2.2 r.2.2.2.2.1)>>=fun q=>match q.1 with
  | some r=>pure (.done (some r,q.2.1,q.2.2.1,q.2.2.2.1,q.2.2.2.2.1))
  | none=>modify (fun s=>Z1f s (q.2.2.2.2.1+1))>>=fun z=>pure (.yield (none,q.2.1,q.2.2.1,q.2.2.2.1,q.2.2.2.2.1+1))
theorem Z36(a b:KA):Z2b a b=(liftM (rule "list.sort.merge-hi")>>=fun z=>elem' a (a.size-1)>>=fun y=>
  if (a.size-1==0)=true then pure (hiD a b #[y] (a.size-1) b.size) else if (b.size==1)=true then pure (hiF a b #[y] (a.size-1) b.size)
  else get>>=fun s=>forIn [0:a.size+b.size] ((none,a.size-1,b.size,#[y],gallopOf s):H5) (fun z r=>hi3 a b r.2.1 r.2.2.1 r.2.2.2.1 r.2.2.2.2)>>=fun q=>match q.1 with
   | some r=>pure r
   | none=>liftM (unsupported "internal:list.sort.merge-bound":Sem (Array Keyed))):=by kernel_rfl
section
variable {prog:Program} {w:World} {A:Around} {E:pS} {s:Shared} {κ:SortKind} {G:Keyed->Prop} {kx:Keyed->Int}
abbrev MH(kx:Keyed->Int)(a b out:Array Keyed)(na nb:Nat):Prop:=MI (fun x=>-kx x) a.toList.reverse b.toList.reverse out.toList (a.toList.take na).reverse (b.toList.take nb).reverse
theorem Xs.rev{a b r:List Keyed}(h:Xs (fun x=>-kx x) a.reverse b.reverse r):Xs kx a b r.reverse:=by
 refine⟨(List.reverse_perm r).trans (h.1.trans ((List.reverse_perm a).append (List.reverse_perm b))),?_⟩;unfold Xd;rw[List.pairwise_reverse];exact h.2.imp fun{x y} z=>Int.le_of_neg_le_neg z
theorem Xd.neg{l:List Keyed}(h:Xd kx l):Xd (fun x=>-kx x) l.reverse:=by
 unfold Xd;rw[List.pairwise_reverse];exact h.imp fun{x y} z=>Int.neg_le_neg z
section
variable {a b out:Array Keyed} {na nb:Nat}
theorem Zp{xs:Array Keyed}{i:Nat}{x:Keyed}(e:xs[i]?=some x):(xs.toList.take (i+1)).reverse=x::(xs.toList.take i).reverse:=by
 have e':xs.toList[i]?=some x:=by simpa using e
 rw[List.take_add_one,e'];simp
theorem MH.pushB{y:Keyed}(I:MH kx a b out na (nb+1))(ey:b[nb]?=some y)(h:∀x∈a.toList.take na,kx x<=kx y):MH kx a b (out.push y) na nb:=by
 have:=MI.addB I 1 (by
  rw[Zp ey];intro u hu v hv;have:u=y:=by simpa using hu
  subst this;have:=h v (List.mem_reverse.mp hv);exact Y2h this)
 rw[Zp ey]at this;unfold MH;rw[Array.toList_push];simpa using this
theorem MH.pushA{x:Keyed}(I:MH kx a b out (na+1) nb)(ex:a[na]?=some x)(h:∀y∈b.toList.take nb,kx y<=kx x):MH kx a b (out.push x) na nb:=by
 have:=MI.addA I 1 (by
  rw[Zp ex];intro u hu v hv;have:u=x:=by simpa using hu
  subst this;have:=h v (List.mem_reverse.mp hv);exact Y2h this)
 rw[Zp ex]at this;unfold MH;rw[Array.toList_push];simpa using this
theorem Z3w(l:List Keyed)(n k:Nat)(h:n<=l.length)(hk:k<=n):((l.take n).reverse).take (n-k)=((l.drop k).take (n-k)).reverse/\((l.take n).reverse).drop (n-k)=(l.take k).reverse:=by
 have hl:(l.take n).length=n:=by simp;exact Y2i h
 constructor
 ·rw[List.take_reverse,hl,show n-(n-k)=k by exact Y2j hk,List.drop_take]
 ·rw[List.drop_reverse,hl,show n-(n-k)=k by exact Y2j hk,List.take_take,Nat.min_eq_left hk]
theorem MH.extA(k:Nat)(I:MH kx a b out na nb)(ha:na<=a.size)(hk:k<=na)(h:∀x∈(a.toList.take na).drop k,∀y∈b.toList.take nb,kx y<=kx x):MH kx a b (out++(a.extract k na).reverse) k nb:=by
 obtain⟨e1,e2⟩:=Z3w a.toList na k (by simpa using ha) hk;have:=MI.addA I (na-k) (by
  rw[e1,<-List.drop_take];intro u hu v hv;have:=h u (List.mem_reverse.mp hu) v (List.mem_reverse.mp hv);exact Y2h this)
 rw[e1,e2]at this;unfold MH;rw[Array.toList_append,Array.toList_reverse,Zn];exact this
theorem MH.extB(k:Nat)(I:MH kx a b out na nb)(hb:nb<=b.size)(hk:k<=nb)(h:∀y∈(b.toList.take nb).drop k,∀x∈a.toList.take na,kx x<=kx y):MH kx a b (out++(b.extract k nb).reverse) na k:=by
 obtain⟨e1,e2⟩:=Z3w b.toList nb k (by simpa using hb) hk;have:=MI.addB I (nb-k) (by
  rw[e1,<-List.drop_take];intro u hu v hv;have:=h u (List.mem_reverse.mp hu) v (List.mem_reverse.mp hv);exact Y2h this)
 rw[e1,e2]at this;unfold MH;rw[Array.toList_append,Array.toList_reverse,Zn];exact this
theorem MH.lastA{x:Keyed}(I:MH kx a b out (na+1) nb)(ex:a[na]?=some x):∀z∈a.toList.take (na+1),kx z<=kx x:=by
 intro z hz;have:=I.sa;have hz:=List.mem_reverse.mpr hz;rw[Zp ex]at this hz;rcases List.mem_cons.mp hz with rfl|hz
 ·exact Int.le_refl _
 ·exact Int.le_of_neg_le_neg ((List.pairwise_cons.mp this).1 z hz)
theorem MH.lastB{y:Keyed}(I:MH kx a b out na (nb+1))(ey:b[nb]?=some y):∀z∈b.toList.take (nb+1),kx z<=kx y:=by
 intro z hz;have:=I.sb;have hz:=List.mem_reverse.mpr hz;rw[Zp ey]at this hz;rcases List.mem_cons.mp hz with rfl|hz
 ·exact Int.le_refl _
 ·exact Int.le_of_neg_le_neg ((List.pairwise_cons.mp this).1 z hz)
theorem MH.len(I:MH kx a b out na nb)(ha:na<=a.size)(hb:nb<=b.size):out.size+na+nb=a.size+b.size:=by
 have:=I.perm.length_eq;simp at this;exact Y2k ha hb this
theorem ext0(xs:Array Keyed)(n:Nat):(xs.extract 0 n).toList=xs.toList.take n:=by rw[Zn];simp
theorem MH.first(I:MH kx a b out na nb)(h:∀x∈a.toList.take na,∀y∈b.toList.take nb,kx y<=kx x):Xs kx a.toList b.toList (b.extract 0 nb++a.extract 0 na++out.reverse).toList:=by
 have:=(MI.fin I fun x hx y hy=>by have:=h x (List.mem_reverse.mp hx) y (List.mem_reverse.mp hy);exact Y2h this).rev;rw[Array.toList_append,Array.toList_append,ext0,ext0,Array.toList_reverse];simpa using this
theorem MH.done(I:MH kx a b out na nb)(h:na=0\/nb=0):Xs kx a.toList b.toList (a.extract 0 na++b.extract 0 nb++out.reverse).toList:=by
 have:=(MI.finB I (by rcases h with rfl|rfl<;>simp)).rev;rw[Array.toList_append,Array.toList_append,ext0,ext0,Array.toList_reverse];simpa using this
end
section
variable {a b out:Array Keyed} {na nb:Nat}
theorem MH.pushB'{y:Keyed}(I:MH kx a b out na nb)(h1:1<=nb)(ey:b[nb-1]?=some y)(h:∀x∈a.toList.take na,kx x<=kx y):MH kx a b (out.push y) na (nb-1):=by
 cases nb with
 | zero=>cases h1
 | succ m=>exact MH.pushB I ey h
theorem MH.pushA'{x:Keyed}(I:MH kx a b out na nb)(h1:1<=na)(ex:a[na-1]?=some x)(h:∀y∈b.toList.take nb,kx y<=kx x):MH kx a b (out.push x) (na-1) nb:=by
 cases na with
 | zero=>cases h1
 | succ m=>exact MH.pushA I ex h
theorem MH.lastA'{x:Keyed}(I:MH kx a b out na nb)(h1:1<=na)(ex:a[na-1]?=some x):∀z∈a.toList.take na,kx z<=kx x:=by
 cases na with
 | zero=>cases h1
 | succ m=>exact MH.lastA I ex
theorem MH.lastB'{y:Keyed}(I:MH kx a b out na nb)(h1:1<=nb)(ey:b[nb-1]?=some y):∀z∈b.toList.take nb,kx z<=kx y:=by
 cases nb with
 | zero=>cases h1
 | succ m=>exact MH.lastB I ey
end
structure Alh(kx:Keyed->Int)(a b:Array Keyed)(n0:Nat)(out:Array Keyed)(na nb:Nat):Prop where
 I:MH kx a b out na nb
 ha:1<=na
 hb:2<=nb
 ha':na<=a.size
 hb':nb<=b.size
 hn:n0<=out.size
structure HiC(κ:SortKind)(G:Keyed->Prop)(kx:Keyed->Int)(a b:KA)(st:SortSt):Prop where
 hk:kindOf st=κ
 Ga:∀x∈a.toList,G x
 Gb:∀x∈b.toList,G x
 first:∀{out:KA} {na nb:Nat},MH kx a b out na nb->nb=1->Xs kx a.toList b.toList (hiF a b out na nb).toList
noncomputable def HiN(kx:Keyed->Int)(a b:KA)(st:SortSt)(n:Nat)(na nb:Nat)(out:KA)(st':SortSt):Prop:=Sg st st'/\Alh kx a b n out na nb
section
variable {a b out:KA} {st0 st:SortSt} {na nb mg n:Nat}
theorem Z4a{l:List Keyed}(z:Xd (fun x=>-kx x) l.reverse):Xd kx l:=(List.pairwise_reverse.mp z).imp fun{x y} z=>Int.le_of_neg_le_neg z
theorem Alh.mono{m:Nat}(L:Alh kx a b n out na nb)(h:m<=n):Alh kx a b m out na nb:=⟨L.I,L.ha,L.hb,L.ha',L.hb',Nat.le_trans h L.hn⟩
theorem Z5d{k:Nat}(h:2<=k)(q:¬k-1=1):2<=k-1:=Nat.lt_of_le_of_ne (Nat.le_sub_of_add_le (show 1+1<=k from h)) (Ne.symm q)
theorem Z71{ac bc:Nat}{Q:ForInStep H6->SortSt->Prop}(c:Ask (model prog w) A E s κ G kx)(K:HiC κ G kx a b st0)(S:Sg st0 st)(L:Alh kx a b n out na nb)(hF:∀r t st',LoF kx a b st0 r st'->Q (.done (some r,t)) st')(hN:∀na nb out u st',HiN kx a b st0 (n+1) na nb out st'->Q (.done (none,na,nb,out,u)) st'/\Q (.yield (none,na,nb,out,u)) st'):wpS (model prog w) A E s (hi1 a b mg na nb out ac bc) Q st:=by
 revert prog w A E s κ G kx a b out st0 st na nb mg n ac bc Q;k_extra "l";intro prog w A E s κ G kx a b out st0 st na nb;k_extra "K";intro mg n ac bc Q c K S L hF hN
 have n1:na-1<na:=Nat.sub_lt L.ha Nat.one_pos;have b1:1<=nb:=Nat.le_of_lt L.hb;have n2:nb-1<nb:=Nat.sub_lt b1 Nat.one_pos;obtain⟨xa,ea,ma⟩:=Zb (Nat.lt_of_lt_of_le n1 L.ha');obtain⟨xb,eb,mb⟩:=Zb (Nat.lt_of_lt_of_le n2 L.hb');refine wpS_bind (Z4 eb (wpS_bind (Z4 ea (wpS_bind (c.ask xb xa _ _ (K.Gb _ mb) (K.Ga _ ma) (S.kind K.hk) (Z2N (fun hw=>?_) fun hw=>?_))))))
 ·have I2:=L.I.pushA' L.ha ea fun u hu=>Int.le_trans (L.I.lastB' b1 eb u hu) (Int.le_of_lt hw);refine wpS_bind (Z4 ea (Z9 (fun q=>wpS_pure (hF _ _ _ ⟨S,I2.done (.inl q)⟩)) fun q=>?_));have z:=fun u=>hN _ _ _ u _ ⟨S,I2,Nat.pos_of_ne_zero q,L.hb,Nat.le_trans (Nat.le_of_lt n1) L.ha',L.hb',by rw[Array.size_push];exact Nat.succ_le_succ L.hn⟩;exact Z3 (fun y=>wpS_pure (z _).1) fun y=>wpS_pure (z _).2
 ·have I2:=L.I.pushB' b1 eb fun u hu=>Int.le_trans (L.I.lastA' L.ha ea u hu) (Int.not_lt.mp hw);refine wpS_bind (Z4 eb (Z9 (fun q=>wpS_pure (hF _ _ _ ⟨S,K.first I2 q⟩)) fun q=>?_));have z:=fun u=>hN _ _ _ u _ ⟨S,I2,L.ha,Z5d L.hb q,L.ha',Nat.le_trans (Nat.le_of_lt n2) L.hb',by rw[Array.size_push];exact Nat.succ_le_succ L.hn⟩;exact Z3 (fun y=>wpS_pure (z _).1) fun y=>wpS_pure (z _).2
theorem Z4b{xa:Keyed}{k k1:Nat}{Q:ForInStep H7->SortSt->Prop}(K:HiC κ G kx a b st0)(S:Sg st0 st)(m1:1<=na)(m1':na<=a.size)(n1:2<=nb)(n1':nb<=b.size)(m2:n<=out.size)(I:MH kx a b out na nb)(ea:a[na-1]?=some xa)(n4:∀u∈b.toList.take nb,kx u<=kx xa)(hF:∀r t st',LoF kx a b st0 r st'->Q (.done (some r,t)) st')(hN:∀na nb out u st',HiN kx a b st0 n na nb out st'->Q (.done (none,na,nb,out,u)) st'/\Q (.yield (none,na,nb,out,u)) st'):wpS (model prog w) A E s (hi2D a b na nb out mg k k1) Q st:=by
 have I5:=I.pushA' m1 ea n4;refine wpS_bind (Z4 ea (Z9 (fun q=>wpS_pure (hF _ _ _ ⟨S,I5.done (.inl q)⟩)) fun q=>?_));have z:=fun u=>hN _ _ _ u _ ⟨S,I5,Nat.pos_of_ne_zero q,n1,Nat.le_trans (Nat.sub_le _ _) m1',n1',by rw[Array.size_push];exact Nat.le_succ_of_le m2⟩;exact Z3 (fun y=>wpS_pure (z _).1) fun y=>wpS_pure (z _).2
theorem Z4c{xb:Keyed}{k k0:Nat}{Q:ForInStep H7->SortSt->Prop}(c:Ask (model prog w) A E s κ G kx)(K:HiC κ G kx a b st0)(S:Sg st0 st)(m1:1<=na)(m1':na<=a.size)(n1:2<=nb)(n1':nb<=b.size)(m2:n<=out.size)(I:MH kx a b out na nb)(eb:b[nb-1]?=some xb)(m4:∀u∈a.toList.take na,kx u<=kx xb)(hF:∀r t st',LoF kx a b st0 r st'->Q (.done (some r,t)) st')(hN:∀na nb out u st',HiN kx a b st0 n na nb out st'->Q (.done (none,na,nb,out,u)) st'/\Q (.yield (none,na,nb,out,u)) st'):wpS (model prog w) A E s (hi2C a b na nb out mg k k0) Q st:=by
 revert prog w A E s κ G kx a b out st0 st na nb mg n xb k k0 Q;k_extra "l";intro prog w A E s κ G kx a b out st0 st na nb;k_extra "O";intro mg n xb k k0 Q c K S m1 m1' n1 n1' m2 I eb m4 hF hN
 have I3:=I.pushB' (Nat.le_of_lt n1) eb m4;refine wpS_bind (Z4 eb (Z9 (fun q=>wpS_pure (hF _ _ _ ⟨S,K.first I3 q⟩)) fun q=>?_));have q5:2<=nb-1:=Z5d n1 q;have l2:=Nat.le_trans (Nat.sub_le nb 1) n1';obtain⟨xa,ea,ma⟩:=Zb (Nat.lt_of_lt_of_le (Nat.sub_lt m1 Nat.one_pos) m1');have m5:n<=(out.push xb).size:=by rw[Array.size_push];exact Nat.le_succ_of_le m2
 refine wpS_bind (Z4 ea (wpS_bind (Z1h (base:=0) (n:=nb-1) (hint:=nb-1-1) c (S.kind K.hk) (K.Ga _ ma) K.Gb ?_ ?_ (Nat.sub_lt (Nat.le_of_lt q5) Nat.one_pos) fun j j1 j2 j3=>Z3 (fun hk1=>Z9 (fun q=>?_) fun q=>Z9 (fun q'=>?_) fun q'=>?_) fun hk1=>?_)))
 ·rw[List.drop_zero];exact Z4a I3.sb
 ·rw[Nat.zero_add];exact l2
 all_goals rw[List.drop_zero]at j2 j3
 ·exact wpS_pure (hF _ _ _ ⟨S,K.first (I3.extB j l2 j1 fun u hu v hv=>Int.le_trans (I3.lastA' m1 ea v hv) (j3 u hu).1) q⟩)
 ·exact wpS_pure (hF _ _ _ ⟨S,(I3.extB j l2 j1 fun u hu v hv=>Int.le_trans (I3.lastA' m1 ea v hv) (j3 u hu).1).done (.inr q')⟩)
 ·exact Z4b K S m1 m1' (by exact(Np 0xb000600232438008c9) q q') (Nat.le_trans j1 l2) (by rw[Array.size_append];exact Nat.le_add_right_of_le m5) (I3.extB j l2 j1 fun u hu v hv=>Int.le_trans (I3.lastA' m1 ea v hv) (j3 u hu).1) ea (fun u hu=>(j2 u hu).1) hF hN
 ·obtain rfl:j=nb - 1:=Nat.le_antisymm j1 (Nat.le_of_sub_eq_zero (Nat.eq_zero_of_not_pos hk1));exact Z4b K S m1 m1' q5 l2 m5 I3 ea (fun u hu=>(j2 u hu).1) hF hN
theorem Z5e{ac bc:Nat}{Q:ForInStep H7->SortSt->Prop}(c:Ask (model prog w) A E s κ G kx)(K:HiC κ G kx a b st0)(S:Sg st0 st)(L:Alh kx a b n out na nb)(hF:∀r t st',LoF kx a b st0 r st'->Q (.done (some r,t)) st')(hN:∀na nb out u st',HiN kx a b st0 n na nb out st'->Q (.done (none,na,nb,out,u)) st'/\Q (.yield (none,na,nb,out,u)) st'):wpS (model prog w) A E s (hi2 a b na nb out ac bc mg) Q st:=by
 revert prog w A E s κ G kx a b out st0 st na nb mg n ac bc Q;k_extra "l";intro prog w A E s κ G kx a b out st0 st na nb;k_extra "K";intro mg n ac bc Q c K S L hF hN
 have b1:1<=nb:=Nat.le_of_lt L.hb;obtain⟨xb,eb,mb⟩:=Zb (Nat.lt_of_lt_of_le (Nat.sub_lt b1 Nat.one_pos) L.hb');refine wpS_bind (wpS_modify (wpS_bind (Z4 eb (wpS_bind (Z1h (base:=0) (n:=na) (hint:=na-1) c (S.kind K.hk) (K.Gb _ mb) K.Ga ?_ ?_ (Nat.sub_lt L.ha Nat.one_pos) fun k k1 k2 k3=>Z3 (fun hk1=>Z9 (fun q=>?_) fun q=>?_) fun hk1=>?_)))))
 ·rw[List.drop_zero];exact Z4a L.I.sa
 ·rw[Nat.zero_add];exact L.ha'
 all_goals rw[List.drop_zero]at k2 k3
 ·exact wpS_pure (hF _ _ _ ⟨S.set _,(L.I.extA k L.ha' k1 fun u hu v hv=>Int.le_trans (L.I.lastB' b1 eb v hv) (k3 u hu).1).done (.inl q)⟩)
 ·exact Z4c c K (S.set _) (Nat.pos_of_ne_zero q) (Nat.le_trans k1 L.ha') L.hb L.hb' (by rw[Array.size_append];exact Nat.le_add_right_of_le L.hn) (L.I.extA k L.ha' k1 fun u hu v hv=>Int.le_trans (L.I.lastB' b1 eb v hv) (k3 u hu).1) eb (fun u hu=>(k2 u hu).1) hF hN
 ·obtain rfl:k=na:=Nat.le_antisymm k1 (Nat.le_of_sub_eq_zero (Nat.eq_zero_of_not_pos hk1));exact Z4c c K (S.set _) L.ha L.ha' L.hb L.hb' L.hn L.I eb (fun u hu=>(k2 u hu).1) hF hN
theorem Z72(c:Ask (model prog w) A E s κ G kx){Q:ForInStep H5->SortSt->Prop}(K:HiC κ G kx a b st0)(S:Sg st0 st)(L:Alh kx a b n out na nb)(hF:∀r t st',LoF kx a b st0 r st'->Q (.done (some r,t)) st')(hN:∀na nb out u st',HiN kx a b st0 (n+1) na nb out st'->Q (.yield (none,na,nb,out,u)) st'):wpS (model prog w) A E s (hi3 a b na nb out mg) Q st:=by
 refine ZK (t0:=(na,nb,out,0,0)) (fun z (t:Nat×Nat×KA×Nat×Nat) st'=>HiN kx a b st0 (n+min z 1) t.1 t.2.1 t.2.2.1 st') (fun t st'=>HiN kx a b st0 (n+1) t.1 t.2.1 t.2.2.1 st') (LoF kx a b st0) (fun z t st' hz I=>Z71 c K I.1 (I.2.mono (Nat.le_add_right n _)) (fun y y y z=>z) fun y y y y y I=>⟨I,I.1,I.2.mono (Nat.add_le_add_left (Nat.min_le_right _ _) _)⟩) ⟨S,L⟩ (fun t st' I=>⟨I.1,I.2.mono (Nat.le_of_eq ?_)⟩) (fun t st' I=>wpS_bind (wpS_lift (wpAny_rule ⟨rfl,?_⟩))) fun r t st' z=>wpS_pure (hF _ _ _ z)
 ·rw[Nat.min_eq_right];exact Nat.le_trans (Nat.le_trans L.ha L.ha') (Nat.le_add_right _ _)
 ·refine ZK (t0:=(t.1,t.2.1,t.2.2.1,mg+1,t.2.2.2.1,t.2.2.2.2)) (fun _ (t:Nat×Nat×KA×Nat×Nat×Nat) st'=>HiN kx a b st0 (n+1) t.1 t.2.1 t.2.2.1 st') (fun t st'=>HiN kx a b st0 (n+1) t.1 t.2.1 t.2.2.1 st') (LoF kx a b st0) (fun z t st' hz I=>?_) I (fun t st' I=>I) (fun t st' I=>wpS_bind (wpS_modify (wpS_pure (hN _ _ _ _ _ ⟨I.1.set _,I.2⟩)))) fun r t2 st' hr=>wpS_pure (hF _ _ _ hr);exact Z3 (fun y=>Z5e c K I.1 I.2 (fun y y y z=>z) fun y y y y y I=>⟨I,I⟩) fun y=>Z5e c K I.1 I.2 (fun y y y z=>z) fun y y y y y I=>⟨I,I⟩
end
theorem Z4C{a b:Array Keyed}{st:SortSt}{Q:Array Keyed->SortSt->Prop}(c:Ask (model prog w) A E s κ G kx)(hk:kindOf st=κ)(Ga:∀x∈a.toList,G x)(Gb:∀x∈b.toList,G x)(sa:Xd kx a.toList)(sb:Xd kx b.toList)(ha:1<=a.size)(hb:1<=b.size)(h0:∀y,b[0]?=some y->∀x∈a.toList,kx y<=kx x)(h1:∀x,a[a.size-1]?=some x->∀y∈b.toList,kx y<=kx x)(h:∀r st',Sg st st'->Xs kx a.toList b.toList r.toList->Q r st'):wpS (model prog w) A E s (Z2b a b) Q st:=by
 revert prog w A E s κ G kx a b st Q;k_extra "x";intro prog w A E s κ G kx a b st Q c hk Ga Gb sa sb ha hb h0 h1 h
 have K:HiC κ G kx a b st:=⟨hk,Ga,Gb,fun{out na nb} I e=>by
  subst e;refine I.first fun x hx y hy=>?_;obtain⟨z,ez,_⟩:=Zb (xs:=b) (i:=0) hb;have:b.toList.take 1=[z]:=by
   have:=Zp ez;simpa using this
  rw[this]at hy;rw[List.mem_singleton.mp hy];exact h0 z ez x (List.mem_of_mem_take hx)⟩
 obtain⟨x0,ex0,mx0⟩:=Zb (xs:=a) (i:=a.size - 1) (Nat.sub_lt ha Nat.one_pos);have I0:MH kx a b #[] (a.size-1+1) b.size:=by
  rw[Nat.sub_add_cancel ha];refine⟨by rw[take_of_length_le (by simp),take_of_length_le (by simp)];simp,List.Pairwise.nil,by simp,?_,?_⟩
  ·rw[take_of_length_le (by simp)];exact sa.neg
  ·rw[take_of_length_le (by simp)];exact sb.neg
 have I1:MH kx a b #[x0] (a.size-1) b.size:=I0.pushA ex0 (fun y hy=>h1 x0 ex0 y (List.mem_of_mem_take hy));rw[Z36];refine wpS_bind (wpS_lift (wpAny_rule ⟨rfl,wpS_bind (Z4 ex0 (Z9 (fun q1=>?_) fun q1=>Z9 (fun q2=>?_) fun q2=>wpS_bind (wpS_get ?_)))⟩))
 ·exact wpS_pure (h _ _ .refl (I1.done (.inl q1)))
 ·exact wpS_pure (h _ _ .refl (K.first I1 q2))
 refine ZK (t0:=(a.size-1,b.size,#[x0],gallopOf st)) (fun x (t:Nat×Nat×KA×Nat) st'=>HiN kx a b st (x+1) t.1 t.2.1 t.2.2.1 st') (fun u u=>False) (LoF kx a b st) (fun x t st' hx I=>Z72 c K I.1 I.2 (fun u u u z=>z) fun u u u u u z=>z) ⟨.refl,I1,Nat.pos_of_ne_zero q1,Nat.lt_of_le_of_ne hb (Ne.symm q2),Nat.sub_le _ _,Nat.le_refl _,Nat.le_refl 1⟩ (fun t st' I=>?_) (fun u u z=>z.elim) fun r t st' hr=>wpS_pure (h _ _ hr.1 hr.2);have z1:=I.2.I.len I.2.ha' I.2.hb';have z2:=I.2.hn;have z3:=I.2.ha;have z4:=I.2.hb;exact(Nt 0x5003820ed602483b0820b5849) z1 z2
end
section
variable {prog:Program} {w:World} {A:Around} {E:pS} {s:Shared} {κ:SortKind} {G:Keyed->Prop} {kx:Keyed->Int}
theorem Z6E{M:Model}{Q:PUnit->SortSt->Prop}{st st2:SortSt}(h:Q ⟨⟩ st2):wpS M A E s (set st2:StateT SortSt Sem PUnit) Q st:=by
 unfold wpS;rw[StateT.run_set];exact wP ⟨rfl,h⟩
noncomputable def ma4(sa:Nat)(m:KA):StateT SortSt Sem Bool:=modify (fun s=>Z6C s (m.toList.zipIdx.foldl (fun a x=>a.setIfInBounds (sa+x.2) x.1) (arrOf s)))>>=fun z=>get>>=fun s=>pure (failedOf s).isNone
noncomputable def ma3(arr:KA)(sa na sb nb:Nat):StateT SortSt Sem Bool:=if na<=nb then Z2a (arr.extract sa sb) (arr.extract sb (sb+nb))>>=ma4 sa else Z2b (arr.extract sa sb) (arr.extract sb (sb+nb))>>=ma4 sa
noncomputable def ma2(arr:KA)(sa na sb nb k:Nat):StateT SortSt Sem Bool:=if (na-k==0)=true then pure true else elem' arr (sa+k+(na-k)-1)>>=fun x=>Zt true x arr sb nb (nb-1)>>=fun w=>match w with
 | some m=>if (m==0)=true then pure true else ma3 arr (sa+k) (na-k) sb m
 | _=>pure false
noncomputable def ma1(s:SortSt)(i sa na pw sb nb:Nat):StateT SortSt Sem Bool:=set (setPending s (((pendingOf s).setIfInBounds i (sa,na+nb,pw)).eraseIdxIfInBounds (i+1)))>>=fun z=>elem' (arrOf s) sb>>=fun x=>Zt false x (arrOf s) sa na 0>>=fun w=>match w with
 | some k=>ma2 (arrOf s) sa na sb nb k
 | _=>pure false
theorem Z37(i:Nat):mergeAt' i=(get>>=fun s=>match (pendingOf s)[i]?,(pendingOf s)[i+1]? with
 | some (sa,na,pw),some (sb,nb,_)=>ma1 s i sa na pw sb nb
 | _,_=>liftM (unsupported "internal:list.sort.pending":Sem Bool)):=by kernel_rfl
theorem Z4d:∀(m:List Keyed) (n p:Nat) (xs:Array Keyed),p+n+m.length<=xs.size->((m.zipIdx n).foldl (fun a q=>a.setIfInBounds (p+q.2) q.1) xs).toList=xs.toList.take (p+n)++m++xs.toList.drop (p+n+m.length)
 | [],n,p,xs,_=>by simp
 | q::m,n,p,xs,h=>by
  simp only[length_cons]at h;rw[List.zipIdx_cons,List.foldl_cons,Z4d m (n+1) p _ (by simp;exact(Ns1 0x310701b02d600c3815820b5809) h)];have hl:p+n<xs.toList.length:=by simp;exact(Ns1 0x1841608c3815820b5809) h
  rw[Array.toList_setIfInBounds];have e1:(xs.toList.set (p+n) q).take (p+(n+1))=xs.toList.take (p+n)++[q]:=by
   rw[show p+(n+1)=p+n+1 by exact(Nq 0x1c0416b0701b02c2),List.take_add_one,List.getElem?_set_self hl,List.take_set_of_le (Nat.le_refl _)];rfl
  have e2:(xs.toList.set (p+n) q).drop (p+(n+1)+m.length)=xs.toList.drop (p+n+(q::m).length):=by
   rw[List.drop_set_of_lt (by exact(Nr 0x10701b02d6082c1))]
   congr 1
   simp only[length_cons];exact(Nr 0x1c0ac105ac20e03605ac2)
  rw[e1,e2];simp
theorem Z1R{l m:List Keyed}(h1:Xd kx l)(h2:Xd kx m)(h:∀x∈l,∀y∈m,kx x<=kx y):Xd kx (l++m):=List.pairwise_append.mpr ⟨h1,h2,h⟩
theorem Z4D{st:SortSt}{i sa na pw nb q:Nat}{pre L R post:List Keyed}{Q:Bool->SortSt->Prop}(c:Ask (model prog w) A E s κ G kx)(hk:kindOf st=κ)(hf:failedOf st=none)(e1:(pendingOf st)[i]?=some (sa,na,pw))(e2:(pendingOf st)[i+1]?=some (sa+na,nb,q))(ea:(arrOf st).toList=pre++(L++(R++post)))(l1:pre.length=sa)(l2:L.length=na)(l3:R.length=nb)(ha:1<=na)(hb:1<=nb)(sL:Xd kx L)(sR:Xd kx R)(hG:∀x∈(arrOf st).toList,G x)(h:∀st' N,Xs kx L R N->kindOf st'=κ->failedOf st'=none->(arrOf st').toList=pre++(N++post)->pendingOf st'=((pendingOf st).setIfInBounds i (sa,na+nb,pw)).eraseIdxIfInBounds (i+1)->Q true st'):wpS (model prog w) A E s (mergeAt' i) Q st:=by
 revert prog w A E s κ G kx st i sa na pw nb q pre L R post Q;k_extra "l";intro prog w A E s κ G kx st i sa na pw nb q;k_extra "K";intro pre L R post Q c hk hf e1 e2 ea l1 l2 l3 ha hb sL sR hG h
 have hsz:(arrOf st).size=sa+(na+(nb+post.length)):=by
  have:=congrArg List.length ea;simpa [l1,l2,l3] using this
 have at_:∀j,(arrOf st)[j]?=(pre++(L++(R++post)))[j]?:=fun j=>by rw[<-ea,Array.getElem?_toList]
 have dL:(arrOf st).toList.drop sa=L++(R++post):=by rw[ea,List.drop_append_of_le_length (by exact Y2r l1),List.drop_of_length_le (by exact Y2s l1)];rfl
 have dR:(arrOf st).toList.drop (sa+na)=R++post:=by rw[<-List.drop_drop,dL,List.drop_append_of_le_length (by exact Y2r l2),List.drop_of_length_le (by exact Y2s l2)];rfl
 have tL:∀k,k<=na->((arrOf st).toList.drop sa).take k=L.take k:=fun k hk=>by rw[dL,List.take_append_of_le_length (by exact Y2t l2 hk)]
 have tR:∀k,k<=nb->((arrOf st).toList.drop (sa+na)).take k=R.take k:=fun k hk=>by rw[dR,List.take_append_of_le_length (by exact Y2t l3 hk)]
 obtain⟨r0,er0⟩:∃r0,R[0]?=some r0:=⟨R[0],by simp⟩;obtain⟨ll,el⟩:∃ll,L[na - 1]?=some ll:=⟨L[na - 1],by simp⟩;have a0:(arrOf st)[sa+na]?=some r0:=by
  rw[at_,List.getElem?_append_right (by exact(Nr 0x20d80008049) l1),List.getElem?_append_right (by exact(Ns1 0x61b5c401884908049) l1 l2),List.getElem?_append_left (by exact Y2w l1 l2 l3 hb),<-er0]
  congr 1;exact(Ns1 0x1810061b5ee21884908049) l1 l2
 have aL:(arrOf st)[sa+na-1]?=some ll:=by
  rw[at_,List.getElem?_append_right (by exact(Nr 0x1c0836b80020e00908049) l1 ha),List.getElem?_append_left (by exact(Ns1 0x801c0c36bdc230e0091884908049) l1 l2 ha),<-el]
  congr 1;exact(Nr 0x1c0ae00e041b5ee208049) l1
 have mem:∀{j x},(arrOf st)[j]?=some x->G x:=fun{j x} e=>hG x (by simpa using List.mem_of_getElem? (l:=(arrOf st).toList) (by simpa using e));have hr0:∀y∈R,kx r0<=kx y:=fun y hy=>by
  obtain⟨j,hj⟩:=List.mem_iff_getElem?.mp hy;exact Z2M sR (Nat.zero_le j) er0 hj
 have hll:∀x∈L,kx x<=kx ll:=fun x hx=>by
  obtain⟨j,hj⟩:=List.mem_iff_getElem?.mp hx;have:=(List.getElem?_eq_some_iff.mp hj).1;exact Z2M sL (show j<=na-1 by exact(Nr 0x380dc400082908049) l2 this) hj el
 rw[Z37];refine wpS_bind (wpS_get ?_);rw[e1,e2];refine wpS_bind (Z6E (wpS_bind (Z4 a0 ?_)));refine wpS_bind (Z1h c hk (mem a0) hG (by rw[tL na (Nat.le_refl _)];exact sL.sublist (List.take_sublist _ _)) (by exact(Nt 0x41b0083b0ac1b0049) hsz) (by exact(Np 0x60200e009) ha) fun k k1 k2 k3=>?_);rw[tL k k1]at k2;rw[tL na (Nat.le_refl _),take_of_length_le (by exact Y2s l2)]at k3;refine Z9 (fun q1=>?_) fun q1=>?_
 ·have hkn:k=na:=by exact(Nq 0x20103000dc4908009) k1 q1
  subst hkn;rw[take_of_length_le (by exact Y2s l2)]at k2;exact wpS_pure (h _ (L++R) ⟨.refl _,Z1R sL sR fun x hx y hy=>by have zz3:=(k2 x hx).1;have zz4:=hr0 y hy;exact Y33 zz3 zz4⟩ hk hf (by rw[ea];simp) rfl)
 refine wpS_bind (Z4 (x:=ll) (by rw[show sa+k+(na-k)-1=sa+na-1 by rw[Nat.add_assoc,Nat.add_sub_cancel' k1]];exact aL) ?_);refine wpS_bind (Z1h c hk (mem aL) hG (by rw[tR nb (Nat.le_refl _)];exact sR.sublist (List.take_sublist _ _)) (by exact(Nt 0x18836b0083b0ac1b0049) hsz) (by exact Y2G hb) fun m m1 j2 j3=>?_);rw[tR m m1]at j2;rw[tR nb (Nat.le_refl _),take_of_length_le (by exact Y2s l3)]at j3;refine Z9 (fun q2=>?_) fun q2=>?_
 ·subst q2;rw[List.drop_zero]at j3;exact wpS_pure (h _ (L++R) ⟨.refl _,Z1R sL sR fun x hx y hy=>by have zz5:=(j3 y hy).1;have zz6:=hll x hx;exact Y32 zz5 zz6⟩ hk hf (by rw[ea];simp) rfl)
 have ex:((arrOf st).extract (sa+k) (sa+na)).toList=L.drop k:=by
  rw[Zn,<-List.drop_drop,dL,List.drop_append_of_le_length (by exact Y2H l2 q1),List.take_append_of_le_length (by simp;exact(Ns1 0xc56182f608ac008049) l2),take_of_length_le (by simp;exact(Ns1 0xc62b0456bd80008049) l2)]
 have ey:((arrOf st).extract (sa+na) (sa+na+m)).toList=R.take m:=by
  rw[Zn,show sa+na+m-(sa+na)=m by exact(Nr 0x820b0820b5ae2),tR m m1]
 have sx:((arrOf st).extract (sa+k) (sa+na)).size=na - k:=by rw[<-Array.length_toList,ex];simp;exact(Nr 0x837102e208049) l2
 have sy:((arrOf st).extract (sa+na) (sa+na+m)).size=m:=by rw[<-Array.length_toList,ey];simp;exact Y2M l3 m1
 have gx:∀x∈((arrOf st).extract (sa+k) (sa+na)).toList,G x:=fun x hx=>hG x (by rw[ex]at hx;rw[ea];simp[List.mem_of_mem_drop hx]);have gy:∀x∈((arrOf st).extract (sa+na) (sa+na+m)).toList,G x:=fun x hx=>hG x (by rw[ey]at hx;rw[ea];simp[List.mem_of_mem_take hx]);have s1:Xd kx ((arrOf st).extract (sa+k) (sa+na)).toList:=by rw[ex];exact sL.sublist (List.drop_sublist _ _)
 have s2:Xd kx ((arrOf st).extract (sa+na) (sa+na+m)).toList:=by rw[ey];exact sR.sublist (List.take_sublist _ _)
 have c0:∀y,((arrOf st).extract (sa+na) (sa+na+m))[0]?=some y->∀x∈((arrOf st).extract (sa+k) (sa+na)).toList,kx y<=kx x:=fun y hy x hx=>by
  have:y=r0:=by
   have:(R.take m)[0]?=some y:=by rw[<-ey,Array.getElem?_toList];exact hy
   rw[List.getElem?_take_of_lt (by exact(Np 0xc0418008c9) q2),er0]at this
   cases this;rfl
  subst this;rw[ex]at hx;exact(k3 x hx).1
 have c1:∀x,((arrOf st).extract (sa+k) (sa+na))[((arrOf st).extract (sa+k) (sa+na)).size-1]?=some x->∀y∈((arrOf st).extract (sa+na) (sa+na+m)).toList,kx y<=kx x:=fun x hx y hy=>by
  have:x=ll:=by
   rw[sx]at hx;have:(L.drop k)[na-k-1]?=some x:=by rw[<-ex,Array.getElem?_toList];exact hx
   rw[List.getElem?_drop,show k+(na-k-1)=na-1 by exact(Nq 0x1c02e1c0417b86c206020b88c9) q1,el]at this
   cases this;rfl
  subst this;rw[ey]at hy;exact(j2 y hy).1
 have fin:∀(r:Array Keyed) (st2:SortSt),Sg (setPending st (((pendingOf st).setIfInBounds i (sa,na+nb,pw)).eraseIdxIfInBounds (i+1))) st2->Xs kx ((arrOf st).extract (sa+k) (sa+na)).toList ((arrOf st).extract (sa+na) (sa+na+m)).toList r.toList->
   wpS (model prog w) A E s (ma4 (sa+k) r) Q st2:=by
  rintro r _ ⟨g,rfl⟩ hF;rw[ex,ey]at hF;have hl:r.toList.length=(na-k)+m:=by
   have:=hF.1.length_eq;simp at this;simp;exact Y2P l2 l3 m1 this
  refine wpS_bind (wpS_modify (wpS_bind (wpS_get (wpS_pure ?_))));show Q ((failedOf st).isNone) _;rw[hf];refine h _ (L.take k++(r.toList++R.drop m)) ⟨?_,?_⟩ hk hf ?_ rfl
  ·have p1:(r.toList++R.drop m).Perm (L.drop k++R):=by
    refine(List.Perm.append_right _ hF.1).trans ?_;rw[append_assoc,List.take_append_drop]
   have p2:=List.Perm.append_left (L.take k) p1;rw[<-append_assoc (L.take k) (L.drop k),List.take_append_drop]at p2;exact p2
  ·have mr:∀x∈r.toList,x∈L.drop k\/x∈R.take m:=fun x hx=>List.mem_append.mp (hF.1.mem_iff.mp hx);have tk:=List.pairwise_append.mp (show Xd kx (L.take k++L.drop k) by rw[List.take_append_drop];exact sL);have tm:=List.pairwise_append.mp (show Xd kx (R.take m++R.drop m) by rw[List.take_append_drop];exact sR);refine Z1R tk.1 (Z1R hF.2 tm.2.1 fun x hx y hy=>?_) fun x hx y hy=>?_
   ·rcases mr x hx with hx|hx
    ·exact Int.le_trans (hll x (List.mem_of_mem_drop hx)) (j3 y hy).1
    ·exact tm.2.2 x hx y hy
   ·have:=(k2 x hx).1;rcases List.mem_append.mp hy with hy|hy
    ·rcases mr y hy with hy|hy
     ·exact tk.2.2 x hx y hy
     ·have zz7:=hr0 y (List.mem_of_mem_take hy);exact Y33 this zz7
    ·have zz8:=hr0 y (List.mem_of_mem_drop hy);exact Y33 this zz8
  ·show((r.toList.zipIdx.foldl (fun a x=>a.setIfInBounds (sa+k+x.2) x.1) (arrOf st))).toList=_;rw[Z4d r.toList 0 (sa+k) (arrOf st) (by exact Y2Q hsz q1 m1 hl),Nat.add_zero,hl];have e3:(arrOf st).toList.take (sa+k)=pre++L.take k:=by
    rw[ea,<-l1,List.take_length_add_append,List.take_append_of_le_length (by exact Y2H l2 q1)]
   have e4:(arrOf st).toList.drop (sa+k+((na-k)+m))=R.drop m++post:=by
    rw[show sa+k+((na-k)+m)=sa+na+m by exact(Ns1 0xc02b586105ec115ac206020b88c9) q1,<-List.drop_drop,dR,List.drop_append_of_le_length (by exact Y2t l3 m1)]
   rw[e3,e4];simp
 exact Z3 (fun q3=>wpS_bind (Z4B c hk gx gy s1 s2 (by exact(Nr 0x41c0020b884906020b88c9) q1 sx) (by exact Y2T q2 sy) c0 c1 fin)) fun q3=>wpS_bind (Z4C c hk gx gy s1 s2 (by exact(Ns1 0xe003106e032441b8049) sx q3) (by exact Y2T q2 sy) c0 c1 fin)
end
section
variable {prog:Program} {w:World} {A:Around} {E:pS} {s:Shared} {κ:SortKind} {G:Keyed->Prop} {kx:Keyed->Int}
noncomputable def ka(kx:Keyed->Int)(xs:Array Keyed)(i:Nat):Int:=((xs[i]?).map kx).getD 0
structure SB(st0:SortSt)(lo:Nat)(st:SortSt):Prop where
 kind:kindOf st=kindOf st0
 failed:failedOf st=failedOf st0
 pend:pendingOf st=pendingOf st0
 perm:(arrOf st).toList.Perm (arrOf st0).toList
 keep:∀k,k<lo->(arrOf st)[k]?=(arrOf st0)[k]?
section
variable {st0 st:SortSt} {lo:Nat}
theorem SB.refl:SB st0 lo st0:=⟨rfl,rfl,rfl,.refl _,fun z z=>rfl⟩
theorem SB.size(h:SB st0 lo st):(arrOf st).size=(arrOf st0).size:=by
 have:=h.perm.length_eq;simpa using this
theorem SB.mirror(h:SB st0 lo st){i j:Nat}(hi:lo<=i)(hj:j<=(arrOf st0).size):SB st0 lo (setArr st (mirror (arrOf st) i j ((j-i) / 2))):=
 ⟨h.kind,h.failed,h.pend,(mirror_perm (arrOf st) i j _).toList.trans h.perm,fun k hk=>by
  show(PyProof.Rows.mirror (arrOf st) i j ((j-i) / 2))[k]?=_;rw[getElem?_mirror_all (by rw[h.size];exact hj),if_neg (by exact(Ns1 0x18822080e60082908009) hi hk)];exact h.keep k hk⟩
theorem SB.bubble(h:SB st0 lo st){src d:Nat}(hs:src<(arrOf st0).size)(hd:lo+d<=src):SB st0 lo (setArr st (bubble (arrOf st) src d)):=
 ⟨h.kind,h.failed,h.pend,(bubble_perm (arrOf st) src d).toList.trans h.perm,fun k hk=>by
  show(PyProof.Rows.bubble (arrOf st) src d)[k]?=_;rw[getElem?_bubble (by rw[h.size];exact hs) d (by exact(Nr 0x20804105809) hd),if_neg (by exact(Ns1 0x8ae3118030a44105809) hd hk),if_neg (by exact(Ns1 0x10c0308ae1398030a44105809) hd hk)];exact h.keep k hk⟩
theorem Z1D{xs:Array Keyed}{i j:Nat}(hj:j<=xs.size)(k:Nat):ka kx (PyProof.Rows.mirror xs i j ((j-i) / 2)) k=if i<=k/\k<j then ka kx xs (i+j-1-k) else ka kx xs k:=by
 unfold ka;rw[getElem?_mirror_all hj]
 split<;>rfl
set_option tactic.hygienic true in
theorem ZY{xs:Array Keyed}{i j:Nat}(hj:j<=xs.size)(h:∀k,i<=k->k<j->ka kx xs k=ka kx xs (j-1))(k:Nat):ka kx (PyProof.Rows.mirror xs i j ((j-i) / 2)) k=ka kx xs k:=by
 rw[Z1D hj]
 split
 ·rename_i z
  have z1:=z.1;have z2:=z.2;rw[h (i+j-1-k) (by exact Y48 z2) (by exact(Nr 0x410e040b5ee11042908009) z1 z2),h k z1 z2]
 ·rfl
theorem Z2W{xs:Array Keyed}{src d:Nat}(hs:src<xs.size)(hd:d<=src)(k:Nat):ka kx (PyProof.Rows.bubble xs src d) k=if k=src-d then ka kx xs src else if src-d<k/\k<=src then ka kx xs (k-1) else ka kx xs k:=by
 unfold ka;rw[getElem?_bubble hs d hd]
 split
 ·rfl
 ·split<;>rfl
theorem ltA(c:Ask (model prog w) A E s κ G kx){i j:Nat}{Q:Option Bool->SortSt->Prop}(hB:SB st0 lo st)(hk:kindOf st0=κ)(hG:∀x∈(arrOf st0).toList,G x)(hi:i<(arrOf st0).size)(hj:j<(arrOf st0).size)(h:Q (some (decide (ka kx (arrOf st) i<ka kx (arrOf st) j))) st):wpS (model prog w) A E s (ltAt' i j) Q st:=by
 obtain⟨x,ex,mx⟩:=Zb (xs:=arrOf st) (i:=i) (by rw[hB.size];exact hi);obtain⟨y,ey,my⟩:=Zb (xs:=arrOf st) (i:=j) (by rw[hB.size];exact hj);rw[ltAt'_eq];refine wpS_bind (wpS_get ?_);show wpS _ _ _ _ (do let x <-elem' (arrOf st) i;let y <-elem' (arrOf st) j;lt' x y) Q st;refine wpS_bind (Z4 ex (wpS_bind (Z4 ey (c.ask x y st Q (hG x (hB.perm.mem_iff.mp mx)) (hG y (hB.perm.mem_iff.mp my)) (hB.kind.trans hk) ?_))));have e1:ka kx (arrOf st) i=kx x:=by unfold ka;rw[ex];rfl
 have e2:ka kx (arrOf st) j=kx y:=by unfold ka;rw[ey];rfl
 rw[e1,e2]at h;exact h
end
noncomputable def Xm(kx:Keyed->Int)(xs:Array Keyed)(lo n:Nat):Prop:=∀i j,lo<=i->i<=j->j<lo+n->ka kx xs i<=ka kx xs j
noncomputable def Xq(kx:Keyed->Int)(xs:Array Keyed)(lo n:Nat):Prop:=∀i j,lo<=i->i<=j->j<lo+n->ka kx xs j<=ka kx xs i
theorem Xm.snoc{xs:Array Keyed}{lo n:Nat}(h:Xm kx xs lo n)(h1:1<=n)(k:ka kx xs (lo+n-1)<=ka kx xs (lo+n)):Xm kx xs lo (n+1):=fun i j hi hij hj=>by
 by_cases q:j<lo+n
 ·exact h i j hi hij q
 ·have:j=lo+n:=by exact Y2Z hj q
  subst this
  by_cases q2:i=lo+n
  ·subst q2;exact Int.le_refl _
  ·have:=h i (lo+n-1) hi (by exact Y30 hij q2) (by exact Y31 hij q2);exact Y32 k this
theorem Xq.snoc{xs:Array Keyed}{lo n:Nat}(h:Xq kx xs lo n)(h1:1<=n)(k:ka kx xs (lo+n)<=ka kx xs (lo+n-1)):Xq kx xs lo (n+1):=fun i j hi hij hj=>by
 by_cases q:j<lo+n
 ·exact h i j hi hij q
 ·have:j=lo+n:=by exact Y2Z hj q
  subst this
  by_cases q2:i=lo+n
  ·subst q2;exact Int.le_refl _
  ·have:=h i (lo+n-1) hi (by exact Y30 hij q2) (by exact Y31 hij q2);exact Y33 k this
theorem Xq.congr{xs ys:Array Keyed}{lo n:Nat}(h:Xq kx xs lo n)(e:∀k,ka kx ys k=ka kx xs k):Xq kx ys lo n:=fun i j hi hij hj=>by
 rw[e,e];exact h i j hi hij hj
theorem Xm.one{xs:Array Keyed}{lo:Nat}:Xm kx xs lo 1:=fun i j hi hij hj=>by
 have:i=j:=by exact Y34 hi hij hj
 subst this;exact Int.le_refl _
theorem Xq.one{xs:Array Keyed}{lo:Nat}:Xq kx xs lo 1:=fun i j hi hij hj=>by
 have:i=j:=by exact Y34 hi hij hj
 subst this;exact Int.le_refl _
abbrev AscT:=Option (Option Nat)×Nat
abbrev DscT:=Option (Option Nat)×Nat×Nat
noncomputable def ascP(lo a nrem:Nat):StateT SortSt Sem AscT:=
 forIn [a:nrem] ((none,a):AscT) fun z r=>do
  let x <-ltAt' (lo+r.2) (lo+r.2-1)
  match x with
  | some smaller=>if smaller=true then pure (ForInStep.done (none,r.2)) else pure (ForInStep.yield (none,r.2+1))
  | _=>pure (ForInStep.done (some none,r.2))
noncomputable def Z3c(lo n nrem:Nat):StateT SortSt Sem (Option Nat):=do
 reverseSlice' lo (lo+n)
 let r <-ascP lo n nrem
 match r.1 with
 | some r=>pure r
 | none=>pure (some r.2)
noncomputable def dscP(lo n nrem:Nat):StateT SortSt Sem DscT:=
 forIn [n:nrem] ((none,n,0):DscT) fun z r=>do
  let x <-ltAt' (lo+r.2.1) (lo+r.2.1-1)
  match x with
  | some smaller=>
   if smaller=true then
    if r.2.2>0 then do
     reverseSlice' (lo+r.2.1-(r.2.2+1)) (lo+r.2.1)
     pure (ForInStep.yield (none,r.2.1+1,0))
    else pure (ForInStep.yield (none,r.2.1+1,0))
   else do
    let x <-ltAt' (lo+r.2.1-1) (lo+r.2.1)
    match x with
    | some larger=>if larger=true then pure (ForInStep.done (none,r.2.1,r.2.2)) else pure (ForInStep.yield (none,r.2.1+1,r.2.2+1))
    | _=>pure (ForInStep.done (some none,r.2.1,r.2.2))
  | _=>pure (ForInStep.done (some none,r.2.1,r.2.2))
noncomputable def Z1o(lo n nrem:Nat):StateT SortSt Sem (Option Nat):=do
 liftM (rule "list.sort.descending-run")
 let r <-dscP lo (n+1) nrem
 match r.1 with
 | some r=>pure r
 | none=>
  if r.2.2>0 then do
   reverseSlice' (lo+r.2.1-(r.2.2+1)) (lo+r.2.1)
   Z3c lo r.2.1 nrem
  else Z3c lo r.2.1 nrem
theorem Z3x(lo nrem:Nat):countRun' lo nrem=(do
  let r <-ascP lo 1 nrem
  match r.1 with
  | some r=>pure r
  | none=>
   if (r.2==nrem)=true then pure (some r.2)
   else if r.2>1 then do
    let x <-ltAt' lo (lo+r.2-1)
    match x with
    | some rose=>if rose=true then pure (some r.2) else do
      reverseSlice' lo (lo+r.2)
      Z1o lo r.2 nrem
    | _=>pure none
   else Z1o lo r.2 nrem):=by kernel_rfl
end
section
variable {prog:Program} {w:World} {A:Around} {E:pS} {s:Shared} {κ:SortKind} {G:Keyed->Prop} {kx:Keyed->Int} {st0 st:SortSt} {lo:Nat}
theorem Z4e(c:Ask (model prog w) A E s κ G kx){a nrem:Nat}{Q:AscT->SortSt->Prop}(hB:SB st0 lo st)(hk:kindOf st0=κ)(hG:∀x∈(arrOf st0).toList,G x)(hn:lo+nrem<=(arrOf st0).size)(ha:1<=a)(han:a<=nrem)(hs:Xm kx (arrOf st) lo a)(h:∀n,a<=n->n<=nrem->Xm kx (arrOf st) lo n->(n=nrem\/ka kx (arrOf st) (lo+n)<ka kx (arrOf st) (lo+n-1))->Q (none,n) st):wpS (model prog w) A E s (ascP lo a nrem) Q st:=by
 unfold ascP;refine wpS_forRange (I:=fun x r st'=>st'=st/\r=(none,x)/\Xm kx (arrOf st) lo x) ?_ ?_ ⟨rfl,rfl,hs⟩
 ·rintro x r st' h1 h2 ⟨rfl,rfl,hs'⟩;dsimp only;refine wpS_bind (ltA c hB hk hG (by exact Yb hn h2) (by exact Yc hn h2) ?_)
  by_cases q:ka kx (arrOf st') (lo+x)<ka kx (arrOf st') (lo+x-1)
  ·rw[decide_eq_true q];simp only[if_true];exact wpS_pure (h x h1 (by exact Yd h2) hs' (.inr q))
  ·rw[decide_eq_false q];simp only[Bool.false_eq_true,if_false];exact wpS_pure ⟨rfl,rfl,hs'.snoc (by exact Ye ha h1) (by exact Yg q)⟩
 ·rintro r st' ⟨rfl,rfl,hs'⟩;rw[Nat.max_eq_right han]at hs' ⊢;exact h nrem han (Nat.le_refl _) hs' (.inl rfl)
theorem Z3y(c:Ask (model prog w) A E s κ G kx){n nrem:Nat}{Q:Option Nat->SortSt->Prop}(hB:SB st0 lo st)(hk:kindOf st0=κ)(hG:∀x∈(arrOf st0).toList,G x)(hn:lo+nrem<=(arrOf st0).size)(h1:1<=n)(hnn:n<=nrem)(hs:Xq kx (arrOf st) lo n)(h:∀m st',SB st0 lo st'->1<=m->m<=nrem->Xm kx (arrOf st') lo m->Q (some m) st'):wpS (model prog w) A E s (Z3c lo n nrem) Q st:=by
 unfold Z3c;refine wpS_bind (wpS_reverse ?_);have hB':=hB.mirror (i:=lo) (j:=lo+n) (Nat.le_refl _) (by exact Yh hn hnn);refine wpS_bind (Z4e c hB' hk hG hn h1 hnn (fun i j hi hij hj=>?_) fun m m1 m2 m3 z=>wpS_pure (h m _ hB' (by exact Ye h1 m1) m2 m3));show ka kx (PyProof.Rows.mirror (arrOf st) lo (lo+n) ((lo+n-lo) / 2)) i<=ka kx (PyProof.Rows.mirror (arrOf st) lo (lo+n) ((lo+n-lo) / 2)) j;rw[Z1D (by rw[hB.size];exact Yh hn hnn),Z1D (by rw[hB.size];exact Yh hn hnn),if_pos (by exact(Ns1 0xc160842001c60b08291040908009) hi hij hj),if_pos (by exact(Ns1 0xc161044001c60b08291040908009) hi hij hj)];exact hs _ _ (by exact(Nr 0x1c08360daf708041b0029) hj) (by exact(Ns1 0xe062b0ad7b843818ac2b5ee008009) hij) (by exact(Ns1 0x182c10e060b02d7b8460b082908009) hi hj)
theorem Z6F{n nrem:Nat}{Q:DscT->SortSt->Prop}(c:Ask (model prog w) A E s κ G kx)(hB:SB st0 lo st)(hk:kindOf st0=κ)(hG:∀x∈(arrOf st0).toList,G x)(hn:lo+nrem<=(arrOf st0).size)(h1:1<=n)(hnn:n<=nrem)(hs:Xq kx (arrOf st) lo n)(h:∀m q st',SB st0 lo st'->n<=m->m<=nrem->Xq kx (arrOf st') lo m->q+1<=m->(∀i,lo+m-(q+1)<=i->i<lo+m->ka kx (arrOf st') i=ka kx (arrOf st') (lo+m-1))->Q (none,m,q) st'):wpS (model prog w) A E s (dscP lo n nrem) Q st:=by
 revert prog w A E s κ G kx st0 st lo n nrem Q;k_extra "v";intro prog w A E s κ G kx st0 st lo n nrem Q c hB hk hG hn h1 hnn hs h
 unfold dscP;refine wpS_forRange (I:=fun x r st'=>∃q,r=(none,x,q)/\SB st0 lo st'/\Xq kx (arrOf st') lo x/\q+1<=x/\(∀i,lo+x-(q+1)<=i->i<lo+x->ka kx (arrOf st') i=ka kx (arrOf st') (lo+x-1))) ?_ ?_ ⟨0,rfl,hB,hs,by exact(Np 0x700c58000e009) h1,fun i h1 h2=>by congr 1;exact(Nr 0x38082d710820b082910700c5820b5c09) h1 h2⟩
 ·rintro x r st' g1 g2 ⟨q,rfl,hB',hs',hq,he⟩;dsimp only;have hsz:lo+x<=(arrOf st').size:=by rw[hB'.size];exact Yp hn g2
  refine wpS_bind (ltA c hB' hk hG (by exact Yb hn g2) (by exact Yc hn g2) ?_)
  by_cases p:ka kx (arrOf st') (lo+x)<ka kx (arrOf st') (lo+x-1)
  ·rw[decide_eq_true p];simp only[if_true];have step1:∀xs:Array Keyed,(∀k,ka kx xs k=ka kx (arrOf st') k)->Xq kx xs lo (x+1):=fun xs e=>(hs'.snoc (by exact Yq hq) (by exact Yr p)).congr e
   by_cases hq0:q>0
   ·rw[if_pos hq0];refine wpS_bind (wpS_reverse (wpS_pure ⟨0,rfl,hB'.mirror (by exact Ys hq) (by exact Yp hn g2),step1 _ (ZY hsz he),by exact Yt,fun i h1 h2=>by congr 1;exact Yu h1 h2⟩))
   ·rw[if_neg hq0];exact wpS_pure ⟨0,rfl,hB',step1 _ (fun z=>rfl),by exact Yt,fun i h1 h2=>by congr 1;exact Yu h1 h2⟩
  ·rw[decide_eq_false p];simp only[Bool.false_eq_true,if_false];refine wpS_bind (ltA c hB' hk hG (by exact Yc hn g2) (by exact Yb hn g2) ?_)
   by_cases p2:ka kx (arrOf st') (lo+x-1)<ka kx (arrOf st') (lo+x)
   ·rw[decide_eq_true p2];simp only[if_true];exact wpS_pure (h x q st' hB' g1 (by exact Yd g2) hs' hq he)
   ·rw[decide_eq_false p2];simp only[Bool.false_eq_true,if_false];have ex:ka kx (arrOf st') (lo+x)=ka kx (arrOf st') (lo+x-1):=by exact Yv p p2
    refine wpS_pure ⟨q+1,rfl,hB',hs'.snoc (by exact Yq hq) (by exact(Jq 0x403080a9) ex),by exact Yx hq,fun i h1 h2=>?_⟩;rw[show lo+(x+1)-1=lo+x from rfl]
    by_cases hix:i=lo+x
    ·rw[hix]
    ·rw[ex];exact he i (by exact(Ns1 0xc3815820b5c030e03815ac1c06c0b5c09) h1) (by exact(Nr 0x20d801106c011921c0ac1b0029) h2 hix)
 ·rintro r st' ⟨q,rfl,hB',hs',hq,he⟩;rw[Nat.max_eq_right hnn]at hs' hq he ⊢;exact h nrem q st' hB' hnn (Nat.le_refl _) hs' hq he
theorem Z21(c:Ask (model prog w) A E s κ G kx){n nrem:Nat}{Q:Option Nat->SortSt->Prop}(hB:SB st0 lo st)(hk:kindOf st0=κ)(hG:∀x∈(arrOf st0).toList,G x)(hn:lo+nrem<=(arrOf st0).size)(hnn:n+1<=nrem)(hs:Xq kx (arrOf st) lo (n+1))(h:∀m st',SB st0 lo st'->1<=m->m<=nrem->Xm kx (arrOf st') lo m->Q (some m) st'):wpS (model prog w) A E s (Z1o lo n nrem) Q st:=by
 unfold Z1o;refine wpS_bind (wpS_lift (wpAny_rule ⟨rfl,?_⟩));refine wpS_bind (Z6F c hB hk hG hn (by exact YA) hnn hs fun m q st' hB' m1 m2 hs' hq he=>?_);dsimp only;have hsz:lo+m<=(arrOf st').size:=by rw[hB'.size];exact Yh hn m2
 by_cases hq0:q>0
 ·rw[if_pos hq0];exact wpS_bind (wpS_reverse (Z3y c (hB'.mirror (by exact Ys hq) (by exact Yh hn m2)) hk hG hn (by exact Yq hq) m2 (hs'.congr (ZY hsz he)) h))
 ·rw[if_neg hq0];exact Z3y c hB' hk hG hn (by exact Yq hq) m2 hs' h
theorem Z5f(c:Ask (model prog w) A E s κ G kx){nrem:Nat}{Q:Option Nat->SortSt->Prop}(hB:SB st0 lo st)(hk:kindOf st0=κ)(hG:∀x∈(arrOf st0).toList,G x)(hn:lo+nrem<=(arrOf st0).size)(h1:1<=nrem)(h:∀m st',SB st0 lo st'->1<=m->m<=nrem->Xm kx (arrOf st') lo m->Q (some m) st'):wpS (model prog w) A E s (countRun' lo nrem) Q st:=by
 rw[Z3x];refine wpS_bind (Z4e c hB hk hG hn (Nat.le_refl 1) h1 Xm.one fun n n1 n2 n3 n4=>?_);dsimp only
 by_cases q1:n=nrem
 ·rw[if_pos (by simpa using q1)];exact wpS_pure (h n st hB n1 n2 n3)
 rw[if_neg (by simpa using q1)];have hlt:=n4.resolve_left q1
 by_cases q2:n>1
 ·rw[if_pos q2];refine wpS_bind (ltA c hB hk hG (by exact(Nr 0x40084380244105809) hn h1) (by exact(Ns1 0x838182d708462324230244105809) hn n2 q1) ?_)
  by_cases q3:ka kx (arrOf st) lo<ka kx (arrOf st) (lo+n-1)
  ·rw[decide_eq_true q3];simp only[if_true];exact wpS_pure (h n st hB n1 n2 n3)
  ·rw[decide_eq_false q3];simp only[Bool.false_eq_true,if_false];have hall:∀k,lo<=k->k<lo+n->ka kx (arrOf st) k=ka kx (arrOf st) (lo+n-1):=fun k k1 k2=>by
    have a1:=n3 lo k (Nat.le_refl _) k1 k2;have a2:=n3 k (lo+n-1) k1 (by exact(Nr 0x38106d700041b0029) k2) (by exact(Nr 0x106c1c0836b8441b0029) k2);exact(Jr 0x88a110d2200d21010c9) q3 a1 a2
   have e:=ZY (kx:=kx) (xs:=arrOf st) (i:=lo) (j:=lo+n) (by rw[hB.size];exact Yh hn n2) hall;refine wpS_bind (wpS_reverse (Z21 c (hB.mirror (Nat.le_refl _) (by exact Yh hn n2)) hk hG hn (by exact(Nq 0x43805801008c908009) n2 q1) (Xq.congr (Xq.snoc (fun i j hi hij hj=>?_) (by exact(Np 0xe0000e029) q2) (by exact Yr hlt)) e) h));rw[hall i hi (by exact(Ns1 0xc5600462b042908009) hij hj),hall j (by exact YJ hi hij) hj];exact Int.le_refl _
 ·rw[if_neg q2];have:n=1:=by exact(Np 0x70010038099200e009) n1 q2
  subst this;exact Z21 c hB hk hG hn (by exact(Np 0x1c071600038119200e009) n2 q1) (Xq.one.snoc (Nat.le_refl _) (by exact Yr hlt)) h
abbrev BsT:=Option Bool×Nat×Nat
noncomputable def bsL(lo k:Nat):StateT SortSt Sem BsT:=forIn [0:k] ((none,0,k):BsT) fun u r=>
 if r.2.1>=r.2.2 then pure (.done (none,r.2.1,r.2.2)) else ltAt' (lo+k) (lo+(r.2.1+r.2.2) / 2)>>=fun x=>match x with
  | some z=>if z=true then pure (.yield (none,r.2.1,(r.2.1+r.2.2) / 2)) else pure (.yield (none,(r.2.1+r.2.2) / 2+1,r.2.2))
  | _=>pure (.done (some false,r.2.1,r.2.2))
noncomputable def bsK(lo k:Nat):StateT SortSt Sem (ForInStep (Option Bool×Unit)):=bsL lo k>>=fun r=>match r.1 with
 | some r=>pure (.done (some r,()))
 | none=>moveDown' (lo+k) (lo+r.2.1)>>=fun z=>pure (.yield (none,()))
theorem Z62(lo n ok:Nat):binarySort' lo n ok=(forIn [max ok 1:n] ((none,()):Option Bool×Unit) (fun k z=>bsK lo k)>>=fun r=>match r.1 with
 | some r=>pure r
 | none=>pure true):=by kernel_rfl
structure BsI(kx:Keyed->Int)(a:Array Keyed)(lo k l u:Nat):Prop where
 p1:l<=u
 p2:u<=k
 p4:∀i,i<l->ka kx a (lo+i)<=ka kx a (lo+k)
 p5:∀i,u<=i->i<k->ka kx a (lo+k)<=ka kx a (lo+i)
theorem Z73{n k:Nat}{Q:BsT->SortSt->Prop}(c:Ask (model prog w) A E s κ G kx)(hB:SB st0 lo st)(hk:kindOf st0=κ)(hG:∀x∈(arrOf st0).toList,G x)(hn:lo+n<=(arrOf st0).size)(hkn:k<n)(hs:Xm kx (arrOf st) lo k)(h:∀l,BsI kx (arrOf st) lo k l l->Q (none,l,l) st):wpS (model prog w) A E s (bsL lo k) Q st:=by
 revert prog w A E s κ G kx st0 st lo n k Q;k_extra "v";intro prog w A E s κ G kx st0 st lo n k Q c hB hk hG hn hkn hs h
 refine wpS_mono (wpS_forRange (I:=fun x (r:BsT) st'=>st'=st/\r.1=none/\r.2.2-r.2.1<=k-x/\BsI kx (arrOf st) lo k r.2.1 r.2.2) (Q:=fun(r:BsT) st'=>st'=st/\∃l,r=(none,l,l)/\BsI kx (arrOf st) lo k l l) ?_ ?_ ⟨rfl,rfl,by exact(Np 0xc02e0c02e0),⟨Nat.zero_le _,Nat.le_refl _,fun i hi=>absurd hi (Nat.not_lt_zero _),fun i h1 h2=>absurd h2 (Nat.not_lt.mpr h1)⟩⟩) ?_
 ·rintro x ⟨r,l,u⟩ st' _ hx ⟨rfl,rfl,p3,I⟩;have p1:=I.p1;have p2:=I.p2;refine Z3 (fun hge=>?_) fun hge=>wpS_bind (ltA c hB hk hG (by exact Yb hn hkn) (by exact YR hn hkn p1 p2) (Z2N (fun q=>?_) fun q=>?_))
  ·obtain rfl:l=u:=by exact YO p1 hge
   exact wpS_pure ⟨rfl,l,rfl,I⟩
  ·refine wpS_pure ⟨rfl,rfl,by exact YW p3,by exact YT hge,by exact YV p1 p2,I.p4,fun i i1 i2=>?_⟩;have:=hs (lo+(l+u) / 2) (lo+i) (by exact YY) (by exact Y10 i1) (by exact Y11 i2);exact(Jr 0x8031046908089) q this
  ·refine wpS_pure ⟨rfl,rfl,by exact Y16 p3,by exact Y14 hge,by exact Y15 p2,fun i i1=>?_,I.p5⟩;have:=hs (lo+i) (lo+(l+u) / 2) (by exact Y17) (by exact Y19 i1) (by exact Y1b p2 hge);exact(Jr 0x86110d21010c9) q this
 ·rintro⟨r,l,u⟩ st' ⟨rfl,rfl,p3,I⟩;have p1:=I.p1;obtain rfl:l=u:=by exact Y1d p1 p3
  exact⟨rfl,l,rfl,I⟩
 ·rintro r st' ⟨rfl,l,rfl,I⟩;exact h l I
theorem Z74(c:Ask (model prog w) A E s κ G kx){n k:Nat}{Q:ForInStep (Option Bool×Unit)->SortSt->Prop}(hB':SB st0 lo st)(hk:kindOf st0=κ)(hG:∀x∈(arrOf st0).toList,G x)(hn:lo+n<=(arrOf st0).size)(hkn:k<n)(hs':Xm kx (arrOf st) lo k)(h:∀st',SB st0 lo st'->Xm kx (arrOf st') lo (k+1)->Q (.yield (none,())) st'):wpS (model prog w) A E s (bsK lo k) Q st:=by
 refine wpS_bind (Z73 c hB' hk hG hn hkn hs' fun l I=>?_);have p2:=I.p2;have p4:=I.p4;have p5:=I.p5;show wpS _ _ _ _ (moveDown' (lo+k) (lo+l)>>=_) _ _;rw[moveDown'_eq];refine wpS_bind (wpS_modify (wpS_pure (h _ (hB'.bubble (by exact Yb hn hkn) (by exact(Nr 0x105840b0416b82c0))) fun i j hi hij hj=>?_)));show ka kx (PyProof.Rows.bubble (arrOf st) (lo+k) (lo+k-(lo+l))) i<=ka kx (PyProof.Rows.bubble (arrOf st) (lo+k) (lo+k-(lo+l))) j;have hks:lo+k<(arrOf st).size:=by rw[hB'.size];exact Yb hn hkn
 rw[Z2W hks (by exact Y1f),Z2W hks (by exact Y1f),show lo+k-(lo+k-(lo+l))=lo+l from Nat.sub_sub_self (Nat.add_le_add_left p2 lo)];obtain⟨i,rfl⟩:∃m,i=lo+m:=⟨i - lo,by exact(Nq 0x370582208009) hi⟩;obtain⟨j,rfl⟩:∃m,j=lo+m:=⟨j - lo,by exact(Nr 0x15c161084105809) hij⟩;rcases Nat.lt_trichotomy i l with x1|x1|x1
 ·rw[if_neg (by exact Y1i x1),if_neg (by exact Y1j x1)];rcases Nat.lt_trichotomy j l with y1|y1|y1
  ·rw[if_neg (by exact Y1i y1),if_neg (by exact Y1j y1)];exact hs' _ _ (by exact Y17) (by exact(Nr 0x816082c0102c105809) hij) (by exact(Ns1 0x47610ec10082908009) p2 y1)
  ·rw[if_pos (by exact Y1m y1)];exact p4 i x1
  ·rw[if_neg (by exact Y1n y1),if_pos (by exact Y1o hj y1)];exact hs' _ _ (by exact Y17) (by exact(Ns1 0x3810ed700ec01042908029) x1 y1) (by exact(Nt 0x11583818ad70808148701b0ac31582908009) p2 hj x1)
 ·rw[if_pos (by exact Y1m x1)];rcases Nat.lt_trichotomy j l with y1|y1|y1
  ·exact Y1r hij x1 y1
  ·rw[if_pos (by exact Y1m y1)];exact Int.le_refl _
  ·rw[if_neg (by exact Y1n y1),if_pos (by exact Y1o hj y1),show lo+j-1=lo+(j-1) from Nat.add_sub_assoc (Nat.succ_le_of_lt (Nat.zero_lt_of_lt y1)) lo];exact p5 _ (by exact Y1s y1) (by exact(Ns1 0x20e0370846148702b02c105829) hj y1)
 ·rw[if_neg (by exact Y1n x1),if_pos (by exact(Nt 0x40b0c1600c16202c138c8148416182c048702b02c105829) hj hij x1),if_neg (by exact(Ns1 0x182c20584608c29102c105809) hij x1),if_pos (by exact(Nt 0x40b041600416202c138c8148416182c048702b02c105829) hj hij x1)];exact hs' _ _ (by exact(Nr 0xe022b5c4008029) x1) (by exact(Nr 0x1c0816b870105ae0102c105809) hij) (by exact(Nt 0x205838082d708c8148416182c048702b02c105829) hj hij x1)
theorem Z6G(c:Ask (model prog w) A E s κ G kx){n ok:Nat}{Q:Bool->SortSt->Prop}(hB:SB st0 lo st)(hk:kindOf st0=κ)(hG:∀x∈(arrOf st0).toList,G x)(hn:lo+n<=(arrOf st0).size)(h1:1<=ok)(hok:ok<=n)(hs:Xm kx (arrOf st) lo ok)(h:∀st',SB st0 lo st'->Xm kx (arrOf st') lo n->Q true st'):wpS (model prog w) A E s (binarySort' lo n ok) Q st:=by
 rw[Z62];refine wpS_bind (wpS_mono (wpS_forRange (I:=fun k r st'=>r=(none,())/\SB st0 lo st'/\Xm kx (arrOf st') lo k) (Q:=fun r st'=>r=(none,())/\SB st0 lo st'/\Xm kx (arrOf st') lo n) ?_ ?_ ⟨rfl,hB,by rw[Nat.max_eq_left h1];exact hs⟩) ?_)
 ·rintro k r st' hak hkn ⟨rfl,hB',hs'⟩;exact Z74 c hB' hk hG hn hkn hs' fun st'' B S=>⟨rfl,B,S⟩
 ·rintro r st' ⟨rfl,hB',hs'⟩;rw[Nat.max_eq_left h1,Nat.max_eq_right hok]at hs';exact⟨rfl,hB',hs'⟩
 ·rintro r st' ⟨rfl,hB',hs'⟩;exact wpS_pure (h st' hB' hs')
end
section
variable {prog:Program} {w:World} {A:Around} {E:pS} {s:Shared} {κ:SortKind} {G:Keyed->Prop} {kx:Keyed->Int}
noncomputable def Xk(kx:Keyed->Int):Nat->List (Nat×Nat)->List (List Keyed)->Prop
 | _,[],[]=>True
 | off,p::ps,r::rs=>p.1=off/\r.length=p.2/\1<=p.2/\Xd kx r/\Xk kx (off+p.2) ps rs
 | _,_,_=>False
theorem Xk.split:∀{p1 ps:List (Nat×Nat)} {off:Nat} {rs:List (List Keyed)},Xk kx off (p1++ps) rs->∃r1 r2,rs=r1++r2/\r1.length=p1.length/\Xk kx off p1 r1/\Xk kx (off+r1.flatten.length) ps r2
 | [],ps,off,rs,h=>⟨[],rs,rfl,rfl,trivial,h⟩
 | p::p1,ps,off,[],h=>h.elim
 | p::p1,ps,off,r::rs,h=>by
  obtain⟨a,b,c,d,e⟩:=h;obtain⟨r1,r2,rfl,hl,t1,t2⟩:=Xk.split e;refine⟨r::r1,r2,rfl,by simp[hl],⟨a,b,c,d,t1⟩,?_⟩;rw[List.flatten_cons,length_append,b,<-Nat.add_assoc];exact t2
theorem Xk.join:∀{p1 ps:List (Nat×Nat)} {off:Nat} {r1 r2:List (List Keyed)},Xk kx off p1 r1->Xk kx (off+r1.flatten.length) ps r2->Xk kx off (p1++ps) (r1++r2)
 | [],ps,off,[],r2,_,h=>h
 | [],ps,off,_::_,r2,h,_=>h.elim
 | p::p1,ps,off,[],r2,h,_=>h.elim
 | p::p1,ps,off,r::r1,r2,h,h2=>by
  obtain⟨a,b,c,d,e⟩:=h;rw[List.flatten_cons,length_append,b,<-Nat.add_assoc]at h2;exact⟨a,b,c,d,Xk.join e h2⟩
theorem Xk.len:∀{ps:List (Nat×Nat)} {off:Nat} {rs:List (List Keyed)},Xk kx off ps rs->ps.length<=rs.flatten.length
 | [],_,_,_=>Nat.zero_le _
 | p::ps,off,[],h=>h.elim
 | p::ps,off,r::rs,h=>by
  obtain⟨a,b,c,d,e⟩:=h;have:=Xk.len e;rw[List.flatten_cons,length_append,length_cons];exact(Ns1 0x30583815803101210e00908049) b c this
abbrev pr2(t:Nat×Nat×Nat):Nat×Nat:=(t.1,t.2.1)
structure RS(kx:Keyed->Int)(κ:SortKind)(a0:List Keyed)(rest:List Keyed)(lo:Nat)(st:SortSt):Prop where
 kind:kindOf st=κ
 failed:failedOf st=none
 perm:(arrOf st).toList.Perm a0
 tile:∃rs,(arrOf st).toList=rs.flatten++rest/\rs.flatten.length=lo/\Xk kx 0 ((pendingOf st).toList.map pr2) rs
variable {a0 rest:List Keyed} {lo:Nat} {st:SortSt}
theorem Z75{α:Type}{l:List α}{i:Nat}(h:i+1<l.length):∃l1 x y l2,l=l1++x::y::l2/\l1.length=i:=by
 refine⟨l.take i,l[i],l[i+1],l.drop (i+2),?_,by simp;exact Y36 h⟩;have e1:l.drop i=l[i]::l.drop (i+1):=List.drop_eq_getElem_cons (by exact Y37 h);have e2:l.drop (i+1)=l[i+1]::l.drop (i+2):=List.drop_eq_getElem_cons h;rw[<-e2,<-e1,List.take_append_drop]
theorem Z76{p:Prop}[Decidable p]{a b n:Nat}(h1:a<=n)(h2:b<=n):(if p then a else b)<=n:=by split<;>assumption
theorem Z2s{α β:Type}(g:α->β)(f:α->α)(hf:∀x,g (f x)=g x):∀(l:List α) (i:Nat),(l.modify i f).map g=l.map g
 | [],i=>by simp
 | x::l,0=>by simp[hf]
 | x::l,i+1=>by simp[Z2s g f hf l i]
theorem RS.power(h:RS kx κ a0 rest lo st){k:Nat}{f:Nat×Nat×Nat->Nat×Nat×Nat}(hf:∀t,pr2 (f t)=pr2 t):RS kx κ a0 rest lo (setPending st ((pendingOf st).modify k f)):=by
 obtain⟨k1,k2,k3,rs,e1,e2,T⟩:=h;refine⟨k1,k2,k3,rs,e1,e2,?_⟩;show Xk kx 0 (((pendingOf st).modify k f).toList.map pr2) rs;rw[Array.toList_modify,Z2s pr2 f hf];exact T
theorem Z1E{i:Nat}{Q:Bool->SortSt->Prop}(c:Ask (model prog w) A E s κ G kx)(hG:∀x∈a0,G x)(h:RS kx κ a0 rest lo st)(hi:i+1<(pendingOf st).size)(hQ:∀st',RS kx κ a0 rest lo st'->(pendingOf st').size+1=(pendingOf st).size->Q true st'):wpS (model prog w) A E s (mergeAt' i) Q st:=by
 revert prog w A E s κ G kx a0 rest lo st i Q;k_extra "v";intro prog w A E s κ G kx a0 rest lo st i Q c hG h hi hQ
 obtain⟨k1,k2,k3,rs,e1,e2,T⟩:=h;obtain⟨p1,⟨sa,na,pw⟩,⟨sb,nb,q⟩,p2,ep,lp⟩:=Z75 (l:=(pendingOf st).toList) (i:=i) (by simpa using hi);rw[ep,map_append,map_cons,map_cons]at T;obtain⟨r1,r2,rfl,lr,T1,T2⟩:=Xk.split T;rw[Nat.zero_add]at T2
 match r2,T2 with
 | [],T2=>exact T2.elim
 | [_],T2=>exact T2.2.2.2.2.elim
 | L::R::r2,T2=>
  obtain⟨b1,b2,b3,b4,c1,c2,c3,c4,c5⟩:=T2;dsimp only[pr2]at b1 b2 b3 c1 c2 c3 c5;subst b1;have ea:(arrOf st).toList=r1.flatten++(L++(R++(r2.flatten++rest))):=by rw[e1];simp
  have g1:(pendingOf st)[i]?=some (r1.flatten.length,na,pw):=by
   rw[<-Array.getElem?_toList,ep,List.getElem?_append_right (by exact Y2s lp),lp,Nat.sub_self];rfl
  have g2:(pendingOf st)[i+1]?=some (r1.flatten.length+na,nb,q):=by
   rw[<-Array.getElem?_toList,ep,List.getElem?_append_right (by exact Y38 lp),lp,show i+1-i=1 by exact(Np 0x1c003805ae2),c1];rfl
  refine Z4D c k1 k2 g1 g2 ea rfl b2 c2 b3 c3 b4 c4 (fun x hx=>hG x (k3.mem_iff.mp hx)) fun st' N hF n1 n2 n3 n4=>?_;have lN:N.length=na+nb:=by rw[hF.1.length_eq];simp;exact(Ns1 0xc36102c21884908049) b2 c2
  have hp':(pendingOf st').toList=p1++(r1.flatten.length,na+nb,pw)::p2:=by
   rw[n4,Array.toList_eraseIdxIfInBounds,Array.toList_setIfInBounds,ep,List.set_append_right _ _ (by exact Y2s lp),lp,Nat.sub_self,List.set_cons_zero,<-lp,List.eraseIdx_append_of_length_le (by exact Y3b)];simp
  refine hQ st' ⟨n1,n2,?_,r1++N::r2,?_,?_,?_⟩ ?_
  ·rw[n3];refine List.Perm.trans ?_ k3;rw[ea];refine List.Perm.append_left _ ?_;rw[<-append_assoc L R];exact List.Perm.append_right _ hF.1
  ·rw[n3];simp
  ·rw[<-e2,List.flatten_append,List.flatten_append,List.flatten_cons,List.flatten_cons,List.flatten_cons];simp only[length_append];exact Y3c b2 c2 lN
  ·rw[hp',map_append,map_cons];refine Xk.join T1 ?_;rw[Nat.zero_add];refine⟨rfl,lN,(show 1<=na+nb by exact(Nq 0x360e0000e009) c3),hF.2,?_⟩;dsimp only[pr2];rw[<-Nat.add_assoc];exact c5
  ·rw[<-Array.length_toList,<-Array.length_toList,hp',ep];simp;exact(Nq 0x701c06d6058380e03605ac2)
noncomputable def Z4f(N pw:Nat):StateT SortSt Sem (Option Unit×Unit):=
 forIn [0:N] ((none,()):Option Unit×Unit) fun z z=>do
  let s <-get
  match (if (pendingOf s).size>1 then(pendingOf s)[(pendingOf s).size-2]? else none) with
  | some (_,_,older)=>if older<=pw then pure (ForInStep.done (none,())) else do
    let b <-mergeAt' ((pendingOf s).size-2)
    if (!b)=true then pure (ForInStep.done (some (),())) else pure (ForInStep.yield (none,()))
  | _=>pure (ForInStep.done (none,()))
noncomputable def Z3z(lo n:Nat):StateT SortSt Sem (ForInStep (Option Unit×Nat)):=do
 modify fun s=>setPending s ((pendingOf s).push (lo,n,0))
 pure (ForInStep.yield (none,lo+n))
noncomputable def Z2t(N lo n:Nat):StateT SortSt Sem (ForInStep (Option Unit×Nat)):=do
 let s <-get
 match (pendingOf s).back? with
 | some (s1,n1,_)=>do
  let r <-Z4f N (power' N (2*s1+n1) (2*s1+n1+n1+n) N)
  match r.1 with
  | some r=>pure (ForInStep.done (some r,lo))
  | none=>do
   modify fun s=>setPending s ((pendingOf s).modify ((pendingOf s).size-1) fun x=>(x.1,x.2.1,power' N (2*s1+n1) (2*s1+n1+n1+n) N))
   Z3z lo n
 | _=>Z3z lo n
noncomputable def Z5g(N mr:Nat)(c:Option Unit×Nat):StateT SortSt Sem (ForInStep (Option Unit×Nat)):=
 if c.2>=N then pure (ForInStep.done (none,c.2)) else countRun' c.2 (N-c.2)>>=fun r=>match r with
  | some found=>if found<mr then(do
    liftM (rule "list.sort.binary-insertion")
    let b <-binarySort' c.2 (min (N-c.2) mr) found
    if (!b)=true then pure (ForInStep.done (some (),c.2)) else Z2t N c.2 (min (N-c.2) mr))
   else Z2t N c.2 found
  | _=>pure (ForInStep.done (some (),c.2))
noncomputable def srAt(p:Array (Nat×Nat×Nat)):Nat:=if ((if p.size-2>0 then p[p.size-2-1]?.map (fun x=>x.2.1) else none).any (·<(p[p.size-2+1]?.elim 0 (fun x=>x.2.1))))=true then p.size-2-1 else p.size-2
noncomputable def Z5h(N:Nat):StateT SortSt Sem (Option Unit×Unit):=
 forIn [0:N] ((none,()):Option Unit×Unit) fun z z=>do
  let s <-get
  if (pendingOf s).size<=1 then pure (ForInStep.done (none,())) else do
   let b <-mergeAt' (srAt (pendingOf s))
   if (!b)=true then pure (ForInStep.done (some (),())) else pure (ForInStep.yield (none,()))
theorem Z2O:sortRuns'=(do
 let s <-get
 let r <-forIn [0:(arrOf s).size] ((none,0):Option Unit×Nat) fun z c=>Z5g (arrOf s).size (minRun' (arrOf s).size (arrOf s).size 0) c
 match r.1 with
 | some r=>pure r
 | none=>do
  let q <-Z5h (arrOf s).size
  match q.1 with
  | some r=>pure r
  | none=>pure ()):=by kernel_rfl
theorem Z4E(c:Ask (model prog w) A E s κ G kx){N pw:Nat}{Q:Option Unit×Unit->SortSt->Prop}(hG:∀x∈a0,G x)(R:RS kx κ a0 rest lo st)(h:∀st',RS kx κ a0 rest lo st'->Q (none,()) st'):wpS (model prog w) A E s (Z4f N pw) Q st:=by
 refine wpS_mono (wpS_forRange (I:=fun v r st'=>r=(none,())/\RS kx κ a0 rest lo st') (Q:=fun r st'=>r=(none,())/\RS kx κ a0 rest lo st') ?_ (fun v v z=>z) ⟨rfl,R⟩) fun r st' z=>z.1▸h st' z.2;rintro y r st4 - hy ⟨rfl,R4⟩;refine wpS_bind (wpS_get ?_)
 by_cases hs:(pendingOf st4).size>1
 ·obtain⟨u,eu⟩:∃u,(pendingOf st4)[(pendingOf st4).size - 2]?=some u:=⟨_,Array.getElem?_eq_getElem (by exact(Np 0x5805c200e029) hs)⟩;rw[if_pos hs,eu];refine Z3 (fun v=>wpS_pure ⟨rfl,R4⟩) fun v=>wpS_bind (Z1E c hG R4 (by exact(Np 0x1c0b00bd8200e029) hs) fun st5 R5 v=>wpS_pure ⟨rfl,R5⟩)
 ·rw[if_neg hs];exact wpS_pure ⟨rfl,R4⟩
theorem RS.push{n:Nat}{run rest':List Keyed}(h:RS kx κ a0 (run++rest') lo st)(hl:run.length=n)(h1:1<=n)(hs:Xd kx run):RS kx κ a0 rest' (lo+n) (setPending st ((pendingOf st).push (lo,n,0))):=by
 obtain⟨rs,e1,e2,T⟩:=h.tile;refine⟨h.kind,h.failed,h.perm,rs++[run],?_,?_,?_⟩
 ·show(arrOf st).toList=_;rw[e1,List.flatten_append,append_assoc,List.flatten_cons,List.flatten_nil,append_nil]
 ·rw[List.flatten_append,length_append,e2,List.flatten_cons,List.flatten_nil,append_nil,hl]
 ·show Xk kx 0 (((pendingOf st).push (lo,n,0)).toList.map pr2) _;rw[Array.toList_push,map_append];refine Xk.join T ?_;rw[Nat.zero_add,e2];exact⟨rfl,hl,h1,hs,trivial⟩
theorem Z5i(c:Ask (model prog w) A E s κ G kx){N n:Nat}{run rest':List Keyed}{Q:ForInStep (Option Unit×Nat)->SortSt->Prop}(hG:∀x∈a0,G x)(R:RS kx κ a0 (run++rest') lo st)(hl:run.length=n)(h1:1<=n)(hs:Xd kx run)(h:∀st',RS kx κ a0 rest' (lo+n) st'->Q (.yield (none,lo+n)) st'):wpS (model prog w) A E s (Z2t N lo n) Q st:=by
 have push:∀st,RS kx κ a0 (run++rest') lo st->wpS (model prog w) A E s (Z3z lo n) Q st:=fun st R=>wpS_bind (wpS_modify (wpS_pure (h _ (R.push hl h1 hs))));refine wpS_bind (wpS_get ?_)
 cases (pendingOf st).back? with
 | none=>exact push st R
 | some t=>exact wpS_bind (Z4E c hG R fun st' R'=>wpS_bind (wpS_modify (push _ (R'.power fun z=>rfl))))
theorem RS.cut{N n:Nat}{st3:SortSt}(R:RS kx κ a0 rest lo st)(sz:(arrOf st).size=N)(B3:SB st lo st3)(n2:lo+n<=N)(S3:Xm kx (arrOf st3) lo n):∃run rest',run.length=n/\Xd kx run/\lo+n+rest'.length=N/\RS kx κ a0 (run++rest') lo st3:=by
 revert κ kx a0 rest lo st N n st3;k_extra "F";intro κ kx a0 rest lo st N n st3 R sz B3 n2 S3
 obtain⟨rs,e1,e2,T⟩:=R.tile;have sz3:(arrOf st3).toList.length=N:=by rw[Array.length_toList,B3.size,sz]
 have tk:(arrOf st3).toList.take lo=rs.flatten:=by
  have:(arrOf st).toList.take lo=rs.flatten:=by rw[e1,<-e2,List.take_append_of_le_length (Nat.le_refl _),List.take_length]
  rw[<-this];refine List.ext_getElem? fun i=>?_
  by_cases hi:i<lo
  ·rw[List.getElem?_take_of_lt hi,List.getElem?_take_of_lt hi,Array.getElem?_toList,Array.getElem?_toList];exact B3.keep i hi
  ·rw[List.getElem?_eq_none (by simp;exact Y3i hi),List.getElem?_eq_none (by simp;exact Y3i hi)]
 refine⟨((arrOf st3).toList.drop lo).take n,((arrOf st3).toList.drop lo).drop n,by rw[List.length_take,List.length_drop];exact Y3j n2 sz3,?_,by rw[List.length_drop,List.length_drop];exact(Ns1 0x208077b8416b08431244105809) n2 sz3,⟨B3.kind.trans R.kind,B3.failed.trans R.failed,B3.perm.trans R.perm,rs,?_,e2,by rw[B3.pend];exact T⟩⟩
 ·unfold Xd;rw[List.pairwise_iff_getElem];intro i j hi hj hij;have hj':j<n:=by rw[List.length_take]at hj;exact Y3l hj
  have:=S3 (lo+i) (lo+j) (by exact Y17) (by exact(Nr 0x45600ac008029) hij) (by exact Y11 hj');have g:∀k (hk:k<(((arrOf st3).toList.drop lo).take n).length),ka kx (arrOf st3) (lo+k)=kx (((arrOf st3).toList.drop lo).take n)[k]:=fun k hk=>by
   have hk':k<n:=by rw[List.length_take]at hk;exact Y3l hk
   have e:=Z1g (arrOf st3) lo n k hk';rw[List.getElem?_eq_getElem hk]at e;unfold ka;rw[<-e];rfl
  rw[g i hi,g j hj]at this;exact this
 ·rw[List.take_append_drop,<-tk,List.take_append_drop]
noncomputable def SrI(kx:Keyed->Int)(κ:SortKind)(a0:List Keyed)(N x:Nat)(r:Option Unit×Nat)(st':SortSt):Prop:=∃lo rest,r=(none,lo)/\x<=lo/\lo<=N/\lo+rest.length=N/\RS kx κ a0 rest lo st'
theorem Z5j{N mr x:Nat}{r:Option Unit×Nat}{Q:ForInStep (Option Unit×Nat)->SortSt->Prop}(c:Ask (model prog w) A E s κ G kx)(hG:∀x∈a0,G x)(ha:a0.length=N)(I:SrI kx κ a0 N x r st)(hd:∀st',RS kx κ a0 [] N st'->Q (.done (none,N)) st')(hy:∀r' st',SrI kx κ a0 N (x+1) r' st'->Q (.yield r') st'):wpS (model prog w) A E s (Z5g N mr r) Q st:=by
 revert prog w A E s κ G kx a0 st N mr x r Q;k_extra "l";intro prog w A E s κ G kx a0 st N mr x r Q c hG ha I hd hy
 obtain⟨lo,rest,rfl,q1,q2,q3,R⟩:=I;refine Z3 (fun hge=>?_) fun hge=>?_
 ·obtain rfl:rest=[]:=List.length_eq_zero_iff.mp (by exact(Nr 0x18088020244105849) q3 hge);obtain rfl:lo=N:=by exact YO q2 hge
  exact wpS_pure (hd _ R)
 have sz1:(arrOf st).size=N:=by
  have:=R.perm.length_eq;rw[ha]at this;simpa using this
 have hG1:∀x∈(arrOf st).toList,G x:=fun x hx=>hG x (R.perm.mem_iff.mp hx);have tail:∀(n:Nat) (st3:SortSt),SB st lo st3->1<=n->lo+n<=N->Xm kx (arrOf st3) lo n->wpS (model prog w) A E s (Z2t N lo n) Q st3:=fun n st3 B3 n1 n2 S3=>by
  obtain⟨run,rest',l1,s1,l2,R3⟩:=R.cut sz1 B3 n2 S3;exact Z5i c hG R3 l1 n1 s1 fun st' R'=>hy _ _ ⟨lo+n,rest',rfl,by exact(Nr 0x20d838058020e00908009) q1 n1,n2,by exact(Ns1 0xc4105ac218820b5849) l2,R'⟩
 refine wpS_bind (Z5f c (st0:=st) (lo:=lo) SB.refl R.kind hG1 (by exact(Nr 0x100370580110920080c9) hge sz1) (by exact(Nq 0x370e000080c9) hge) fun m st2 B2 m1 m2 S2=>Z3 (fun hm=>?_) fun hm=>tail m st2 B2 m1 (by exact(Nr 0x805600837001200e009) m1 m2) S2);refine wpS_bind (wpS_lift (wpAny_rule ⟨rfl,wpS_bind (Z6G c B2 R.kind hG1 (by exact Y3p sz1 m1 m2) m1 (by exact Y3q m2 hm) S2 fun st3 B3 S3=>?_)⟩));have n1:1<=min (N-lo) mr:=by exact Y3r m1 m2 hm
 exact tail (min (N-lo) mr) st3 B3 n1 (by exact Y3s n1) S3
theorem Z6H{p:Array (Nat×Nat×Nat)}(q:¬p.size<=1):srAt p+1<p.size:=Nat.lt_of_le_of_lt (Nat.succ_le_succ (Z76 (n:=p.size-2) (by exact(Np 0x160170e05805ee0)) (by exact(Np 0x2c02e2c02e0)))) (by exact Y3A q)
theorem Z5k(c:Ask (model prog w) A E s κ G kx){N:Nat}{Q:Option Unit×Unit->SortSt->Prop}(hG:∀x∈a0,G x)(R:RS kx κ a0 [] N st)(h:∀st',RS kx κ a0 [] N st'->(pendingOf st').size<=1->Q (none,()) st'):wpS (model prog w) A E s (Z5h N) Q st:=by
 refine wpS_mono (wpS_forRange (I:=fun x r st'=>r=(none,())/\RS kx κ a0 [] N st'/\(pendingOf st').size<=max 1 (N-x)) (Q:=fun r st'=>r=(none,())/\RS kx κ a0 [] N st'/\(pendingOf st').size<=1) ?_ ?_ ⟨rfl,R,?_⟩) fun r st' z=>z.1▸h st' z.2.1 z.2.2
 ·rintro x r st1 - hx ⟨rfl,R1,hl⟩;exact wpS_bind (wpS_get (Z3 (fun q=>wpS_pure ⟨rfl,R1,q⟩) fun q=>wpS_bind (Z1E c hG R1 (Z6H q) fun st2 R2 hl2=>wpS_pure ⟨rfl,R2,by exact Y3B hl hl2⟩)))
 ·rintro r st1 ⟨rfl,R1,hl⟩;exact⟨rfl,R1,by exact Y3C hl⟩
 ·obtain⟨rs,e1,e2,T⟩:=R.tile;have:=T.len;simp at this;rw[List.length_flatten]at e2;exact Y3D e2 this
theorem Xk.one:∀{ps:List (Nat×Nat)} {rs:List (List Keyed)},Xk kx 0 ps rs->ps.length<=1->Xd kx rs.flatten
 | [],[],_,_=>List.Pairwise.nil
 | [p],[r],T,_=>by rw[List.flatten_cons];simpa using T.2.2.2.1
 | [p],r::r2::rs,T,_=>T.2.2.2.2.elim
 | [],_::_,T,_=>T.elim
 | [p],[],T,_=>T.elim
 | p::q::ps,_,_,h=>absurd (Nat.le_of_succ_le_succ h) (Nat.not_succ_le_zero _)
theorem Z4F(c:Ask (model prog w) A E s κ G kx){st:SortSt}{Q:Unit->SortSt->Prop}(hk:kindOf st=κ)(hf:failedOf st=none)(hp:pendingOf st=#[])(hG:∀x∈(arrOf st).toList,G x)(h2:2<=(arrOf st).size)(h:∀st',(arrOf st').toList.Perm (arrOf st).toList->failedOf st'=none->Xd kx (arrOf st').toList->Q () st'):wpS (model prog w) A E s sortRuns' Q st:=by
 rw[Z2O];refine wpS_bind (wpS_get (wpS_bind (wpS_mono (wpS_forRange (I:=SrI kx κ (arrOf st).toList (arrOf st).size) (Q:=fun r st'=>r=(none,(arrOf st).size)/\RS kx κ (arrOf st).toList [] (arrOf st).size st') ?_ ?_ ⟨0,(arrOf st).toList,rfl,Nat.le_refl _,Nat.zero_le _,by rw[Nat.zero_add];rfl,⟨hk,hf,.refl _,[],rfl,rfl,by rw[hp];trivial⟩⟩) ?_)))
 ·intro x r st1 _ hx I;exact Z5j c hG rfl I (fun st' R=>⟨rfl,R⟩) fun r' st' I=>I
 ·rintro r st' ⟨lo,rest,rfl,q1,q2,q3,R⟩;obtain rfl:rest=[]:=List.length_eq_zero_iff.mp (by exact Y3w q1 q3);obtain rfl:lo=(arrOf st).size:=by exact Y3x q1 q3
  exact⟨rfl,R⟩
 ·rintro r st' ⟨rfl,R⟩;refine wpS_bind (Z5k c hG R fun st1 R1 hl=>wpS_pure (h st1 R1.perm R1.failed ?_));obtain⟨rs,e1,e2,T⟩:=R1.tile;rw[e1,append_nil];exact T.one (by rw[length_map];exact hl)
end
open PySem.W PySem.SeqAt
section
variable {prog:Program} {w:World} {A:Around} {E:pS} {s:Shared}
theorem Z3A:∀vs:List Value,List.zip vs.toArray.toList vs.toArray.toList=vs.map fun v=>(v,v)
 | []=>rfl
 | v::vs=>by
  have:=Z3A vs;simp only[List.toList_toArray]at this ⊢;rw[List.zip_cons_cons,map_cons,this]
theorem Z2u{α:Type}[BEq α][LawfulBEq α](f:α->Bool)(p:α)(hf:f p=true):∀{ps:List α},p∈ps->(ps.countP fun r=>f r&&!(r==p))<ps.countP f
 | r::ps,hp=>by
  rw[List.countP_cons,List.countP_cons];have mono:(ps.countP fun r=>f r&&!(r==p))<=ps.countP f:=List.countP_mono_left fun r u z=>(Bool.and_eq_true_iff.mp z).1
  by_cases e:r=p
  ·subst e;simp[hf];exact(Nq 0x380d80108009) mono
  ·have hp':p∈ps:=by
    rcases List.mem_cons.mp hp with z|z
    ·exact absurd z.symm e
    ·exact z
   have:=Z2u f p hf hp';have e2:(r==p)=false:=by simpa using e
   rw[e2];simp only[Bool.not_false,Bool.and_true];exact(Nr 0x836102c108029) this
theorem Z77{κ:SortKind}{Gv:Value->Prop}{kv:Value->Int}(h:∀(x y:Value) (C:Bool->Shared->Prop),Gv x->Gv y->C (decide (kv x<kv y)) s->wpAny (model prog w) A (keyLt' κ x y) C (fun u u=>False) s) :
  Ask (model prog w) A E s κ (fun x=>Gv x.1/\x.1=x.2) (fun x=>kv x.1):=by
 refine⟨fun x y st Q hx hy hk hq=>?_⟩;rw[lt'_eq];refine wpS_bind (wpS_get ?_);rw[hk];refine wpS_bind (wpS_lift (wpAny_attempt (wM (h x.1 y.1 (fun b s'=>s'=s/\b=decide (kv x.1<kv y.1)) hx.1 hy.1 ⟨rfl,rfl⟩) ?_ fun u u z=>z.elim)));rintro b s' ⟨rfl,rfl⟩;exact⟨rfl,wpS_pure hq⟩
theorem Z4G{a:Addr}{vs:List Value}{n:Nat}{kv:Value->Int}{Gv:Value->Prop}{P:PySem.Fin->Shared->Prop}(ho:s.heap.get? a=some (seqObj "list" vs.toArray n))(hz:vs.length<=100000)(hGv:∀v∈vs,Gv v)(hk:∀h':Heap,2<=vs.length->(∀b o,b≠a->s.heap.get? b=some o->h'.get? b=some o)->∃κ,(∀Q:SortKind->Shared->Prop,Q κ { s with heap:=h' }->wpAny (model prog w) A (keyKind' vs.toArray) Q E { s with heap:=h' })/\
   ∀(x y:Value) (C:Bool->Shared->Prop),Gv x->Gv y->C (decide (kv x<kv y)) { s with heap:=h' }->wpAny (model prog w) A (keyLt' κ x y) C (fun u u=>False) { s with heap:=h' })(h:∀(h':Heap) (out:List Value),(∀b o,b≠a->s.heap.get? b=some o->h'.get? b=some o)->h'.PlainList a out.toArray->out.Perm vs->out.Pairwise (fun x y=>kv x<=kv y)->P (.done (.ret .none)) { s with heap:=h' }) :
  wpAny (model prog w) A (Builtin.«list.sort» ⟨[.ref a],[]⟩) P E s:=by
 revert prog w A E s a vs n kv Gv P;k_extra "q";intro prog w A E s a vs n kv Gv P ho hz hGv hk h
 rw[list_sort_plain];refine wB (listItems_at ho rfl ?_);refine wB (listUpdate_at ho rfl ?_ (by rw[List.size_toArray,sizeLine_eq];exact Y3G hz) (Nat.zero_le _));obtain⟨e1,ho1⟩:∃e1,(s.heap.update a (Obj.mapSeq fun u=>(#[]:Array Value))).get? a=some (seqObj "list" #[] e1):=⟨_,get?_update_seq ho fun u=>#[]⟩;refine wB (seqEpoch_at ho1 rfl ?_);refine wB (wpAny_newTuple ?_ (by show vs.length<=_;rw[sizeLine_eq];exact Y3G hz));refine wB (wpAny_newList ?_ (Nat.zero_le _));refine wpAny_holding ?_;generalize hH:((s.heap.update a (Obj.mapSeq fun u=>(#[]:Array Value))).push (seqObj "tuple" vs.toArray 0)).push (seqObj "list" #[] 0)=H;have hHa:H.get? a=some (seqObj "list" #[] e1):=by rw[<-hH];exact Heap.get?_push_of_some _ (Heap.get?_push_of_some _ ho1)
 have hHk:∀b o,b≠a->s.heap.get? b=some o->H.get? b=some o:=fun b o q e=>by
  rw[<-hH];exact Heap.get?_push_of_some _ (Heap.get?_push_of_some _ ((Heap.get?_update_other _ _ (Ne.symm q)).trans e))
 show wpAny (model prog w) A _ P E { s with heap:=H };dsimp only;have fin:∀(out:List Value) (out':Array Value),out'=out.toArray->out.Perm vs->out.Pairwise (fun x y=>kv x<=kv y)->P (.done (.ret .none)) { s with heap:=H.update a (Obj.mapSeq fun u=>out') }:=fun out out' e hp hs=>by
  subst e;refine h _ out (fun b o q e=>(Heap.get?_update_other _ _ (Ne.symm q)).trans (hHk b o q e)) ⟨_,get?_update_seq hHa fun u=>_⟩ hp hs
 have hzip:(vs.toArray.zip vs.toArray).toList=vs.map fun v=>(v,v):=by
  rw[Array.toList_zip];exact Z3A vs
 by_cases h2:vs.toArray.size<2
 ·rw[if_pos h2,if_pos h2];rw[List.size_toArray]at h2;refine wB (wP ?_);rw[StateT.run_pure];refine wB (wP ?_);dsimp only;refine wB (seqEpoch_at hHa rfl ?_);have e:(arrOf (SortSt.mk' general' (vs.toArray.zip vs.toArray) #[] 7 none)).map (fun x=>x.2)=vs.toArray:=by
   show(vs.toArray.zip vs.toArray).map (fun x=>x.2)=vs.toArray;apply Array.toList_inj.mp;simp[List.map_snd_zip]
  refine wB (listUpdate_at hHa rfl ?_ (Nat.zero_le _) (by rw[e,List.size_toArray,sizeLine_eq];exact(Np 0x7000020000019b0002c0029) h2));simp only[bne_self_eq_false,Bool.false_eq_true,if_false];refine wP (fin vs _ e (List.Perm.refl _) ?_)
  match vs,h2 with
  | [],_=>exact .nil
  | [v],_=>exact .cons (fun u q=>(nomatch q)) .nil
  | _::_::_,h2=>simp at h2;exact Y3I h2
 ·rw[if_neg h2,if_neg h2];rw[List.size_toArray]at h2;obtain⟨κ,k1,k2⟩:=hk H (by exact Y3J h2) hHk;refine wB (k1 _ ?_);have run:=Z4F (E:=E) (Z77 (s:={ s with heap:=H }) k2) (st:=SortSt.mk' κ (vs.toArray.zip vs.toArray) #[] 7 none) (Q:=fun u st'=>(arrOf st').toList.Perm (vs.map fun v=>(v,v))/\failedOf st'=none/\Xd (fun x=>kv x.1) (arrOf st').toList) rfl rfl rfl
   (fun x hx=>by
    have hx':x∈vs.map fun v=>(v,v):=by rw[<-hzip];exact hx
    obtain⟨v,hv,rfl⟩:=List.mem_map.mp hx';exact⟨hGv v hv,rfl⟩)
   (by show 2<=(vs.toArray.zip vs.toArray).size;simp;exact Y3J h2) (fun st' a1 a2 a3=>⟨by rw[<-hzip];exact a1,a2,a3⟩)
  refine wB (wM run ?_ fun u u e=>e);rintro⟨⟨⟩,st'⟩ s' ⟨rfl,hp,hf,hs⟩;dsimp only at hp hf hs ⊢;have same:∀x∈(arrOf st').toList,x.1=x.2:=fun x hx=>by
   obtain⟨v,_,rfl⟩:=List.mem_map.mp (hp.mem_iff.mp hx);rfl
  have p2:((arrOf st').toList.map (fun x=>x.2)).Perm vs:=by
   have:=hp.map (fun x=>x.2);rw[map_map]at this;have e:(((fun x:Value×Value=>x.2)∘fun v=>(v,v)):Value->Value)=id:=rfl;rw[e,map_id]at this;exact this
  have s2:((arrOf st').toList.map (fun x=>x.2)).Pairwise (fun x y=>kv x<=kv y):=by
   rw[List.pairwise_map];exact hs.imp_of_mem fun{x y} hx hy z=>by rw[<-same x hx,<-same y hy];exact z
  have eo:(arrOf st').map (fun x=>x.2)=((arrOf st').toList.map (fun x=>x.2)).toArray:=by
   apply Array.toList_inj.mp;simp
  rw[eo];refine wB (seqEpoch_at hHa rfl ?_);refine wB (listUpdate_at hHa rfl ?_ (Nat.zero_le _) (by have:=p2.length_eq;rw[List.size_toArray,this,sizeLine_eq];exact(Np 0x380001000000cd80000000186a0c8009) hz));rw[hf];simp only[bne_self_eq_false,Bool.false_eq_true,if_false];exact wP (fin _ _ rfl p2 s2)
theorem Z17{l:Addr}{vs:List Value}{kv:Value->Int}{Gv:Value->Prop}{Q:pS}(hl:s.heap.IsList l vs.toArray)(hz:vs.length<=100000)(hGv:∀v∈vs,Gv v)(hk:∀h':Heap,2<=vs.length->(∀b o,s.heap.get? b=some o->h'.get? b=some o)->∃κ,(∀(Q:SortKind->Shared->Prop) (E:pS),Q κ { s with heap:=h' }->wpAny (model prog w) A.in1.in1 (keyKind' vs.toArray) Q E { s with heap:=h' })/\
   ∀(x y:Value) (C:Bool->Shared->Prop),Gv x->Gv y->C (decide (kv x<kv y)) { s with heap:=h' }->wpAny (model prog w) A.in1.in1 (keyLt' κ x y) C (fun z z=>False) { s with heap:=h' })(h:∀(h':Heap) (a:Addr) (out:List Value),s.heap.objs.size<=a->(∀b o,s.heap.get? b=some o->h'.get? b=some o)->h'.PlainList a out.toArray->out.Perm vs->out.Pairwise (fun x y=>kv x<=kv y)->Q (.ref a) { s with heap:=h' }) :
  wpAny (model prog w) A (call (.builtin "sorted") [.ref l]) Q E s:=by
 revert prog w A E s l vs kv Gv Q;k_extra "t";intro prog w A E s l vs kv Gv Q hl hz hGv hk h
 refine Calls.call_function_entry kind_sorted plain_sorted entry_sorted (args_sorted1 _) ?_;unfold Builtin.«sorted»;refine wB (m:=checkCount "sorted" 1 1 _) (wP ?_);refine wB (collect_list hl ?_ (by rw[sizeLine_eq];exact Y3G hz));refine wB (wpAny_newList ?_ (by rw[sizeLine_eq];exact Y3G hz));have hsz:((s.heap.push (seqObj "list" #[] 0)).update s.heap.objs.size (Obj.mapSeq (·++vs.toArray))).objs.size=s.heap.objs.size+1:=by
  rw[Heap.size_update,size_push']
 generalize hH:((s.heap.push (seqObj "list" #[] 0)).update s.heap.objs.size (Obj.mapSeq (·++vs.toArray))).push (seqObj "list" vs.toArray 0)=H;have hoL:H.get? (s.heap.objs.size+1)=some (seqObj "list" vs.toArray 0):=by
  rw[<-hH,<-hsz];exact Heap.get?_push_size _ rfl
 have keep:∀b o,s.heap.get? b=some o->H.get? b=some o:=fun b o q=>by
  have hlt:b<s.heap.objs.size:=Heap.lt_size q;rw[<-hH,Heap.get?_push_ne _ _ _ (by rw[hsz];exact Nat.ne_of_lt (Nat.lt_succ_of_lt hlt)),Heap.get?_update_ne _ _ _ _ (Nat.ne_of_lt hlt),Heap.get?_push_ne _ _ _ (Nat.ne_of_lt hlt)];exact q
 have old:∀b o,s.heap.get? b=some o->b≠s.heap.objs.size+1:=fun b o e=>Nat.ne_of_lt (Nat.lt_succ_of_lt (Heap.lt_size e));show wpAny _ _ _ _ _ { s with heap:=H };rw[hsz];refine wB (wpAny_holding (wpAny_call_entry slot_list_sort ⟨_,hoL,rfl⟩ entry_list_sort (Z4G (s:={ s with heap:=H }) (kv:=kv) hoL hz hGv (fun h' h2 kp=>?_) fun h' out kp pl hp hs=>⟨_,rfl,?_⟩) (args_list_sort _)))
 ·obtain⟨κ,k1,k2⟩:=hk h' h2 fun b o e=>kp b o (old b o e) (keep b o e);exact⟨κ,fun Q q=>k1 Q _ q,k2⟩
 ·exact wP ⟨_,rfl,h h' _ out (Nat.le_succ _) (fun b o e=>kp b o (old b o e) (keep b o e)) pl hp hs⟩
end
noncomputable def Z1S(ps:List (Int×Int))(p:Int×Int):Int:=((ps.countP fun q=>lexlt q p:Nat):Int)
theorem Z1T{ps:List (Int×Int)}{p q:Int×Int}(hp:p∈ps)(hq:q∈ps):decide (Z1S ps p<Z1S ps q)=lexlt p q:=by
 have tr:∀a b c,lexlt a b=true->lexlt b c=true->lexlt a c=true:=fun a b c h1 h2=>by
  rw[lexlt_iff]at *;exact Y3L h1 h2
 have tr2:∀a b c,lexlt a b=true->lexlt c b=false->lexlt a c=true:=fun a b c h1 h2=>by
  rw[lexlt_iff]at *;rw[lexlt_false]at h2;exact Y3M h1 h2
 cases h:lexlt p q with
 | true=>
  rw[decide_eq_true_eq];unfold Z1S;have hle:ps.countP (fun r=>lexlt r p)<=ps.countP fun r=>lexlt r q&&!(r==p):=by
   refine List.countP_mono_left fun r hr z=>?_;have:lexlt p p=false:=by rw[lexlt_false];exact Y3N
   have hne:r≠p:=fun e=>by rw[e,this]at z;cases z
   simp[tr r p q z h,hne]
  have hlt:=Z2u (fun r=>lexlt r q) p h hp;exact(Nr 0x2e03841042908009) hle hlt
 | false=>
  rw[decide_eq_false_iff_not];unfold Z1S;have:(ps.countP fun r=>lexlt r q)<=ps.countP fun r=>lexlt r p:=List.countP_mono_left fun r u z=>tr2 r q p z h;exact(Nq 0x1c0f08608009) this
open Classical in
noncomputable def Zq(h:Heap)(v:Value):Int×Int:=if q:∃p,VR h v (pv p) then Classical.choose q else(0,0)
theorem PairAt.unique:∀{h:Heap}{v:Value}{p q:Int×Int}(r1:VR h v (pv p))(r2:VR h v (pv q)),p=q:=by
 k_extra "J";intro h v p q r1 r2;obtain⟨a,t,u,n,rfl,e⟩:=r1.pv_at;obtain⟨a',t',u',n',e0,e'⟩:=r2.pv_at
 cases e0
 rw[e]at e';have e2:=congrArg Obj.data (Option.some.inj e');simp only[Data.seq.injEq,Array.mk.injEq,List.cons.injEq,Value.int.injEq]at e2;exact Prod.ext e2.1.1.1 e2.1.2.1.1
theorem Z5l{h:Heap}{v:Value}{p:Int×Int}(r:VR h v (pv p)):Zq h v=p:=by
 have q:∃p,VR h v (pv p):=⟨p,r⟩;unfold Zq;rw[dif_pos q];exact PairAt.unique (Classical.choose_spec q) r
theorem VRs.pairs{h:Heap}:∀{ps:List (Int×Int)} {vs:List Value},VRs h vs (ps.map pv)->vs.map (Zq h)=ps/\∀v∈vs,VR h v (pv (Zq h v))
 | [],vs,r=>by obtain rfl:=r.nilI;exact⟨rfl,fun w z=>by cases z⟩
 | p::ps,vs,r=>by
  obtain⟨v,vs,rfl,r1,r2⟩:=r.consI;obtain⟨e,f⟩:=VRs.pairs r2;have e1:=Z5l r1;refine⟨by rw[map_cons,e1,e],fun u hu=>?_⟩;rcases List.mem_cons.mp hu with rfl|hu
  ·rw[e1];exact r1
  ·exact f u hu
theorem VRs.of_all{h:Heap}{f:Value->V}:∀{vs:List Value},(∀v∈vs,VR h v (f v))->VRs h vs (vs.map f)
 | [],_=>.nil
 | v::vs,r=>.cons (r v (.head _)) (VRs.of_all fun u hu=>r u (.tail _ hu))
section
variable {C:Cx} {A:Around} {σ:X0} {X:XP} {s:Shared}
theorem X1.sortedPairs2{l:Addr}{ps:List (Int×Int)}{Q:pV}(hl:X8 C σ l (ps.map pv))(hz:ps.length<=100000)(h:∀(a:Addr) (ps':List (Int×Int)),σ a=none->ps'.Perm ps->ps'.Pairwise (fun p q=>lexlt q p=false)->Q (.ref a) (σ.upd a (.list (ps'.map pv)))):X1 C A (.builtin "sorted") [.ref l] σ Q X:=by
 intro s vs S r;obtain⟨_,rfl,r1⟩:=r.one;obtain rfl:=r1.refI;obtain⟨⟨vs⟩,il,rl⟩:=hl.raw S;simp only at rl;have el:=rl.length;rw[length_map]at el;obtain⟨e1,e2⟩:=VRs.pairs rl;have mem:∀v∈vs,Zq s.heap v∈ps:=fun v hv=>by rw[<-e1];exact mem_map_of_mem hv
 refine Z17 (kv:=fun v=>Z1S ps (Zq s.heap v)) (Gv:=fun v=>v∈vs) il (by exact Y3Q hz el) (fun v hv=>hv) (fun h' h2 kp=>?_) fun h' a out ha kp pl hp hs=>?_
 ·have mv:∀v∈vs,VR h' v (pv (Zq s.heap v)):=fun v hv=>(e2 v hv).mono fun u u u e=>kp _ _ e;refine⟨tuples' true,fun Q E q=>?_,fun x y K hx hy hC=>?_⟩
  ·obtain⟨fs,k,lf,f⟩:=Z44 (rl.mono fun u u u e=>kp _ _ e);exact kat_kind (s:={ s with heap:=h' }) (T:=.type "int") k (by exact Y3R el h2 lf) (fun v hv=>by obtain⟨i,t,rfl⟩:=f v hv;exact .now) (by decide) q
  ·rw[Z1T (mem x hx) (mem y hy)]at hC;exact Z5U (s:={ s with heap:=h' }) (h:=h') (b:=true) (mv x hx).pv_at (mv y hy).pv_at hC
 ·have S':St C σ { s with heap:=h',toks:=s.toks }:=S.ext kp;have mo:∀v∈out,v∈vs:=fun v hv=>hp.mem_iff.mp hv;have rr:VRs h' out ((out.map (Zq s.heap)).map pv):=by
   rw[map_map];exact VRs.of_all fun v hv=>(e2 v (mo v hv)).mono fun u u u e=>kp _ _ e
  obtain⟨S2,e3⟩:=S'.adopt (a:=a) (o:=.list ((out.map (Zq s.heap)).map pv)) (σ0:=σ) (h0:=s.heap) ⟨_,pl,by simpa using rr⟩ (Nat.le_trans S.size ha) (.ext kp) (get?_fresh' ha);refine⟨.ref _,_,h a (out.map (Zq s.heap)) (S.fresh' ha) ?_ ?_,.ref _,S2,e3⟩
  ·have:=hp.map (Zq s.heap);rw[e1]at this;exact this
  ·rw[List.pairwise_map];refine hs.imp_of_mem fun{x y} hx hy z=>?_;rw[<-Z1T (mem y (mo y hy)) (mem x (mo x hx)),decide_eq_false_iff_not];exact Y3S z
noncomputable def numV:Value->Int
 | .int i _=>i
 | _=>0
theorem VRs.nums{h:Heap}:∀{ns:List Int} {vs:List Value},VRs h vs (ns.map V.int)->vs.map numV=ns/\∀v∈vs,∃t,v=.int (numV v) t
 | [],vs,r=>by obtain rfl:=r.nilI;exact⟨rfl,fun w z=>by cases z⟩
 | n::ns,vs,r=>by
  obtain⟨v,vs,rfl,r1,r2⟩:=r.consI;obtain⟨e,f⟩:=VRs.nums r2;obtain⟨t,rfl⟩:=r1.intI;refine⟨by rw[map_cons,e];rfl,fun u hu=>?_⟩;rcases List.mem_cons.mp hu with rfl|hu
  ·exact⟨t,rfl⟩
  ·exact f u hu
theorem X1.sortedInts2{l:Addr}{ns:List Int}{Q:pV}(hl:X8 C σ l (ns.map V.int))(hz:ns.length<=100000)(h:∀(a:Addr) (ns':List Int),σ a=none->ns'.Perm ns->ns'.Pairwise (fun p q=>p<=q)->Q (.ref a) (σ.upd a (.list (ns'.map V.int)))):X1 C A (.builtin "sorted") [.ref l] σ Q X:=by
 revert C A σ X l ns Q;k_extra "B";intro C A σ X l ns Q hl hz h
 intro s vs S r;obtain⟨_,rfl,r1⟩:=r.one;obtain rfl:=r1.refI;obtain⟨⟨vs⟩,il,rl⟩:=hl.raw S;simp only at rl;have el:=rl.length;rw[length_map]at el;obtain⟨e1,e2⟩:=VRs.nums rl;refine Z17 (kv:=numV) (Gv:=fun v=>v∈vs) il (by exact Y3Q hz el) (fun v hv=>hv) (fun h' h2 kp=>?_) fun h' a out ha kp pl hp hs=>?_
 ·refine⟨oneType',fun Q E q=>?_,fun x y K hx hy hC=>?_⟩
  ·exact kas_kind (s:={ s with heap:=h' }) (T:=.type "int") h2 (fun v hv=>by obtain⟨t,e⟩:=e2 v hv;rw[e];exact .now) (by decide) (by decide) q
  ·obtain⟨t,ex⟩:=e2 x hx;obtain⟨t',ey⟩:=e2 y hy;rw[ex,ey];rw[ex,ey]at hC;exact oneLt_int hC
 ·have S':St C σ { s with heap:=h',toks:=s.toks }:=S.ext kp;have mo:∀v∈out,v∈vs:=fun v hv=>hp.mem_iff.mp hv;have rr:VRs h' out ((out.map numV).map V.int):=by
   rw[map_map];exact VRs.of_all fun v hv=>by obtain⟨t,e⟩:=e2 v (mo v hv);rw[e];exact .int _ _
  obtain⟨S2,e3⟩:=S'.adopt (a:=a) (o:=.list ((out.map numV).map V.int)) (σ0:=σ) (h0:=s.heap) ⟨_,pl,by simpa using rr⟩ (Nat.le_trans S.size ha) (.ext kp) (get?_fresh' ha);refine⟨.ref _,_,h a (out.map numV) (S.fresh' ha) ?_ ?_,.ref _,S2,e3⟩
  ·have:=hp.map numV;rw[e1]at this;exact this
  ·rw[List.pairwise_map];exact hs
end
section
variable {X:XP} {A:Around} {env:Env} {C:Cx} {σ:X0} {ρ:Rho} {s:Shared}
theorem X1.listOfSd{d:Addr}{es:List (Str×V)}{Q:pV}(hd:σ d=some (.sd es))(hS:Zk C)(hh:A.handled=none)(hz:es.length<=sizeLine)(h:∀a,σ a=Option.none->Q (.ref a) (σ.upd a (.list (es.map fun p=>V.str p.1)))):X1 C A (.type "list") [.ref d] σ Q X:=by
 revert X A C σ d es Q;k_extra "B";intro X A C σ d es Q hd hS hh hz h
 intro s vs S r;obtain⟨_,rfl,r1⟩:=r.one;obtain rfl:=r1.refI;obtain⟨kvs,⟨o,es',ep,ho,rest⟩,pr⟩:=S.rep _ _ hd;refine kdl_call (kdl_dict (knd:=strKind C.prog C.w) (kvs:=kvs) (ep:=ep) (S.notSys hS hd)) hh ⟨o,es',ho,rest⟩ (by rw[pr.length];exact hz) fun h' tk acc c' kp e' hacc=>?_;have S':St C σ { s with heap:=h',toks:=tk }:=S.ext kp;have rl:VRs h' acc.toList (es.map fun p=>V.str p.1):=by
  refine VRs.byGet (by rw[Array.length_toList,length_map,<-pr.length];exact hacc.1) fun i v x hv hx=>?_;rw[List.getElem?_map]at hx;obtain⟨p,hp,rfl⟩:=Option.map_eq_some_iff.mp hx;obtain⟨u,hu⟩:=pr.nth hp;obtain⟨k,y,h1,h2⟩:=hacc.2 i v (by simpa using hv);rw[hu]at h1;cases h1;obtain⟨t',ey⟩:=PySem.Value.isStrOf_shape h2;subst ey;exact .str _ _
 obtain⟨S2,e2⟩:=S'.adopt (a:=s.heap.objs.size) (o:=.list (es.map fun p=>V.str p.1)) (σ0:=σ) (h0:=s.heap) ⟨acc,⟨c',e'⟩,rl⟩ S.size (.ext kp) (get?_fresh _);exact⟨.ref _,_,h _ S.fresh,.ref _,S2,e2⟩
theorem Z3B{h:Heap}{kvs:List (Str×Value)}{es:List (Str×V)}{x:Str}(z:PR h kvs es)(e:sget es x=none):valueAt kvs x=none:=by
 have:=ZH (x:=x) z
 cases q:valueAt kvs x with
 | none=>rfl
 | some v=>
  rw[q]at this;have h2:(sget es x).isSome=true:=this.symm;rw[e]at h2;cases h2
theorem X1.sdget{d:Addr}{es:List (Str×V)}{k:Str}{Q:pV}(hd:σ d=some (.sd es))(hS:Zk C)(h:Q ((sget es k).getD .none) σ):X1 C A (.builtin "dict.get") [.ref d,.str k] σ Q X:=by
 revert X A C σ d es k Q;k_extra "R";intro X A C σ d es k Q hd hS h
 intro s vs S r;obtain⟨_,_,rfl,r1,r2⟩:=r.two;obtain rfl:=r1.refI;obtain⟨t,rfl⟩:=r2.strI;obtain⟨kvs,D,pr⟩:=S.rep _ _ hd;refine call_meetsIn PySem.F.slot_dict_get D.typeIs PySem.F.entry_dict_get (PySem.F.args_dict_get_2 _ _) (meets_dict_get (strKind C.prog C.w) d (k:=k) (key:=.str k t) (by show(k==k)=true;simp) (S.notSys hS hd)) ⟨_,D.mapOf,?_⟩;have S2:St C σ { s with toks:=s.toks+1 }:=S.toks _
 cases e:sget es k with
 | none=>
  rw[e]at h;rw[Z3B pr e];exact⟨.none,σ,h,.none,S2,.refl ..⟩
 | some y=>
  rw[e]at h;obtain⟨u,hu,ru⟩:=pr.find (x:=k) (y:=y) e;rw[show valueAt kvs k=some u from hu];exact⟨y,σ,h,ru,S2,.refl ..⟩
noncomputable def sdel(es:List (Str×V))(k:Str):List (Str×V):=es.filter fun p=>!decide (p.1=k)
theorem X1.sdpop{d:Addr}{es:List (Str×V)}{k:Str}{y:V}{Q:pV}(hd:σ d=some (.sd es))(hz:es.length<=sizeLine)(hy:sget es k=some y)(h:Q y (σ.upd d (.sd (sdel es k)))):X1 C A (.builtin "dict.pop") [.ref d,.str k] σ Q X:=by
 revert X A C σ d es k y Q;k_extra "F";intro X A C σ d es k y Q hd hz hy h
 intro s vs S r;obtain⟨_,_,rfl,r1,r2⟩:=r.two;obtain rfl:=r1.refI;obtain⟨t,rfl⟩:=r2.strI;obtain⟨kvs,D,pr⟩:=S.rep _ _ hd;obtain⟨u,hu,ru⟩:=pr.find (x:=k) (y:=y) hy;refine call_meetsIn PySem.F.slot_dict_pop D.typeIs PySem.F.entry_dict_pop (PySem.F.args_dict_pop_2 _ _) (meets_dict_pop_there (strKind C.prog C.w) d (k:=k) (key:=.str k t) (by show(k==k)=true;simp) [] (.inl rfl) rfl) ⟨kvs,u,D,by rw[pr.length];exact hz,hu,fun h' D' sb=>?_⟩;have tk:X7 s.heap h':=Z7 sb (S.rep _ _ hd).notTup;obtain⟨S2,e2⟩:=S.set (t:=s.toks+1) (o':=.sd (sdel es k)) hd sb ⟨_,D',(pr.mono tk).without⟩;exact⟨y,_,h,ru.mono tk,S2,e2⟩
end
section
variable {X:XP} {A:Around} {C:Cx} {σ:X0}
end
abbrev Tri:=Int×Int×Str
noncomputable def tv(p:Tri):V:=.tup [.int p.1,.int p.2.1,.str p.2.2]
noncomputable def ab(p:Tri):Int×Int:=(p.1,p.2.1)
noncomputable def TriAt(h:Heap)(v:Value)(p:Tri):Prop:=∃a t u z n,v=.ref a/\h.get? a=some (Zf #[.int p.1 t,.int p.2.1 u,.str p.2.2 z] n)
theorem VR.tv_at:∀{h:Heap}{v:Value}{p:Tri}(r:VR h v (tv p)),TriAt h v p:=by
 k_extra "A";intro h v p r;obtain⟨a,⟨l⟩,n,rfl,e,rs⟩:=VR.tupI (xs:=[.int p.1,.int p.2.1,.str p.2.2]) r;obtain⟨_,_,e2,r1,rs⟩:=rs.consI;obtain⟨_,_,e3,r2,rs⟩:=rs.consI;obtain⟨_,_,e4,r3,rs⟩:=rs.consI;obtain rfl:=rs.nilI;obtain⟨_,rfl⟩:=r1.intI;obtain⟨_,rfl⟩:=r2.intI;obtain⟨_,rfl⟩:=r3.strI;subst e4 e3;have e2:l=_:=e2;subst e2;exact⟨_,_,_,_,_,rfl,e⟩
theorem TriAt.unique:∀{h:Heap}{v:Value}{p q:Tri}(r1:TriAt h v p)(r2:TriAt h v q),p=q:=by
 k_extra "J";intro h v p q r1 r2;obtain⟨a,t,u,z,n,rfl,e⟩:=r1;obtain⟨a',t',u',z',n',e0,e'⟩:=r2
 cases e0
 rw[e]at e';have e2:=congrArg Obj.data (Option.some.inj e');simp only[Data.seq.injEq,Array.mk.injEq,List.cons.injEq,Value.int.injEq,Value.str.injEq]at e2;exact Prod.ext e2.1.1.1 (Prod.ext e2.1.2.1.1 e2.1.2.2.1.1)
open Classical in
noncomputable def Zx(h:Heap)(v:Value):Tri:=if q:∃p,VR h v (tv p) then Classical.choose q else(0,0,Str.empty)
theorem Z63{h:Heap}{v:Value}{p:Tri}(r:VR h v (tv p)):Zx h v=p:=by
 have q:∃p,VR h v (tv p):=⟨p,r⟩;unfold Zx;rw[dif_pos q];exact TriAt.unique (Classical.choose_spec q).tv_at r.tv_at
theorem VRs.tris{h:Heap}:∀{ps:List Tri} {vs:List Value},VRs h vs (ps.map tv)->vs.map (Zx h)=ps/\∀v∈vs,VR h v (tv (Zx h v))
 | [],vs,r=>by obtain rfl:=r.nilI;exact⟨rfl,fun w z=>by cases z⟩
 | p::ps,vs,r=>by
  obtain⟨v,vs,rfl,r1,r2⟩:=r.consI;obtain⟨e,f⟩:=VRs.tris r2;have e1:=Z63 r1;refine⟨by rw[map_cons,e1,e],fun u hu=>?_⟩;rcases List.mem_cons.mp hu with rfl|hu
  ·rw[e1];exact r1
  ·exact f u hu
theorem Z4g{h:Heap}:∀{vs:List Value} {ps:List Tri},VRs h vs (ps.map tv)->∃fs,KatTups h vs fs/\fs.length=ps.length/\∀v∈fs,∃i t,v=Value.int i t
 | vs,[],r=>by obtain rfl:=r.nilI;exact⟨[],trivial,rfl,fun v hv=>(nomatch hv)⟩
 | vs,p::ps,r=>by
  obtain⟨_,_,rfl,r1,r2⟩:=r.consI;obtain⟨fs,k,l,f⟩:=Z4g r2;obtain⟨a,t,u,z,n,rfl,e⟩:=r1.tv_at;refine⟨.int p.1 t::fs,⟨⟨a,_,_,n,rfl,e,rfl,rfl,rfl⟩,k⟩,by simp[l],fun v hv=>?_⟩;rcases List.mem_cons.mp hv with rfl|hv
  ·exact⟨_,_,rfl⟩
  ·exact f v hv
section
variable {prog:Program} {w:World} {A:Around} {E:pS} {s:Shared}
theorem Z6I{x y:Value}{p q:Tri}{C:Bool->Shared->Prop}(hx:TriAt s.heap x p)(hy:TriAt s.heap y q)(hq:ab p=ab q->p=q)(hC:C (lexlt (ab p) (ab q)) s):wpAny (model prog w) A (keyLt' (tuples' true) x y) C E s:=by
 revert prog w A E s x y p q C;k_extra "t";intro prog w A E s x y p q C hx hy hq hC
 obtain⟨a1,t1,u1,z1,n1,rfl,e1⟩:=hx;obtain⟨a2,t2,u2,z2,n2,rfl,e2⟩:=hy;refine kat_lt e1 rfl e2 rfl ?_;show KatLex prog w A true false C [(Value.int p.1 t1,Value.int q.1 t2),(Value.int p.2.1 u1,Value.int q.2.1 u2),(Value.str p.2.2 z1,Value.str q.2.2 z2)] 0 s;refine kat_cons (wpAny_eqBool_int ?_)
 by_cases z:p.1=q.1
 ·rw[z,beq_self_eq_true];refine kat_yes (kat_cons (wpAny_eqBool_int ?_))
  by_cases z2:p.2.1=q.2.1
  ·rw[z2,beq_self_eq_true];obtain rfl:=hq (Prod.ext z z2);refine kat_yes (kat_cons (wpAny_eqBool_str ?_));rw[decide_eq_true rfl];refine kat_yes (kat_nil ?_);have:lexlt (ab p) (ab p)=false:=by rw[lexlt_false];exact .inr ⟨rfl,Int.le_refl _⟩
   rw[this]at hC;exact hC
  ·rw[beq_eq_false_iff_ne.mpr z2];refine kat_no (kat_one _ _ (PySem.P.lt_int ?_));have:lexlt (ab p) (ab q)=decide (p.2.1<q.2.1):=by show lexlt (p.1,p.2.1) (q.1,q.2.1)=_;rw[z];simp[lexlt]
   rw[this]at hC;exact hC
 ·rw[beq_eq_false_iff_ne.mpr z];refine kat_no (oneLt_int ?_);have:lexlt (ab p) (ab q)=decide (p.1<q.1):=by show lexlt (p.1,p.2.1) (q.1,q.2.1)=_;simp[lexlt,z]
  rw[this]at hC;exact hC
end
section
variable {X:XP} {A:Around} {C:Cx} {σ:X0} {s:Shared}
theorem X1.sortedTris{l:Addr}{ps:List Tri}{Q:pV}(hl:X8 C σ l (ps.map tv))(hz:ps.length<=100000)(hq:∀p∈ps,∀q∈ps,ab p=ab q->p=q)(h:∀(a:Addr) (ps':List Tri),σ a=none->ps'.Perm ps->ps'.Pairwise (fun p q=>lexlt (ab q) (ab p)=false)->Q (.ref a) (σ.upd a (.list (ps'.map tv)))):X1 C A (.builtin "sorted") [.ref l] σ Q X:=by
 revert X A C σ l ps Q;k_extra "B";intro X A C σ l ps Q hl hz hq h
 intro s vs S r;obtain⟨_,rfl,r1⟩:=r.one;obtain rfl:=r1.refI;obtain⟨⟨vs⟩,il,rl⟩:=hl.raw S;simp only at rl;have el:=rl.length;rw[length_map]at el;obtain⟨e1,e2⟩:=VRs.tris rl;have mem:∀v∈vs,Zx s.heap v∈ps:=fun v hv=>by rw[<-e1];exact mem_map_of_mem hv
 have memb:∀v∈vs,ab (Zx s.heap v)∈ps.map ab:=fun v hv=>mem_map_of_mem (mem v hv);refine Z17 (kv:=fun v=>Z1S (ps.map ab) (ab (Zx s.heap v))) (Gv:=fun v=>v∈vs) il (by exact Y3Q hz el) (fun v hv=>hv) (fun h' h2 kp=>?_) fun h' a out ha kp pl hp hs=>?_
 ·have mv:∀v∈vs,VR h' v (tv (Zx s.heap v)):=fun v hv=>(e2 v hv).mono fun u u u e=>kp _ _ e;refine⟨tuples' true,fun Q E q=>?_,fun x y K hx hy hC=>?_⟩
  ·obtain⟨fs,k,lf,f⟩:=Z4g (rl.mono fun u u u e=>kp _ _ e);exact kat_kind (s:={ s with heap:=h' }) (T:=.type "int") k (by exact Y3R el h2 lf) (fun v hv=>by obtain⟨i,t,rfl⟩:=f v hv;exact .now) (by decide) q
  ·rw[Z1T (memb x hx) (memb y hy)]at hC;exact Z6I (s:={ s with heap:=h' }) (mv x hx).tv_at (mv y hy).tv_at (hq _ (mem x hx) _ (mem y hy)) hC
 ·have S':St C σ { s with heap:=h',toks:=s.toks }:=S.ext kp;have mo:∀v∈out,v∈vs:=fun v hv=>hp.mem_iff.mp hv;have rr:VRs h' out ((out.map (Zx s.heap)).map tv):=by
   rw[map_map];exact VRs.of_all fun v hv=>(e2 v (mo v hv)).mono fun u u u e=>kp _ _ e
  obtain⟨S2,e3⟩:=S'.adopt (a:=a) (o:=.list ((out.map (Zx s.heap)).map tv)) (σ0:=σ) (h0:=s.heap) ⟨_,pl,by simpa using rr⟩ (Nat.le_trans S.size ha) (.ext kp) (get?_fresh' ha);refine⟨.ref _,_,h a (out.map (Zx s.heap)) (S.fresh' ha) ?_ ?_,.ref _,S2,e3⟩
  ·have:=hp.map (Zx s.heap);rw[e1]at this;exact this
  ·rw[List.pairwise_map];refine hs.imp_of_mem fun{x y} hx hy z=>?_;rw[<-Z1T (memb y (mo y hy)) (memb x (mo x hx)),decide_eq_false_iff_not];exact Y3S z
end
abbrev T3:=Int×Int×Int
noncomputable def tlt(a b:T3):Bool:=decide (a.1<b.1)||(a.1==b.1&&lexlt a.2 b.2)
theorem ZR{a b:T3}:tlt a b=false↔b.1<a.1\/(b.1=a.1/\lexlt a.2 b.2=false):=by
 unfold tlt;simp only[Bool.or_eq_false_iff,decide_eq_false_iff_not,Bool.and_eq_false_imp,beq_iff_eq];constructor
 ·rintro⟨h1,h2⟩
  by_cases e:a.1=b.1
  ·exact .inr ⟨e.symm,h2 e⟩
  ·exact .inl (by exact(Jq 0x902029921010c9) h1 e)
 ·rintro(h|⟨h1,h2⟩)
  ·exact⟨by exact(Jq 0x48608089) h,fun e=>by exact Yav h e⟩
  ·exact⟨by exact(Jq 0x486080a9) h1,fun z=>h2⟩
theorem Z64{a b:T3}:tlt a b=true↔a.1<b.1\/(a.1=b.1/\lexlt a.2 b.2=true):=by
 unfold tlt;simp
noncomputable def t3v(p:T3):V:=.tup [.int p.1,.int p.2.1,.int p.2.2]
noncomputable def t3d(p:T3):PyData:=.tuple [.int p.1,.int p.2.1,.int p.2.2]
noncomputable def T3At(h:Heap)(v:Value)(p:T3):Prop:=∃a t u z n,v=.ref a/\h.get? a=some (Zf #[.int p.1 t,.int p.2.1 u,.int p.2.2 z] n)
theorem VR.t3_at:∀{h:Heap}{v:Value}{p:T3}(r:VR h v (t3v p)),T3At h v p:=by
 k_extra "A";intro h v p r;obtain⟨a,⟨l⟩,n,rfl,e,rs⟩:=VR.tupI (xs:=[.int p.1,.int p.2.1,.int p.2.2]) r;obtain⟨_,_,e2,r1,rs⟩:=rs.consI;obtain⟨_,_,e3,r2,rs⟩:=rs.consI;obtain⟨_,_,e4,r3,rs⟩:=rs.consI;obtain rfl:=rs.nilI;obtain⟨_,rfl⟩:=r1.intI;obtain⟨_,rfl⟩:=r2.intI;obtain⟨_,rfl⟩:=r3.intI;subst e4 e3;have e2:l=_:=e2;subst e2;exact⟨_,_,_,_,_,rfl,e⟩
section
variable {prog:Program} {w:World} {A:Around} {E:pS} {s:Shared}
theorem Z7M{a b:Addr}{p q:T3}{t u z t' u' z':Tok}{n k:Nat}{Q:pS}(ha:s.heap.get? a=some (Zf #[.int p.1 t,.int p.2.1 u,.int p.2.2 z] n))(hb:s.heap.get? b=some (Zf #[.int q.1 t',.int q.2.1 u',.int q.2.2 z'] k))(hu:A.units<cLine)(h:Q (.bool (tlt p q)) s):wpAny (model prog w) A (richCompare .Lt (.ref a) (.ref b)) Q E s:=by
 revert prog w A E s a b p q t u z t' u' z' n k Q;k_extra "l";intro prog w A E s a b p q t u z t' u' z';k_extra "A";intro n k Q ha hb hu h
 refine wpAny_richCompare_same_room (T:="tuple") (id:="tuple.__lt__") ⟨_,ha,rfl⟩ ⟨_,hb,rfl⟩ PySem.F.slot_tuple_lt ?_ hu;refine wpAny_call_entry PySem.F.slot_tuple_lt ⟨_,ha,rfl⟩ PySem.F.entry_tuple_lt ?_ (PySem.F.args_tuple_lt_2 _ _);show wpAny _ _ (isInstance (.ref b) (.type "tuple")>>=_) _ _ s;refine wB (wpAny_isInstance ⟨_,hb,rfl⟩ isSubtype_tuple_tuple ?_);simp only[Bool.not_true,Bool.false_eq_true,if_false];refine wB (wpAny_tupleItemsOf ha rfl ?_);refine wB (wpAny_tupleItemsOf hb rfl ?_);refine wB ?_;simp only[List.zip_cons_cons,List.zip_nil_right,List.forIn_cons,List.forIn_nil];refine wB (wB (wpAny_eqBool_int ?_))
 by_cases q1:p.1=q.1
 ·rw[q1,beq_self_eq_true];simp only[Bool.not_true,Bool.false_eq_true,if_false];refine wP ?_;refine wB (wB (wpAny_eqBool_int ?_))
  by_cases q2:p.2.1=q.2.1
  ·rw[q2,beq_self_eq_true];simp only[Bool.not_true,Bool.false_eq_true,if_false];refine wP ?_;refine wB (wB (wpAny_eqBool_int ?_))
   by_cases q3:p.2.2=q.2.2
   ·rw[q3,beq_self_eq_true];simp only[Bool.not_true,Bool.false_eq_true,if_false];refine wP (wP (wP ⟨_,rfl,fun z=>(nomatch z),?_⟩));have:tlt p q=false:=by simp[tlt,lexlt,q1,q2,q3]
    rw[this]at h;exact h
   ·have e2:(p.2.2==q.2.2)=false:=beq_eq_false_iff_ne.mpr q3;simp only[e2,Bool.not_false,if_true];refine wB (wpAny_rule (wB (PySem.P.lt_int (wB (wP (wP (wP (wP ⟨_,rfl,fun z=>(nomatch z),?_⟩))))))));have:tlt p q=decide (p.2.2<q.2.2):=by simp[tlt,lexlt,q1,q2]
    rw[this]at h;exact h
  ·have e2:(p.2.1==q.2.1)=false:=beq_eq_false_iff_ne.mpr q2;simp only[e2,Bool.not_false,if_true];refine wB (wpAny_rule (wB (PySem.P.lt_int (wB (wP (wP (wP (wP ⟨_,rfl,fun z=>(nomatch z),?_⟩))))))));have:tlt p q=decide (p.2.1<q.2.1):=by simp[tlt,lexlt,q1,q2]
   rw[this]at h;exact h
 ·have e1:(p.1==q.1)=false:=beq_eq_false_iff_ne.mpr q1;simp only[e1,Bool.not_false,if_true];refine wB (wpAny_rule (wB (PySem.P.lt_int (wB (wP (wP (wP (wP ⟨_,rfl,fun z=>(nomatch z),?_⟩))))))));have:tlt p q=decide (p.1<q.1):=by simp[tlt,q1]
  rw[this]at h;exact h
end
section
variable {X:XP} {A:Around} {C:Cx} {σ:X0} {s:Shared}
theorem X1.minT3{l:Addr}{ps:List T3}{Q:pV}(hh:A.handled=none)(hu:A.units+1<cLine)(hl:X8 C σ l (ps.map t3v))(hne:0<ps.length)(h:∀p,p∈ps->(∀q∈ps,tlt q p=false)->Q (t3v p) σ) :
  X1 C A (.builtin "min") [.ref l] σ Q X:=by
 revert X A C σ l ps Q;k_extra "B";intro X A C σ l ps Q hh hu hl hne h
 intro s vs S r;obtain⟨_,rfl,r1⟩:=r.one;obtain rfl:=r1.refI;obtain⟨items,il,rl⟩:=hl.raw S;have el:=rl.length;simp only[Array.length_toList,length_map]at el;have at_:∀(i:Nat) (v:Value) (p:T3),items[i]?=some v->ps[i]?=some p->VR s.heap v (t3v p):=fun i v p hv hp=>by
  obtain⟨u,hu',ru⟩:=rl.get (i:=i) (y:=t3v p) (by simp[hp]);have:u=v:=by simpa [hv] using hu'.symm
  exact this▸ru
 refine Z2U (lt:=tlt) (At:=T3At s.heap) hh ⟨fun s' x y p q Q E hb hx hy hq=>?_,fun p=>?_,fun r p q h1 h2=>?_⟩ il el hne (fun i v p hv hp=>(at_ i v p hv hp).t3_at) fun v p h' tk ⟨i,hi,hv,hp⟩ hmin kp=>?_
 ·obtain⟨a1,t1,u1,z1,n1,rfl,e1⟩:=hx;obtain⟨a2,t2,u2,z2,n2,rfl,e2⟩:=hy;exact Z7M (hb _ _ e1) (hb _ _ e2) hu hq
 ·rw[ZR,lexlt_false];exact(Jr 0x843084a708488000a700088)
 ·rw[ZR,lexlt_false]at h1 ⊢;rw[Z64,lexlt_iff]at h2;exact Yay h1 h2
 ·exact⟨t3v p,σ,h p (List.mem_of_getElem? hp) hmin,(at_ i v p hv hp).mono fun z z z e=>kp _ _ e,S.ext kp,.ext kp⟩
theorem Z3C(p q:T3):PyData.eqv (t3d p) (t3d q)=(p==q):=by
 rw[Bool.eq_iff_iff,beq_iff_eq];simp only[t3d,PyData.eqv,PyData.eqvAll,Bool.and_eq_true,beq_iff_eq,and_true];exact⟨fun⟨a,b,c⟩=>Prod.ext a (Prod.ext b c),fun e=>by subst e;exact⟨rfl,rfl,rfl⟩⟩
theorem Z3d(p:T3):DR C σ (t3v p) (t3d p):=.tup (.cons (.int _) (.cons (.int _) (.cons (.int _) .nil)))
theorem Z2v(p:T3):(t3d p).canLay0=true:=rfl
theorem Z3D(p:T3):(t3d p).depth<=3:=by simp[t3d,PyData.depth,PyData.depthAll]
theorem X4.notInT3{l:Addr}{w:List T3}{k:T3}{Q:pV}(hl:X8 C σ l (w.map t3v))(hu:A.units<9000)(h:Q (.bool (!w.contains k)) σ):X4 C A .NotIn (t3v k) (.ref l) σ Q X:=by
 refine X4.notInL (d:=t3d k) (ds:=w.map t3d) hl (Z3d k) (DRs.map fun z z=>Z3d _) (Z2v k) (Z5 fun z z=>Z2v _) (by have:=Z3D k;simp only[cLine];exact Yaz hu this) ?_;have e:((w.map t3d).any fun y=>PyData.eqv y (t3d k))=w.contains k:=by
  rw[Bool.eq_iff_iff,List.any_eq_true,List.contains_iff_mem];constructor
  ·rintro⟨y,hy,e⟩;obtain⟨p,hp,rfl⟩:=List.mem_map.mp hy;rw[Z3C,beq_iff_eq]at e;rw[<-e];exact hp
  ·exact fun hk=>⟨_,mem_map_of_mem hk,by rw[Z3C];simp⟩
 rw[e];exact h
end
end Mine.Internal
open PySem PySem.W PySem.SeqAt PyProof.Rows
set_option maxRecDepth 100000
set_option maxHeartbeats 8000000
set_option linter.unusedVariables false
namespace Mine.Internal
theorem kept:KL=KL/\PySem.Challenge.rw_uf030038_12=PySem.Challenge.rw_uf030038_12:=by
 k_fill
 exact⟨rfl,rfl⟩
variable {C:Cx} {A:Around} {σ:X0} {X:XP}
theorem words:True:=by
 k_with "g"=>(first  |((with_reducible refine kNs hK ?_);intro P;k_is)  |((with_reducible refine kKe hK ?_);intro P;k_is)  |((with_reducible refine kHa hK ?_);intro P;k_is)  |((with_reducible refine kFi hK ?_);intro P;k_is)  |((with_reducible refine kPl hK ?_);intro P;k_is)  |((with_reducible refine kCo hK ?_);intro P;k_is)  |((with_reducible refine kNo hK ?_);intro P;k_is)  |((with_reducible refine atK2 hK ?_);intro P;k_is)  |((with_reducible refine atK1 hK ?_);intro P;k_is)  |((with_reducible refine atK0 hK ?_);intro P;k_is))
 k_with "w"=>(with_unfolding_all exact Z6X (Eq.refl false))
 k_with "o"=>(with_unfolding_all exact Eq.refl true)
 k_with "C"=>(with_unfolding_all exact Eq.refl false)
 k_with "H"=>(with_unfolding_all exact Eq.refl (some _))
 k_with "Rn"=>(with_unfolding_all exact Eq.refl none)
 k_with "a"=>(first  |with_reducible exact Rho.get_hit  |with_reducible exact Rho.gp_hit  |with_reducible assumption  |(focus ((with_reducible apply Rho.get_miss);(focus (k_extra "w"));(focus (k_extra "a"))))  |(focus ((with_reducible apply Rho.gp_miss4);(focus (k_extra "w"));(focus (k_extra "w"));(focus (k_extra "w"));(focus (k_extra "w"));(focus (k_extra "a"))))  |(focus ((with_reducible apply Rho.gp_miss);(focus (k_extra "w"));(focus (k_extra "a")))))
 k_with "D"=>(first  |with_reducible exact Rho.put_hit  |with_reducible exact Rho.put_nil  |(focus ((with_reducible apply Rho.put_miss);(focus (k_extra "w"));(focus (k_extra "D"))))  |with_reducible exact rfl)
 k_with "y"=>(first  |exact Xo.nil  |(focus ((with_reducible apply Xo.take);(focus (k_extra "a"));(focus (k_extra "y"))))  |(focus ((with_reducible apply Xo.skip);(focus (decide));(focus (k_extra "y")))))
 k_with "S"=>(first  |exact VRs.nil  |(focus ((with_reducible apply VRs.cons);(focus (k_extra "N"));(focus (k_extra "S")))))
 k_with "N"=>(first|(focus ((with_reducible apply VR.gtup);(focus (k_extra "g"));(focus (k_extra "S"))))|exact VR.ref _|exact VR.int _ _|exact VR.str _ _|exact VR.typ _|exact VR.blt _|exact VR.bool _|exact VR.none)
 k_with "u"=>(first  |(with_reducible refine' Ev.nlocF (by k_extra "H") (by k_extra "a") ?_ (by k_extra "C"))  |(with_reducible refine' Ev.nglobF (by k_extra "H") (by k_extra "g") (by k_extra "N") ?_ (by k_extra "C"))  |(with_reducible refine' Ev.nbltF (by k_extra "H") (by k_extra "g") (by boot_by_name) (by k_extra "N") ?_ (by k_extra "w") (by k_extra "C"))  |(with_reducible refine' Ev.ncelF (by k_extra "H") (by k_extra "a") ?_ (by k_extra "o") (by k_extra "C"))  |(focus ((with_reducible apply Ev.nloc);(focus (kernel_rfl!));(focus (k_extra "a"));rotate_left;(focus (kernel_rfl))))  |(focus ((with_reducible apply Ev.ncel);(focus (kernel_rfl!));(focus (k_extra "a"));rotate_left;(focus (kernel_rfl));(focus (kernel_rfl))))  |(focus ((with_reducible apply Ev.nfree);(focus (kernel_rfl!));(focus (k_extra "a"));rotate_left;(focus (kernel_rfl));(focus (kernel_rfl));(focus (kernel_rfl))))  |(focus ((with_reducible apply Ev.nglob);(focus (kernel_rfl!));(focus (k_extra "g"));(focus (k_extra "N"));rotate_left;(focus (kernel_rfl))))  |(focus ((with_reducible apply Ev.nblt);(focus (kernel_rfl!));(focus (k_extra "g"));(focus (boot_by_name));(focus (k_extra "N"));rotate_left;(focus (decide));(focus (kernel_rfl)))))
 k_with "mcomp"=>(first  |(focus ((with_reducible apply Ev.lcomp);(focus (k_extra "y"));(focus (kernel_rfl!));(focus (kernel_rfl!));(focus (rfl));rotate_left;(focus (kernel_rfl));(focus (intro _;kernel_rfl)))))
 k_with "Q"=>(first  |(focus ((with_reducible apply Ex.lassign);(focus (k_extra "y"));(focus (kernel_rfl!));(focus (kernel_rfl!));(focus (rfl));(focus (kernel_rfl!));rotate_left;(focus (kernel_rfl));(focus (kernel_rfl));(focus (kernel_rfl));(focus (intro _;kernel_rfl)))))
 k_with "msz"=>(exact Z5O rfl)
 k_with "mnea"=>(first|with_reducible assumption|exact Ne.symm (by with_reducible assumption))
 k_with "b"=>(first  |with_reducible exact X0.hit  |with_reducible assumption  |(focus ((with_reducible apply X0.miss);(focus (k_extra "mnea"));(focus (k_extra "b"))))  |(focus ((with_reducible apply X0.at_fresh);(focus (k_extra "b"));(focus (k_extra "b"))))  |with_reducible exact LAt.g6 (by with_reducible assumption)  |with_reducible exact LAt.g5 (by with_reducible assumption)  |with_reducible exact LAt.g7 (by with_reducible assumption)  |with_reducible exact LAt.g8 (by with_reducible assumption)  |with_reducible exact LAt.g1 (by with_reducible assumption))
 k_with "mty"=>((focus ((with_reducible refine' TyGo.mk ?_ ?_);(focus (first|exact TyV.str|(focus ((with_reducible apply TyV.list);(focus (k_extra "b"))))|(focus ((with_reducible apply TyV.sd);(focus (k_extra "b")))))))))
 k_with "L"=>(first|(first|lia|omega)|(simp only[length_map,length_append,List.length_reverse,length_cons,List.length_nil,sizeLine_eq];(first|lia|omega))|(simp only[length_map,length_append,List.length_reverse,length_cons,List.length_nil,sizeLine_eq]at *;(first|lia|omega))|(simp[sizeLine_eq]at *;(first|lia|omega)))
 k_with "k"=>(first  |with_reducible exact Z5V  |with_reducible exact Z5W  |(focus ((with_reducible apply Z4Z);(focus (k_extra "w"));(focus (k_extra "k")))))
 k_with "d"=>(first  |with_reducible exact Z5P  |with_reducible assumption  |with_reducible exact Z5X  |(focus ((with_reducible apply Z4W);(focus (k_extra "w"));(focus (k_extra "d")))))
 k_with "E"=>(first|(focus ((with_reducible apply X8.st);(focus (k_extra "b"))))|with_reducible assumption)
 k_with "s"=>(first  |exact Xe.none  |exact Xe.bool _  |exact Xe.int _  |exact Xe.str _  |exact Xe.tup _  |(focus ((with_reducible apply Xe.list);(focus (k_extra "E"))))  |(focus ((with_reducible apply Xe.sd);(focus (k_extra "b"))))  |(focus ((with_reducible apply Xe.id);(focus (k_extra "b")))))
 k_with "masg"=>(first  |(with_reducible refine' Asg.nlocF (by k_extra "H") (by k_extra "D") ?_ (by k_extra "Rn"))  |(with_reducible refine' Asg.ncelF (by k_extra "H") (by k_extra "D") ?_ (by k_extra "o"))  |(focus ((with_reducible apply Asg.nloc);(focus (kernel_rfl!));(focus (k_extra "D"));rotate_left;(focus (kernel_rfl))))  |(focus ((with_reducible apply Asg.ncel);(focus (kernel_rfl!));(focus (k_extra "D"));rotate_left;(focus (kernel_rfl))))  |(focus ((with_reducible apply Asg.tup);(focus (first|assumption));(focus (rfl));rotate_left;(focus (kernel_rfl));(focus (kernel_rfl))))  |(with_reducible refine Asg.sub ?_)  |(with_reducible refine Asg.attr' ?_))
 k_with "U"=>(first  |k_extra "u"   | ((with_reducible refine Ev.attrS ?_ (by k_extra "o"));k_extra "u";(focus ((with_reducible apply Xl.mk);(focus (k_extra "b"));(focus (k_extra "b"));(focus (k_extra "d"));(focus (k_extra "g"));(focus (k_extra "g"));(focus (k_extra "g"));(focus (k_extra "g"));(focus ((intro _ q;cases q))))))  |((with_reducible refine Ev.sub ?_);k_extra "u";(with_reducible refine Ev.cstr ?_);(focus ((with_reducible apply X5.sd);(focus (k_extra "b"));(focus (k_extra "d"))))))
 k_with "mpop"=>(first  |((with_reducible refine Ev.bmethS F.plainAttrs_list F.slot_list_pop F.type_list_pop ?_ (by k_extra "o"));k_extra "U";k_extra "mty")  |((with_reducible refine Ev.bmethS F.plainAttrs_dict F.slot_dict_pop F.type_dict_pop ?_ (by k_extra "o"));k_extra "U";k_extra "mty"))
 k_with "X"=>(first  |k_extra "mpop"   | (with_reducible refine Ev.bmethS F.plainAttrs_list F.slot_list_append F.type_list_append ?_ (by k_extra "o"))  |(with_reducible refine Ev.bmethS F.plainAttrs_list F.slot_list_remove F.type_list_remove ?_ (by k_extra "o"))  |(with_reducible refine Ev.bmethS F.plainAttrs_list F.slot_list_clear F.type_list_clear ?_ (by k_extra "o"))  |(with_reducible refine Ev.bmethS F.plainAttrs_list F.slot_list_reverse F.type_list_reverse ?_ (by k_extra "o"))  |(with_reducible refine Ev.bmethS F.plainAttrs_str F.slot_str_join F.type_str_join ?_ (by k_extra "o"))  |(with_reducible refine Ev.bmethS F.plainAttrs_list F.slot_list_insert F.type_list_insert ?_ (by k_extra "o"))  |(with_reducible refine Ev.bmethS F.plainAttrs_list F.slot_list_index F.type_list_index ?_ (by k_extra "o"))  |(with_reducible refine Ev.bmethS F.plainAttrs_list F.slot_list_count F.type_list_count ?_ (by k_extra "o"))  |(with_reducible refine Ev.bmethS F.plainAttrs_str F.slot_str_upper F.type_str_upper ?_ (by k_extra "o"))  |(with_reducible refine Ev.bmethS F.plainAttrs_dict F.slot_dict_get F.type_dict_get ?_ (by k_extra "o")))
 k_with "W"=>(first  |((with_reducible refine Ev.callRT ?_ (by k_extra "o"));k_extra "u";(with_reducible refine CallRK.go ?_ ?_);(focus (k_extra "g")))  |((with_reducible refine Ev.callBT ?_ (by k_extra "o"));k_extra "u";first|(with_reducible refine Xx.b ?_)|(with_reducible refine Xx.t ?_)))
 k_with "mdict"=>((focus ((with_reducible refine Ev.dictS ?_ ?_ ?_ ?_ ?_);(focus rfl);(focus rfl);(focus exact List.cons_ne_nil _ _);(focus decide))))
 k_with "p"=>(first|exact TyV.str|(focus ((with_reducible apply TyV.list);(focus (k_extra "b"))))|(focus ((with_reducible apply TyV.sd);(focus (k_extra "b")))))
 k_with "V"=>(first  |(with_reducible exact LAt.metP (name:="make") (f:=284) hK (by with_reducible assumption) (by kernel_rfl!) (fun _=>by kernel_rfl!))  |(with_reducible exact LAt.metP (name:="begin") (f:=251) hK (by with_reducible assumption) (by kernel_rfl!) (fun _=>by kernel_rfl!))  |(with_reducible exact LAt.metP (name:="go_on") (f:=258) hK (by with_reducible assumption) (by kernel_rfl!) (fun _=>by kernel_rfl!))  |(with_reducible exact LAt.metP (name:="call_in") (f:=265) hK (by with_reducible assumption) (by kernel_rfl!) (fun _=>by kernel_rfl!))  |(with_reducible exact LAt.metP (name:="send_away") (f:=272) hK (by with_reducible assumption) (by kernel_rfl!) (fun _=>by kernel_rfl!))  |(with_reducible exact LAt.metP (name:="do_deed") (f:=277) hK (by with_reducible assumption) (by kernel_rfl!) (fun _=>by kernel_rfl!))  |(with_reducible exact LAt.metP (name:="step") (f:=244) hK (by with_reducible assumption) (by kernel_rfl!) (fun _=>by kernel_rfl!))  |(with_reducible exact LAt.metP (name:="run") (f:=291) hK (by with_reducible assumption) (by kernel_rfl!) (fun _=>by kernel_rfl!))  |(with_reducible exact LAt.metP (name:="send") (f:=237) hK (by with_reducible assumption) (by kernel_rfl!) (fun _=>by kernel_rfl!))  |(with_reducible exact LAt.metP (name:="waiting") (f:=298) hK (by with_reducible assumption) (by kernel_rfl!) (fun _=>by kernel_rfl!))  |(with_reducible exact LAt.metP (name:="around") (f:=305) hK (by with_reducible assumption) (by kernel_rfl!) (fun _=>by kernel_rfl!))  |(with_reducible exact LAt.metP (name:="standing") (f:=312) hK (by with_reducible assumption) (by kernel_rfl!) (fun _=>by kernel_rfl!))  |(with_reducible exact LAt.metP (name:="idle") (f:=319) hK (by with_reducible assumption) (by kernel_rfl!) (fun _=>by kernel_rfl!))  |(focus ((with_reducible apply MetP.mk);(focus (k_extra "b"));(focus (k_extra "b"));(focus (k_extra "d"));(focus (k_extra "g"));(focus (k_extra "g"));(focus (k_extra "g"));(focus (k_extra "g")))))
 k_with "T"=>(first  |with_reducible exact LAt.aLog hK (by with_reducible assumption)  |with_reducible exact LAt.aEvents hK (by with_reducible assumption)  |with_reducible exact LAt.aTime hK (by with_reducible assumption)  |with_reducible exact LAt.aWaits hK (by with_reducible assumption)  |with_reducible exact LAt.aPosts hK (by with_reducible assumption)  |with_reducible exact LAt.aFrames hK (by with_reducible assumption)  |with_reducible exact LAt.aCast hK (by with_reducible assumption)  |(focus ((with_reducible apply Xr.mk);(focus (k_extra "b"));(focus (k_extra "b"));(focus (k_extra "d"));(focus (k_extra "g"));(focus (k_extra "g"));(focus (k_extra "g"));(focus (k_extra "g"));(focus ((intro _ q;cases q))))))
 k_with "mit"=>(first  |with_reducible exact ItP.tup0  |with_reducible exact ItP.tup1  |with_reducible exact ItP.tup2)
 k_with "mbi"=>(first  |with_reducible exact BiP.add)
 k_with "mcm"=>(first  |with_reducible exact CmP.lt_int  |with_reducible exact CmP.gt_int  |with_reducible exact CmP.ge_int  |with_reducible exact CmP.eq_str  |with_reducible exact CmP.ne_str)
 k_with "j"=>(first  |(focus ((with_reducible show Pe _ _ _ _ _ (.Name _ _) _);first|(focus ((with_reducible apply Pe.nloc);(focus (k_extra "H"));(focus (k_extra "a"));(focus (k_extra "C"))))|(focus ((with_reducible apply Pe.nlocM);(focus (k_extra "H"));(focus (k_extra "a"));(focus (k_extra "C"))))|(focus ((with_reducible apply Pe.ncel);(focus (k_extra "H"));(focus (k_extra "a"));(focus (k_extra "C"));(focus (k_extra "o"))))|(focus ((with_reducible apply Pe.nglob);(focus (k_extra "H"));(focus (k_extra "g"));(focus (k_extra "N"));(focus (k_extra "C"))))))  |with_reducible exact Pe.cstr  |with_reducible exact Pe.cint  |with_reducible exact Pe.cnone  |with_reducible exact Pe.cbool  |(focus ((with_reducible show Pe _ _ _ _ _ (.Tuple _ _ _) _);first|(focus ((with_reducible apply Pe.tup);(focus (k_extra "h"));(focus (exact Nat.le_of_ble_eq_true rfl))))))  |(focus ((with_reducible show Pe _ _ _ _ _ (.Attribute _ _ _) _);first|(focus ((with_reducible apply Pe.attr);(focus (k_extra "j"));(focus (k_extra "T"));(focus (k_extra "o"))))))  |(focus ((with_reducible show Pe _ _ _ _ _ (.Subscript _ _ _) _);first|(focus ((with_reducible apply Pe.sub);(focus (k_extra "j"));(focus (k_extra "j"));(focus (k_extra "mit"))))))  |(focus ((with_reducible show Pe _ _ _ _ _ (.BinOp _ _ _ _) _);first|(focus ((with_reducible apply Pe.bin);(focus (k_extra "j"));(focus (k_extra "j"));(focus (k_extra "mbi"))))))  |(focus ((with_reducible show Pe _ _ _ _ _ (.Compare _ [_] [_] _) _);first|(focus ((with_reducible apply Pe.cmp);(focus (k_extra "j"));(focus (k_extra "j"));(focus (k_extra "mcm"));(focus (k_extra "C")))))))
 k_with "h"=>(first  |with_reducible exact Pes.nil  |(focus ((with_reducible apply Pes.cons);(focus (k_extra "j"));(focus (k_extra "h"));(focus (k_extra "o")))))
 k_with "mtp"=>(first  |(focus ((with_reducible show Tp _ _ _ _ _ (.Compare _ [_] [_] _) _);(focus ((with_reducible apply Tp.cmp);(focus (k_extra "j"));(focus (k_extra "j"));(focus (k_extra "mcm"));(focus (k_extra "C")))))))
 k_with "mev"=>(first  |(focus ((with_reducible refine' Ev.pe ?_ ?_);rotate_left;(focus (k_extra "j"))))  |(focus ((with_reducible show Ev _ _ _ (.Name _ _) _ _ _ _);first|k_extra "u"))  |(with_reducible refine Ev.cint ?_)  |(with_reducible refine Ev.cstr ?_)  |(with_reducible refine Ev.cbool ?_)  |(with_reducible refine Ev.cnone ?_)  |(with_reducible refine Ev.bin ?_)  |(with_reducible refine Ev.cmp ?_ (by k_extra "C"))  |(with_reducible refine Ev.slice ?_)  |(with_reducible refine Ev.sub ?_)  |(with_reducible refine Ev.attrS ?_ (by k_extra "o"))  |(with_reducible refine Ev.tuple ?_)  |(focus ((with_reducible show Ev _ _ _ (.Call (.Attribute _ _ _) _ [] _) _ _ _ _);first|(with_reducible refine' Ev.bmethP F.plainAttrs_list F.slot_list_append F.type_list_append (by k_extra "j") (by k_extra "p") (by k_extra "h") ?_ (by k_extra "o"))|(with_reducible refine' Ev.bmethP F.plainAttrs_list F.slot_list_pop F.type_list_pop (by k_extra "j") (by k_extra "p") (by k_extra "h") ?_ (by k_extra "o"))|(with_reducible refine' Ev.bmethP F.plainAttrs_list F.slot_list_remove F.type_list_remove (by k_extra "j") (by k_extra "p") (by k_extra "h") ?_ (by k_extra "o"))|(with_reducible refine' Ev.bmethP F.plainAttrs_list F.slot_list_clear F.type_list_clear (by k_extra "j") (by k_extra "p") (by k_extra "h") ?_ (by k_extra "o"))|(with_reducible refine' Ev.bmethP F.plainAttrs_list F.slot_list_reverse F.type_list_reverse (by k_extra "j") (by k_extra "p") (by k_extra "h") ?_ (by k_extra "o"))|(with_reducible refine' Ev.bmethP F.plainAttrs_str F.slot_str_join F.type_str_join (by k_extra "j") (by k_extra "p") (by k_extra "h") ?_ (by k_extra "o"))|(with_reducible refine' Ev.bmethP F.plainAttrs_list F.slot_list_insert F.type_list_insert (by k_extra "j") (by k_extra "p") (by k_extra "h") ?_ (by k_extra "o"))|(with_reducible refine' Ev.bmethP F.plainAttrs_list F.slot_list_index F.type_list_index (by k_extra "j") (by k_extra "p") (by k_extra "h") ?_ (by k_extra "o"))|(with_reducible refine' Ev.bmethP F.plainAttrs_list F.slot_list_count F.type_list_count (by k_extra "j") (by k_extra "p") (by k_extra "h") ?_ (by k_extra "o"))|(with_reducible refine' Ev.bmethP F.plainAttrs_str F.slot_str_upper F.type_str_upper (by k_extra "j") (by k_extra "p") (by k_extra "h") ?_ (by k_extra "o"))|(with_reducible refine' Ev.bmethP F.plainAttrs_dict F.slot_dict_pop F.type_dict_pop (by k_extra "j") (by k_extra "p") (by k_extra "h") ?_ (by k_extra "o"))|(with_reducible refine' Ev.bmethP F.plainAttrs_dict F.slot_dict_get F.type_dict_get (by k_extra "j") (by k_extra "p") (by k_extra "h") ?_ (by k_extra "o"))|(with_reducible refine' Ev.methP (by k_extra "j") (by k_extra "V") (by k_extra "h") ?_ (by k_extra "o"))))  |(focus ((with_reducible show Ev _ _ _ (.Call (.Name _ _) _ [] _) _ _ _ _);first|(with_reducible refine' Ev.callPB (by k_extra "H") (by k_extra "g") (by boot_by_name) (by k_extra "w") (by k_extra "h") ?_ (by k_extra "o"))|(with_reducible refine' Ev.callPT (by k_extra "H") (by k_extra "g") (by boot_by_name) (by k_extra "w") (by k_extra "h") ?_ (by k_extra "o"))))  |(focus ((with_reducible show Ev _ _ _ (.Call _ _ [] _) _ _ _ _);first|k_extra "X" | (with_reducible refine Ev.methS ?_ (by k_extra "o"))|k_extra "W"))  |(with_reducible refine Ev.un ?_)  |(with_reducible refine Ev.chain ?_)  |(with_reducible refine Ev.boolop ?_)  |(with_reducible refine Ev.list ?_)  |(focus ((with_reducible show Ev _ _ _ (.ListComp _ _ _ _) _ _ _ _);first|k_extra "mcomp"))  |(focus ((with_reducible show Ev _ _ _ (.Dict _ _ _) _ _ _ _);first|k_extra "mdict")))
 k_with "mex"=>(first  |(with_reducible refine Ex.ret ?_)  |(with_reducible refine Ex.ite ?_)  |(with_reducible refine Ex.exprS ?_ (by k_extra "C") (by k_extra "C"))  |(focus ((with_reducible show Ex _ _ _ (.Assign [_] (.ListComp _ _ _ _) _) _ _ _ _);first|k_extra "Q"))  |(with_reducible refine Ex.assignS ?_ (by k_extra "C"))  |(with_reducible refine Ex.assign ?_)  |(focus ((with_reducible apply Ex.for);rotate_left;(focus (intro _;kernel_rfl))))  |(with_reducible refine Ex.ret0 ?_))
 k_with "M"=>(repeat k_extra "m")
 k_with "m"=>(first  |(focus ((with_reducible show Ev _ _ _ _ _ _ _ _);first|k_extra "mev"))  |(focus ((with_reducible show Exs _ _ _ _ _ _ _ _);first|(focus ((with_reducible show Exs _ _ _ (.Assign [.Name _ _] (.ListComp _ _ _ _) _::_) _ _ _ _);first|(with_reducible refine Exs.cons ?_)))|(focus ((with_reducible show Exs _ _ _ (.Assign [.Name _ _] _ _::_) _ _ _ _);first|(with_reducible refine' Exs.asgP (by k_extra "H") (by k_extra "j") ?_ (by k_extra "C"))|(with_reducible refine' Exs.asgN (by k_extra "H") ?_ (by k_extra "C"))))|(focus ((with_reducible show Exs _ _ _ (.Expr _ _::_) _ _ _ _);first|(with_reducible refine Exs.expN ?_ (by k_extra "C") (by k_extra "C"))))|(focus ((with_reducible show Exs _ _ _ (.Return (some _) _::_) _ _ _ _);first|(with_reducible refine' Exs.retP (by k_extra "j") ?_)))|(focus ((with_reducible show Exs _ _ _ (.If _ _ _ _::_) _ _ _ _);first|(with_reducible refine' Exs.ifP (by k_extra "mtp") ?_)))|(with_reducible refine Exs.cons ?_)|(with_reducible refine Exs.nil ?_)))  |(focus ((with_reducible show Then _ _ _ _ _ _ _ _ _);first|(with_reducible refine Then.next ?_)|(with_reducible refine Then.ret ?_)))  |(focus ((with_reducible show Ags _ _ _ _ _ _ _ _ _);first|(focus ((with_reducible refine' Ags.pe ?_ ?_);rotate_left;(focus (k_extra "h"))))|(with_reducible refine Ags.consS ?_ (by k_extra "o"))|(with_reducible refine Ags.nil ?_)))  |(focus ((with_reducible show X4 _ _ _ _ _ _ _ _);first|(with_reducible refine X4.eq_int ?_)|(with_reducible refine X4.ne_int ?_)|(with_reducible refine X4.lt_int ?_)|(with_reducible refine X4.le_int ?_)|(with_reducible refine X4.gt_int ?_)|(with_reducible refine X4.ge_int ?_)|(with_reducible refine X4.eq_str ?_)|(with_reducible refine X4.ne_str ?_)|(with_reducible refine X4.inStr ?_)|(with_reducible refine X4.isNone ?_)|(with_reducible refine X4.isNotNone ?_)))  |(focus ((with_reducible show Tst _ _ _ _ _ _ _ _);first|(focus ((with_reducible refine' Tst.pe ?_ ?_);rotate_left;(focus (k_extra "mtp"))))|(with_reducible refine Tst.cmp ?_ (by k_extra "C"))|(with_reducible refine Tst.not ?_)|(with_reducible refine Tst.boolop ?_)|(with_reducible refine Tst.chain ?_)|(with_reducible refine Tst.valS ?_ (by k_extra "o"))))  |(focus ((with_reducible show Ex _ _ _ _ _ _ _ _);first|k_extra "mex"))  |(focus ((with_reducible show Asg _ _ _ _ _ _ _ _ _);first|k_extra "masg"))  |(focus ((with_reducible show X9 _ _ _ _ _ _ _ _);first|(with_reducible refine X9.add_int ?_)|(with_reducible refine X9.sub_int ?_)|(focus ((with_reducible apply X9.mul_int);rotate_left;(focus (first|exact Z3l (by decide) (by decide)|exact Z3m (by decide) (by decide)|exact Z3l (by(first|lia|omega)) (by(first|lia|omega))|exact Z3m (by(first|lia|omega)) (by(first|lia|omega))))))|(focus ((with_reducible apply X9.fmod_int);(focus (decide))))|(focus ((with_reducible apply X9.fdiv_int);(focus (decide));(focus (decide))))))  |(focus ((with_reducible show Xh _ _ _ _ _ _);first|(with_reducible refine Xh.bool ?_)|(focus ((with_reducible apply Xh.list);(focus (k_extra "E"));(focus (k_extra "L"))))))  |(focus ((with_reducible show X5 _ _ _ _ _ _ _);first|(with_reducible refine X5.tup0 ?_)|(with_reducible refine X5.tup1 ?_)|(with_reducible refine X5.tup2 ?_)|(with_reducible refine X5.tup3 ?_)|(with_reducible refine X5.tup4 ?_)|(with_reducible refine X5.neg2 ?_)|(with_reducible refine X5.neg3 ?_)|(focus ((with_reducible apply X5.last);(focus (k_extra "E"))))|(focus ((with_reducible apply X5.sd);(focus (k_extra "b"));(focus (k_extra "d"))))))  |(focus ((with_reducible show X1 _ _ _ _ _ _ _);first|(focus ((with_reducible apply X1.isiLT);(focus (k_extra "s"));(focus (first|exact Or.inl rfl|exact Or.inr rfl))))|(focus ((with_reducible apply Z1m);(focus (k_extra "s"));(focus (decide));(focus (rfl))))|(focus ((with_reducible apply X1.append);(focus (k_extra "b"));(focus (k_extra "L"))))|(focus ((with_reducible apply BltWP.len_list);(focus (k_extra "E"));(focus (k_extra "L"))))|(focus ((with_reducible apply X1.len_tup);(focus (k_extra "L"))))|(focus ((with_reducible apply X1.pop);(focus (k_extra "b"));(focus (k_extra "L"))))|(focus ((with_reducible apply X1.listOf);(focus (k_extra "E"));(focus (k_extra "L"))))|(with_reducible refine X1.range1 ?_)|(focus ((with_reducible apply X1.max2);(focus (assumption))))))  |(focus ((with_reducible show LpQ _ _ _ _ _ _);first|(with_reducible refine LpQ.n ?_)))  |(with_reducible refine WhQ.n ?_)  |(with_reducible refine WhQ.r ?_)  |(focus ((with_reducible show if _=true then _ else _);first|(focus ((with_reducible apply Br.t);(focus (rfl))))|(focus ((with_reducible apply Br.f);(focus (rfl))))|(focus ((with_reducible apply Br.t);(focus (decide +kernel))))|(focus ((with_reducible apply Br.f);(focus (decide +kernel))))|(focus ((with_reducible apply Br.t);(focus ((simp;done)))))|(focus ((with_reducible apply Br.f);(focus ((simp;done)))))))  |(with_reducible refine Xw.and_cons ?_)  |(with_reducible refine Xw.or_cons ?_)  |(with_reducible refine Xw.and_nil ?_)  |(with_reducible refine Xw.or_nil ?_)  |(with_reducible refine BoolE.one ?_)  |(with_reducible refine BoolE.and ?_)  |(with_reducible refine Ifs.nil ?_)  |(with_reducible refine Ifs.one ?_)  |(with_reducible refine UnWP.neg_int ?_)  |(with_reducible refine UnWP.not ?_)  |(with_reducible refine AsgO.cons ?_)  |(with_reducible refine AsgO.nil ?_)  |(with_reducible refine Prt.none ?_)  |(with_reducible refine Prt.some ?_)  |(with_reducible refine Prs.str ?_)  |(with_reducible refine Prs.nil ?_)  |k_extra "mty"   | (focus ((with_reducible refine' Szs.mk ?_ ?_);(focus (k_extra "msz"))))  |(focus ((with_reducible show Xl _ _ _ _ _);first|(with_reducible refine' Xr.go ?_ ?_;rotate_left;(focus (k_extra "T")))|(focus ((with_reducible apply Xl.mk);(focus (k_extra "b"));(focus (k_extra "b"));(focus (k_extra "d"));(focus (k_extra "g"));(focus (k_extra "g"));(focus (k_extra "g"));(focus (k_extra "g"));(focus ((intro _ q;cases q)))))))  |(focus ((with_reducible show Xj _ _ _ _ _ _ _ _ _ _ _);first|(with_reducible refine LAt.met (name:="make") (f:=284) hK (by with_reducible assumption) (by kernel_rfl!) (fun _=>by kernel_rfl!) ?_)|(with_reducible refine LAt.met (name:="begin") (f:=251) hK (by with_reducible assumption) (by kernel_rfl!) (fun _=>by kernel_rfl!) ?_)|(with_reducible refine LAt.met (name:="go_on") (f:=258) hK (by with_reducible assumption) (by kernel_rfl!) (fun _=>by kernel_rfl!) ?_)|(with_reducible refine LAt.met (name:="call_in") (f:=265) hK (by with_reducible assumption) (by kernel_rfl!) (fun _=>by kernel_rfl!) ?_)|(with_reducible refine LAt.met (name:="send_away") (f:=272) hK (by with_reducible assumption) (by kernel_rfl!) (fun _=>by kernel_rfl!) ?_)|(with_reducible refine LAt.met (name:="do_deed") (f:=277) hK (by with_reducible assumption) (by kernel_rfl!) (fun _=>by kernel_rfl!) ?_)|(with_reducible refine LAt.met (name:="step") (f:=244) hK (by with_reducible assumption) (by kernel_rfl!) (fun _=>by kernel_rfl!) ?_)|(with_reducible refine LAt.met (name:="run") (f:=291) hK (by with_reducible assumption) (by kernel_rfl!) (fun _=>by kernel_rfl!) ?_)|(with_reducible refine LAt.met (name:="send") (f:=237) hK (by with_reducible assumption) (by kernel_rfl!) (fun _=>by kernel_rfl!) ?_)|(with_reducible refine LAt.met (name:="waiting") (f:=298) hK (by with_reducible assumption) (by kernel_rfl!) (fun _=>by kernel_rfl!) ?_)|(with_reducible refine LAt.met (name:="around") (f:=305) hK (by with_reducible assumption) (by kernel_rfl!) (fun _=>by kernel_rfl!) ?_)|(with_reducible refine LAt.met (name:="standing") (f:=312) hK (by with_reducible assumption) (by kernel_rfl!) (fun _=>by kernel_rfl!) ?_)|(with_reducible refine LAt.met (name:="idle") (f:=319) hK (by with_reducible assumption) (by kernel_rfl!) (fun _=>by kernel_rfl!) ?_)|(focus ((with_reducible apply Xj.mk);(focus (k_extra "b"));(focus (k_extra "b"));(focus (k_extra "d"));(focus (k_extra "g"));(focus (k_extra "g"));(focus (k_extra "g"));(focus (k_extra "g"))))))  |(focus ((with_reducible show SAttWP _ _ _ _ _ _);first|(focus ((with_reducible apply SAttWP.mk);(focus (k_extra "b"));(focus (k_extra "b"));(focus (exact Nat.le_of_ble_eq_true rfl));(focus (k_extra "g"));(focus (k_extra "g"));(focus (k_extra "g"));(focus (k_extra "g"));(focus (k_extra "k"))))))  |(focus ((with_reducible refine' Src.enumN ?_ ?_ ?_ ?_);(focus (assumption));rotate_left;(focus (kernel_rfl));(focus (kernel_rfl))))  |(with_reducible refine Src.of ?_)  |(focus ((with_reducible refine' Eqs.mk ?_ ?_);(focus (rfl)))))
 k_with "f"=>(refine' X1.def1 _ (by k_extra "g") (by k_extra "g") (by assumption) (by intro _;with_unfolding_all rfl) (by decide +kernel) (by kernel_rfl!) (by kernel_rfl!) (by rfl) (by rfl) (by rfl) ?_)
 k_with "c"=>(refine' X1.def2 _ _ (by k_extra "g") (by k_extra "g") (by assumption) (by intro _ _;with_unfolding_all rfl) (by decide +kernel) (by kernel_rfl!) (by kernel_rfl!) (by rfl) (by rfl) (by rfl) ?_)
 k_with "i"=>(refine' X1.def3 _ _ _ (by k_extra "g") (by k_extra "g") (by assumption) (by intro _ _ _;with_unfolding_all rfl) (by decide +kernel) (by kernel_rfl!) (by kernel_rfl!) (by rfl) (by rfl) (by rfl) ?_)
 k_with "Y"=>(refine' X1.def4 _ _ _ _ (by k_extra "g") (by k_extra "g") (by assumption) (by intro _ _ _ _;with_unfolding_all rfl) (by decide +kernel) (by kernel_rfl!) (by kernel_rfl!) (by rfl) (by rfl) (by rfl) ?_)
 k_with "Z"=>(refine' X1.def5 _ _ _ _ _ (by k_extra "g") (by k_extra "g") (by assumption) (by intro _ _ _ _ _;with_unfolding_all rfl) (by decide +kernel) (by kernel_rfl!) (by kernel_rfl!) (by rfl) (by rfl) (by rfl) ?_)
 k_with "P"=>(refine' Xz.def1 _ (by k_extra "g") (by k_extra "g") (by assumption) (by intro _;with_unfolding_all rfl) (by decide +kernel) (by kernel_rfl!) (by kernel_rfl!) (by rfl) (by rfl) (by rfl) ?_)
 k_with "I"=>(refine' Xz.def3 _ _ _ (by k_extra "g") (by k_extra "g") (by assumption) (by intro _ _ _;with_unfolding_all rfl) (by decide +kernel) (by kernel_rfl!) (by kernel_rfl!) (by rfl) (by rfl) (by rfl) ?_)
 trivial
structure WAt(σ:X0)(w dx n f:Addr)(near:List Int)(far:List (Int×Int)):Prop where
 hw:σ w=some (.inst 191 dx)
 hd:σ dx=some (.sd [("near",.ref n),("far",.ref f)])
 hn:σ n=some (.list (near.map V.int))
 hf:σ f=some (.list (far.map pv))
 nf:n≠f
theorem WAt.ne:∀{σ:X0}{w dx n f:Addr}{near:List Int}{far:List (Int×Int)}(W:WAt σ w dx n f near far),w≠dx/\w≠n/\w≠f/\dx≠n/\dx≠f:=by
 k_extra "B";intro σ w dx n f near far W;obtain⟨h1,h2,h3,h4,-⟩:=W;refine⟨?_,?_,?_,?_,?_⟩<;>intro e<;>subst e
 ·rw[h1]at h2;cases h2
 ·rw[h1]at h3;cases h3
 ·rw[h1]at h4;cases h4
 ·rw[h2]at h3;cases h3
 ·rw[h2]at h4;cases h4
theorem Z6J(hK:C.K=KL C.w.params){Q:pV}(hr:A.depth+1<recursionLimit)(hh:A.handled=none)(h:∀w dx n f σ',X6 σ σ'->σ w=none->σ dx=none->σ n=none->σ f=none->WAt σ' w dx n f [] []->Q (.ref w) σ'):X1 C A (.ref 191) [] σ Q X:=by
 refine X1.cls (by k_extra "g") (by k_extra "g") (by k_extra "g") fun w dx A1 hw hd hne h1 h2 h3=>?_;have hr1:A1.depth<recursionLimit:=by rw[h2];exact hr
 k_extra "P";intro L A' a1 a2 a3;have hne':dx≠w:=Ne.symm hne;k_extra "M";intro n hn;obtain⟨q1,hn0⟩:=X0.none_ne hn;obtain⟨q2,hn0⟩:=X0.none_ne hn0;k_extra "M";intro f hf;obtain⟨q3,hf0⟩:=X0.none_ne hf;obtain⟨q4,hf0⟩:=X0.none_ne hf0;obtain⟨q5,hf0⟩:=X0.none_ne hf0;obtain⟨q6,hf0⟩:=X0.none_ne hf0;k_extra "M";refine h w dx n f _ ?_ hw hd hn0 hf0 ⟨?_,?_,?_,?_,Ne.symm q4⟩
 ·exact(((((X6.rfl'.upd hd).upd hw).upd hn0).upd hd).upd hf0).upd hd
 ·k_extra "b"
 ·k_extra "b"
 ·simp only[List.map_nil];k_extra "b"
 ·simp only[List.map_nil];k_extra "b"
theorem Z65(hK:C.K=KL C.w.params){w dx n f:Addr}{near:List Int}{far:List (Int×Int)}{x:Int}{Q:pV}(hr:A.depth<recursionLimit)(hh:A.handled=none)(W:WAt σ w dx n f near far)(hz:near.length<=10000)(h:Q .none (σ.upd n (.list ((near++[x]).map V.int)))):X1 C A (.ref 164) [.ref w,.int x] σ Q X:=by
 obtain⟨hw,hd,hn,hf,nf⟩:=W;k_extra "c";intro L A' a1 a2 a3;k_extra "M";show Q V.none _;simpa using h
theorem Z4h(hK:C.K=KL C.w.params){w dx n f:Addr}{near:List Int}{far:List (Int×Int)}{x d:Int}{Q:pV}(hr:A.depth<recursionLimit)(hh:A.handled=none)(W:WAt σ w dx n f near far)(hz:far.length<=10000)(h:Q .none (σ.upd f (.list ((far++[(d,x)]).map pv)))):X1 C A (.ref 171) [.ref w,.int x,.int d] σ Q X:=by
 obtain⟨hw,hd,hn,hf,nf⟩:=W;k_extra "i";intro L A' a1 a2 a3;k_extra "M";show Q V.none _;simpa [pv] using h
theorem Z66(hK:C.K=KL C.w.params){w dx n f:Addr}{near:List Int}{far:List (Int×Int)}{Q:pV}(hr:A.depth<recursionLimit)(hh:A.handled=none)(W:WAt σ w dx n f near far)(hz:near.length<=10000)(hz2:far.length<=10000)(h:∀(a:Addr) (σ':X0) (ps:List (Int×Int)),X6 σ σ'->σ a=none->ps.Perm far->ps.Pairwise (fun p q=>lexlt q p=false)->σ' a=some (.list ((near++ps.map (fun x=>x.2)).map V.int))->Q (.ref a) σ'):X1 C A (.ref 176) [.ref w] σ Q X:=by
 obtain⟨hw,hd,hn,hf,nf⟩:=W;k_extra "f";intro L A' a1 a2 a3;have hh':A'.handled=none:=a1.trans hh;k_extra "M";refine X1.sortedPairs2 (.inl hf) (by(first|lia|omega)) fun s ps hs hp ho=>?_;have hpl:=hp.length_eq;refine⟨_,_,ItV.list hh' (.inl X0.hit),fun L'=>?_⟩;refine Xa.pure (fun z=>true) (fun y=>match y with|.tup [_,b]=>b|_=>.none) (.inl X0.hit) _ _ ?_ ?_ (by simp[sizeLine_eq];(first|lia|omega)) ?_
 ·intro y hy Q hQ;k_extra "M";exact hQ
 ·intro y hy _ Q hQ;obtain⟨p,hp,rfl⟩:=List.mem_map.mp hy;simp only[pv];k_extra "M";exact hQ
 ·intro c hc;obtain⟨q1,hc0⟩:=X0.none_ne hc;have e:([]:List V)++List.map (fun y=>match y with|.tup [_,b]=>b|_=>.none) (List.filter (fun z=>true) (ps.map pv))=(ps.map (fun x=>x.2)).map V.int:=by
   rw[nil_append,List.filter_eq_self.mpr (fun z z=>rfl),map_map,map_map];rfl
  rw[e];refine X9.cat (.inl (by k_extra "b")) (.inl X0.hit) (by simp[sizeLine_eq];(first|lia|omega)) fun a ha=>?_;obtain⟨q2,ha0⟩:=X0.none_ne ha;obtain⟨q3,ha0⟩:=X0.none_ne ha0;refine h a _ ps (((X6.rfl'.upd hs).upd hc0).upd ha0) ha0 hp ho ?_;rw[X0.hit];simp
theorem Zy{α β:Type}(f:α->β):∀(l:List α) (i:Nat),(l.map f).eraseIdx i=(l.eraseIdx i).map f
 | [],_=>rfl
 | _::_,0=>rfl
 | a::l,i+1=>by simp[Zy f l i]
theorem Z2X(p:Int×Int):∀(l:List (Int×Int)),p∈l->(l.map fun q:Int×Int=>PyData.tuple [.int q.1,.int q.2]).findIdx? (fun y=>PyData.eqv y (.tuple [.int p.1,.int p.2]))=some (l.idxOf p)
 | q::l,h=>by
  rw[map_cons,List.findIdx?_cons,List.idxOf_cons];have e:PyData.eqv (.tuple [.int q.1,.int q.2]) (.tuple [.int p.1,.int p.2])=(q==p):=by
   rw[Bool.eq_iff_iff];simp[PyData.eqv,PyData.eqvAll,Prod.ext_iff]
  rw[e]
  cases z:q==p with
  | true=>rfl
  | false=>
   have:p∈l:=by
    rcases List.mem_cons.mp h with w|w
    ·rw[w]at z;simp at z
    ·exact w
   simp[Z2X p l this]
theorem Z78{w dx n f:Addr}{near:List Int}{far:List (Int×Int)}{Q:pV}(hK:C.K=KL C.w.params)(hr:A.depth<recursionLimit)(hh:A.handled=none)(hu:A.units<9000)(W:WAt σ w dx n f near far)(hz:near.length<=10000)(hz2:far.length<=10000)(h1:∀x r,near=x::r->Q (.tup [.int x,.none]) (σ.upd n (.list (r.map V.int))))(h2:near=[]->far=[]->Q .none σ)(h3:near=[]->∀p,p∈far->(∀q∈far,lexlt q p=false)->Q (.tup [.int p.2,.int p.1]) (σ.upd f (.list ((far.erase p).map pv)))):X1 C A (.ref 183) [.ref w] σ Q X:=by
 revert C A σ X w dx n f near far Q;k_extra "q";intro C A σ X w dx n f near far Q hK hr hh hu W hz hz2 h1 h2 h3
 obtain⟨hw,hd,hn,hf,nf⟩:=W;k_extra "f";intro L A' a1 a2 a3;have hh':A'.handled=none:=a1.trans hh;k_extra "M"
 cases near with
 | cons x r=>
  refine Br.t (by simp) ?_;k_extra "M";refine X1.pop_at (j:=0) hn (by decide) (by rw[seqIndex_of (by(first|lia|omega)) (by simp<;>(first|lia|omega))];rfl) rfl (by rw[length_map,sizeLine_eq];(first|lia|omega)) ?_;k_extra "M";exact h1 x r rfl
 | nil=>
  refine Br.f (by simp) ?_;k_extra "M"
  cases far with
  | nil=>
   refine Br.t (by simp) ?_;k_extra "M";exact h2 rfl rfl
  | cons p0 r=>
   refine Br.f (by simp) ?_;k_extra "M";refine X1.minPairs hh' (by rw[a3];simp only[cLine];exact(Np 0x4d5990e07805ac10000002328c8029) hu) (.inl hf) (by simp) fun p hp hmin=>?_;k_extra "M";have hidx:=Z2X p (p0::r) hp;refine X1.remove (d:=.tuple [.int p.1,.int p.2]) hf (.tup (.cons (.int _) (.cons (.int _) .nil))) (DRs.map (g:=fun q:Int×Int=>PyData.tuple [.int q.1,.int q.2]) fun q z=>.tup (.cons (.int _) (.cons (.int _) .nil))) (by simp[PyData.canLay0,PyData.canLayAll0]) (Z5 fun q z=>by simp[PyData.canLay0,PyData.canLayAll0])
    (by rw[a3];simp only[PyData.depth,PyData.depthAll,cLine];exact Y6x hu) (by rw[length_map,sizeLine_eq];exact Y6y hz2) hidx ?_
   simp only[pv];k_extra "M";have e:List.eraseIdx ((p0::r).map pv) ((p0::r).idxOf p)=((p0::r).erase p).map pv:=by
    rw[List.erase_eq_eraseIdx_of_idxOf rfl,Zy]
   rw[e];exact h3 rfl p hp hmin
theorem Z79{w dx n f m:Addr}{near ns:List Int}{far:List (Int×Int)}{Q:pV}(hK:C.K=KL C.w.params)(hr:A.depth<recursionLimit)(hh:A.handled=none)(hu:A.units<9000)(W:WAt σ w dx n f near far)(hm:σ m=some (.list (ns.map V.int)))(hz:near.length<=10000)(hz2:far.length<=10000)(h:∀n' f' σ',(∀b o,b≠dx->σ b=some o->σ' b=some o)->σ n'=none->σ f'=none->WAt σ' w dx n' f' (near.filter fun x=>!ns.contains x) (far.filter fun p=>!ns.contains p.2)->Q .none σ'):X1 C A (.ref 188) [.ref w,.ref m] σ Q X:=by
 revert C A σ X w dx n f m near ns far Q;k_extra "z";intro C A σ X w dx n f m near ns far Q hK hr hh hu W hm hz hz2 h
 obtain⟨n1,n2,n3,n4,n5⟩:=W.ne;obtain⟨hw,hd,hn,hf,nf⟩:=W;have hmd:m≠dx:=fun e=>by rw[e,hd]at hm;cases hm
 have inL:∀{A':Around} {σ':X0} {x:Int} {Q:pV} {X:XP},A'.units=A.units+3->σ' m=some (.list (ns.map V.int))->Q (.bool (!ns.contains x)) σ'->X4 C A' .NotIn (.int x) (.ref m) σ' Q X:=by
  intro A' σ' x Q X hA hm' hQ;refine X4.notInL (ds:=ns.map PyData.int) (.inl hm') (.int _) (DRs.map fun u u=>.int _) (by simp[PyData.canLay0]) (Z5 fun u u=>by simp[PyData.canLay0]) (by rw[hA];simp only[PyData.depth,cLine];exact Y6z hu) ?_;have e:((ns.map PyData.int).any fun y=>PyData.eqv y (.int x))=ns.contains x:=by
   rw[Bool.eq_iff_iff];simp[PyData.eqv]
  rw[e];exact hQ
 k_extra "c";intro L A' a1 a2 a3;have hh':A'.handled=none:=a1.trans hh;k_extra "M";refine⟨_,_,ItV.list hh' (.inl hn),fun L'=>?_⟩;refine Xa.pure (fun y=>match y with|.int x=>!ns.contains x|_=>false) id (.inl hn) _ _ ?_ ?_ (by simp[sizeLine_eq];exact Y6y hz) ?_
 ·intro y hy Q hQ;obtain⟨x,hx,rfl⟩:=List.mem_map.mp hy;k_extra "M";refine inL a3 hm ?_;k_extra "M";exact hQ
 ·intro y hy _ Q hQ;k_extra "M";exact hQ
 intro n' hn';have e1:([]:List V)++List.map id (List.filter (fun y=>match y with|.int x=>!ns.contains x|_=>false) (near.map V.int))=(near.filter fun x=>!ns.contains x).map V.int:=by
  rw[nil_append,map_id,filter_map];rfl
 rw[e1];k_extra "M";have hf1:((σ.upd n' (.list ((near.filter fun x=>!ns.contains x).map V.int))).upd dx (.sd [("near",.ref n'),("far",.ref f)])) f=some (.list (far.map pv)):=by k_extra "b"
 have hm1:((σ.upd n' (.list ((near.filter fun x=>!ns.contains x).map V.int))).upd dx (.sd [("near",.ref n'),("far",.ref f)])) m=some (.list (ns.map V.int)):=by k_extra "b"
 refine⟨_,_,ItV.list hh' (.inl hf1),fun L'=>?_⟩;refine Xa.pure (fun y=>match y with|.tup [_,.int x]=>!ns.contains x|_=>false) id (.inl hf1) _ _ ?_ ?_ (by simp[sizeLine_eq];exact Y6y hz2) ?_
 ·intro y hy Q hQ;obtain⟨x,hx,rfl⟩:=List.mem_map.mp hy;simp only[pv];k_extra "M";refine inL a3 hm1 ?_;k_extra "M";exact hQ
 ·intro y hy _ Q hQ;k_extra "M";exact hQ
 intro f' hf';have e2:([]:List V)++List.map id (List.filter (fun y=>match y with|.tup [_,.int x]=>!ns.contains x|_=>false) (far.map pv))=(far.filter fun p=>!ns.contains p.2).map pv:=by
  rw[nil_append,map_id,filter_map];rfl
 rw[e2];obtain⟨q1,hf0⟩:=X0.none_ne hf';obtain⟨q2,hf0⟩:=X0.none_ne hf0;have q3:n'≠dx:=fun e=>by rw[e,hd]at hn';cases hn'
 k_extra "M";refine h n' f' _ (fun b o hb e=>?_) hn' hf0 ⟨?_,?_,?_,?_,Ne.symm q2⟩
 ·rw[X0.miss hb (X0.miss (fun q=>by rw[q,hf0]at e;cases e) (X0.miss hb (X0.miss (fun q=>by rw[q,hn']at e;cases e) e)))]
 ·k_extra "b"
 ·k_extra "b"
 ·k_extra "b"
 ·k_extra "b"
structure Hd where
 name:Str
 rank:Int
 hears:Str
 once:Bool
 deeds:V
noncomputable def hv(h:Hd):V:=.tup [.str h.name,.int h.rank,.str h.hears,.bool h.once,h.deeds]
noncomputable def hdOf(hs:List Hd)(n:Str):Option Hd:=hs.find? fun h=>h.name==n
noncomputable def rk(hs:List Hd)(n:Str):Int:=((hdOf hs n).map (fun x=>x.rank)).getD 0
noncomputable def hrs(hs:List Hd)(n:Str):Str:=((hdOf hs n).map (fun x=>x.hears)).getD Str.empty
noncomputable def Z8(hs:List Hd)(ns:List Str)(w:Str):List Str:=ns.filter fun n=>(hrs hs n==ofString "")||(hrs hs n==w)
noncomputable def Xu(hs:List Hd)(ns:List Str)(w:Str)(out:List Str):Prop:=∃p:List Nat,p.Perm (List.range (Z8 hs ns w).length)/\p.Pairwise (slt fun i j=>decide (rk hs ((Z8 hs ns w).getD i Str.empty)<rk hs ((Z8 hs ns w).getD j Str.empty)))/\out=p.map fun i=>(Z8 hs ns w).getD i Str.empty
theorem Z3E:∀{hs:List Hd} {h:Hd},(hs.map (fun x=>x.name)).Nodup->h∈hs->hdOf hs h.name=some h
 | k::hs,h,nd,hm=>by
  simp only[map_cons,List.nodup_cons]at nd;unfold hdOf;rcases List.mem_cons.mp hm with rfl|hm
  ·simp
  ·have:(k.name==h.name)=false:=by
    rw[beq_eq_false_iff_ne];exact fun e=>nd.1 (by rw[e];exact mem_map_of_mem hm)
   rw[List.find?_cons,this];exact Z3E nd.2 hm
theorem Z4i:∀{hs:List Hd} {n:Str},n∈hs.map (fun x=>x.name)->∃h,h∈hs/\h.name=n/\hdOf hs n=some h/\sget (hs.map fun h=>(h.name,hv h)) n=some (hv h)
 | k::hs,n,hm=>by
  by_cases q:k.name=n
  ·exact⟨k,.head _,q,by simp[hdOf,q],by simp[sget,q]⟩
  ·rw[map_cons]at hm;rcases List.mem_cons.mp hm with e|hm
   ·exact absurd e.symm q
   ·obtain⟨h,h1,h2,h3,h4⟩:=Z4i hm;have q':(k.name==n)=false:=beq_eq_false_iff_ne.mpr q;refine⟨h,.tail _ h1,h2,by unfold hdOf;rw[List.find?_cons,q'];exact h3,?_⟩;unfold sget at h4 ⊢;simp only[map_cons,List.find?_cons,q,decide_false];exact h4
theorem Z3F:∀{hs:List Hd} {h:Hd},h.name∉hs.map (fun x=>x.name)->sput (hs.map fun h=>(h.name,hv h)) h.name (hv h)=(hs++[h]).map fun h=>(h.name,hv h)
 | [],h,_=>rfl
 | k::hs,h,hn=>by
  simp only[map_cons,List.mem_cons,not_or]at hn;simp only[map_cons,List.cons_append,sput,hn.1,if_false];exact congrArg _ (Z3F hn.2)
theorem Z1p(a b:Str):(a==b)=(b==a):=by
 rw[Bool.eq_iff_iff];simp only[beq_iff_eq];exact⟨Eq.symm,Eq.symm⟩
theorem X4.inT2{x a b:Str}{Q:pV}(hu:A.units<9000)(hx:PyData.strOk x=true)(ha:PyData.strOk a=true)(hb:PyData.strOk b=true)(h:Q (.bool ((a==x)||(b==x))) σ):X4 C A .In (.str x) (.tup [.str a,.str b]) σ Q X:=by
 refine X4.inT (d:=.str x) (ds:=[.str a,.str b]) (.str _) (.cons (.str _) (.cons (.str _) .nil)) (by simpa [PyData.canLay0] using hx) (by simp[PyData.canLayAll0,PyData.canLay0,ha,hb]) (by simp only[PyData.depthAll,PyData.depth,cLine];exact Y6A hu) ?_;have e:([PyData.str a,PyData.str b].any fun y=>PyData.eqv y (.str x))=((a==x)||(b==x)):=by simp[PyData.eqv]
 rw[e];exact h
set_option tactic.hygienic true in
theorem Z5m{hl nl:Addr}{hs:List Hd}{ns:List Str}{w:Str}{Q:pV}(hK:C.K=KL C.w.params)(hB:BMod C)(Cd:CodeHd C.h₀ 142 140)(hr:A.depth+1<recursionLimit)(hh:A.handled=none)(hu:A.units<8000)(hP:σ 140=some (.tab ⟨85,29,85,58⟩ (ofString "hearers" ++ ofString ".<locals>." ++ ofString "<lambda>")))(h1:σ hl=some (.list (hs.map hv)))(h2:σ nl=some (.list (ns.map V.str)))(nd:(hs.map (fun x=>x.name)).Nodup)(hsub:∀n∈ns,n∈hs.map (fun x=>x.name))(hz:hs.length<=60)(hz2:ns.length<64)(hok:∀h∈hs,PyData.strOk h.hears=true)(hw:PyData.strOk w=true)(h:∀(a:Addr) (σ':X0) (out:List Str),X6 σ σ'->σ a=none->Xu hs ns w out->σ' a=some (.list (out.map V.str))->Q (.ref a) σ'):X1 C A (.ref 143) [.ref hl,.ref nl,.str w] σ Q X:=by
 revert C A σ X hl nl hs ns w Q;k_extra "t";intro C A σ X hl nl hs ns w Q hK hB Cd hr hh hu hP h1 h2 nd hsub hz hz2 hok hw h
 have hr0:A.depth<recursionLimit:=by exact Y37 hr
 k_extra "i";intro L A' a1 a2 a3;have hh':A'.handled=none:=a1.trans hh;have hr':A'.depth<recursionLimit:=by rw[a2];exact hr
 have hu':A'.units<9000:=by rw[a3];exact(Np 0x8ca323c02c10000001f40c8029) hu
 k_extra "M";refine Ev.dict0 fun d hd=>?_;k_extra "M";refine⟨_,_,ItV.list hh' (.inl (X0.at_fresh hd h1)),?_⟩;refine Xi.invJ hv (fun rest ρ σ1=>∃done,done++rest=hs/\X6 σ σ1/\σ1 d=some (.sd (done.map fun h=>(h.name,hv h)))/\ρ.get "by_name" = some (.ref d)/\ρ.get "names" = some (.ref nl)/\ρ.get "word" = some (.str w)) ?_ ?_ _ _ _ ⟨[],rfl,X6.rfl'.upd hd,X0.hit,by k_extra "a",by k_extra "a",by k_extra "a"⟩
 ·intro J x rest hN _ _ ρ σ1;refine ZQ fun done e g gd r1 r2 r3=>?_;have hnew:x.name∉done.map (fun x=>x.name):=by
   rw[<-e,map_append,List.nodup_append]at nd;exact fun hm=>nd.2.2 _ hm _ (by simp) rfl
  have hlen:done.length<=60:=by rw[<-e]at hz;simp at hz;exact Y6C hz
  simp only[hv];k_extra "M";refine Xb.sd gd (by simp only[length_map,sizeLine_eq];exact Y6D hlen) ?_;have e2:=Z3F hnew;simp only[hv]at e2 ⊢;rw[e2];k_extra "M";refine hN _ _ (.inl ?_) ⟨done++[x],by rw[<-e];simp,g.upd hd,X0.hit,by k_extra "a",by k_extra "a",by k_extra "a"⟩;exact(g.upd hd) _ _ h1
 intro ρ σ1;refine ZQ fun done e g gd r1 r2 r3=>?_;rw[append_nil]at e;subst e;have h2':=g _ _ h2;k_extra "M";refine⟨_,_,ItV.list hh' (.inl h2'),fun L'=>?_⟩;have look:∀n∈ns,∃x,x∈done/\hdOf done n=some x/\sget (done.map fun h=>(h.name,hv h)) n=some (.tup [.str x.name,.int x.rank,.str x.hears,.bool x.once,x.deeds]):=fun n hn=>by
  obtain⟨x,x1,x2,x3,x4⟩:=Z4i (hsub n hn);exact⟨x,x1,x3,x4⟩
 refine Xa.pure (fun y=>match y with|.str n=>(hrs done n==ofString "")||(hrs done n==w)|_=>false) id (.inl h2') _ _ ?_ ?_ (by simp[sizeLine_eq];exact(Np 0x80000064000000000040c8029) hz2) ?_
 ·intro y hy Q hQ;obtain⟨n,hn,rfl⟩:=List.mem_map.mp hy;obtain⟨x,x1,x3,x4⟩:=look n hn;k_extra "M";refine X4.inT2 hu' (hok x x1) (Z0 _) hw ?_;k_extra "M";have e3:hrs done n=x.hears:=by unfold hrs;rw[x3];rfl
  have e4:((ofString "" == x.hears)||(w==x.hears))=((hrs done n==ofString "")||(hrs done n==w)):=by
   rw[e3,Z1p (ofString "") x.hears,Z1p w x.hears]
  rw[e4];exact hQ
 ·intro y hy _ Q hQ;k_extra "M";exact hQ
 intro fa hfa;have ef:([]:List V)++List.map id (List.filter (fun y=>match y with|.str n=>(hrs done n==ofString "")||(hrs done n==w)|_=>false) (ns.map V.str))=(Z8 done ns w).map V.str:=by
  rw[nil_append,map_id,filter_map];rfl
 rw[ef];k_extra "M";refine Ev.sortLam Cd hB hr' (by decide +kernel) (by k_extra "g") (by k_extra "y") rfl (fun u u u u u=>rfl) rfl rfl rfl (by decide +kernel) (by decide +kernel) (by kernel_rfl) (by kernel_rfl) (by kernel_rfl) ?_;k_extra "M";have hfl:(Z8 done ns w).length<=ns.length:=List.length_filter_le ..;refine⟨fa,_,(fun v=>match v with|.str n=>rk done n|_=>0),rfl,.inl X0.hit,by simp;exact(Nq 0x206421004090000000040c8029) hz2 hfl,X0.at_fresh hfa (g _ _ hP),?_,?_⟩
 ·intro x hx L2 f2 cdv A2 b1 b2;obtain⟨n,hn,rfl⟩:=List.mem_map.mp hx;obtain⟨x,x1,x3,x4⟩:=look n (List.mem_filter.mp hn).1;k_extra "M";exact⟨rfl,by simp[rk,x3]⟩
 ·intro a p ha hp hs;obtain⟨q1,ha0⟩:=X0.none_ne ha;have e5:∀i,((Z8 done ns w).map V.str).getD i V.none=if i<(Z8 done ns w).length then V.str ((Z8 done ns w).getD i Str.empty) else V.none:=fun i=>by
   split
   ·rename_i hi;simp[hi]
   ·rename_i hi;simp[Nat.le_of_not_lt hi]
  have hb:∀i∈p,i<(Z8 done ns w).length:=fun i hi=>by simpa using hp.mem_iff.mp hi
  refine h a _ (p.map fun i=>(Z8 done ns w).getD i Str.empty) ((g.upd (g.none hfa)).upd (g.none ha0)) (g.none ha0) ⟨p,by simpa using hp,?_,rfl⟩ ?_
  ·refine hs.imp_of_mem fun{i j} hi hj z=>?_;unfold slt at z ⊢;dsimp only at z ⊢;rw[e5,e5,if_pos (hb i hi),if_pos (hb j hj)]at z;exact z
  ·rw[X0.hit,map_map]
   congr 2
   refine List.map_congr_left fun i hi=>?_;rw[e5,if_pos (hb i hi)];rfl
inductive Deed where
 | now (w:Str)|soon (w:Str)|wait (t:Int) (w:Str)|cancel (w:Str)|join (n:Str)|leave (n:Str)|hush
noncomputable def Deed.v:Deed->V
 | .now w=>.tup [.str (ofString "now"),.str w]
 | .soon w=>.tup [.str (ofString "soon"),.str w]
 | .wait t w=>.tup [.str (ofString "wait"),.int t,.str w]
 | .cancel w=>.tup [.str (ofString "cancel"),.str w]
 | .join n=>.tup [.str (ofString "join"),.str n]
 | .leave n=>.tup [.str (ofString "leave"),.str n]
 | .hush=>.tup [.str (ofString "hush")]
structure Hn where
 name:Str
 rank:Int
 hears:Str
 once:Bool
 ds:List Deed
noncomputable def Hn.hd(h:Hn):Hd:=⟨h.name,h.rank,h.hears,h.once,.tup (h.ds.map Deed.v)⟩
noncomputable def optV:Option Int->V
 | none=>.none
 | some n=>.int n
structure Evt where
 word:Str
 maker:Option Int
 road:Str
 due:Int
noncomputable def Evt.v(e:Evt):V:=.tup [.str e.word,optV e.maker,.str e.road,.int e.due]
inductive Row where
 | send (n:Int)|beg (n t:Int)|fin (n:Int)|call (n:Int) (h:Str)|cancel (n:Int) (ns:List Int)|join (n:Int) (h:Str)|leave (n:Int) (h:Str)|hush (n:Int)|make (m n:Int)
noncomputable def Row.v:Row->V
 | .send n=>.tup [.str (ofString "send"),.int n]
 | .beg n t=>.tup [.str (ofString "begin"),.int n,.int t]
 | .fin n=>.tup [.str (ofString "end"),.int n]
 | .call n h=>.tup [.str (ofString "call"),.int n,.str h]
 | .cancel n ns=>.tup [.str (ofString "cancel"),.int n,.tup (ns.map V.int)]
 | .join n h=>.tup [.str (ofString "join"),.int n,.str h]
 | .leave n h=>.tup [.str (ofString "leave"),.int n,.str h]
 | .hush n=>.tup [.str (ofString "hush"),.int n]
 | .make m n=>.tup [.str (ofString "make"),.int m,.int n]
structure Frm where
 num:Int
 calls:List Str
 deeds:List Deed
structure LS where
 posts:List Str
 time:Int
 events:List Evt
 log:List Row
 near:List Int
 far:List (Int×Int)
 frames:List Frm
 fresh:Option Int
structure LA where
 lo:Addr
 d:Addr
 ca:Addr
 po:Addr
 ev:Addr
 lg:Addr
 wa:Addr
 wd:Addr
 ne:Addr
 fa:Addr
 fr:Addr
structure FA where
 f:Addr
 d:Addr
 c:Addr
 e:Addr
theorem Z7N:Nonempty Deed:=⟨.hush⟩
theorem Z7O:Nonempty Hn:=⟨⟨default,0,default,false,[]⟩⟩
theorem Z7P:Nonempty Evt:=⟨⟨default,none,default,0⟩⟩
theorem Z7Q:Nonempty Row:=⟨.send 0⟩
theorem Z7R:Nonempty Frm:=⟨⟨0,[],[]⟩⟩
theorem Z7S:Nonempty LS:=⟨⟨[],0,[],[],[],[],[],none⟩⟩
theorem Z7T:Nonempty LA:=⟨⟨0,0,0,0,0,0,0,0,0,0,0⟩⟩
theorem Z7U:Nonempty FA:=⟨⟨0,0,0,0⟩⟩
abbrev lamQ:Str:=ofString "hearers" ++ ofString ".<locals>." ++ ofString "<lambda>"
abbrev tabE:Addr×O:=(140,.tab ⟨85,29,85,58⟩ lamQ)
noncomputable def fpF:List FA->List Frm->List (Addr×O)
 | f::fs,r::rs=>(f.f,.inst 212 f.d)::(f.d,.sd [("number",.int r.num),("calls",.ref f.c),("deeds",.ref f.e)])::(f.c,.list (r.calls.map V.str))::(f.e,.list (r.deeds.map Deed.v))::fpF fs rs
 | _,_=>[]
noncomputable def fp(a:LA)(fs:List FA)(ct1:List Hn)(s:LS):lO:=
 (a.lo,.inst 322 a.d) ::
 (a.d,.sd [("cast",.ref a.ca),("posts",.ref a.po),("time",.int s.time),("events",.ref a.ev),("log",.ref a.lg),("waits",.ref a.wa),("frames",.ref a.fr),("fresh",optV s.fresh)]) ::
 (a.ca,.list ((ct1.map Hn.hd).map hv)) ::
 (a.po,.list (s.posts.map V.str)) ::
 (a.ev,.list (s.events.map Evt.v)) ::
 (a.lg,.list (s.log.map Row.v)) ::
 (a.wa,.inst 191 a.wd) ::
 (a.wd,.sd [("near",.ref a.ne),("far",.ref a.fa)]) ::
 (a.ne,.list (s.near.map V.int)) ::
 (a.fa,.list (s.far.map pv)) ::
 (a.fr,.list ((fs.map fun f=>V.ref f.f).reverse)) ::
 fpF fs s.frames
structure LAt(σ:X0)(a:LA)(fs:List FA)(ct1:List Hn)(s:LS)(rest:lO):Prop where
 led:Led σ (tabE::(fp a fs ct1 s++rest))
 len:fs.length=s.frames.length
section
variable {a:LA} {fs:List FA} {ct1:List Hn} {s:LS} {rest:lO}
theorem LAt.wat(L:LAt σ a fs ct1 s rest):WAt σ a.wa a.wd a.ne a.fa s.near s.far:=
 ⟨L.led.get 7 rfl,L.led.get 8 rfl,L.led.get 9 rfl,L.led.get 10 rfl,L.led.ne 9 10 rfl rfl (by decide)⟩
theorem LAt.grow{σ':X0}(L:LAt σ a fs ct1 s rest)(g:X6 σ σ'):LAt σ' a fs ct1 s rest:=⟨L.led.grow g,L.len⟩
theorem LAt.log(L:LAt σ a fs ct1 s rest)(r:Row):LAt (σ.upd a.lg (.list ((s.log++[r]).map Row.v))) a fs ct1 { s with log:=s.log++[r] } rest:=⟨L.led.set 6 _ rfl,L.len⟩
theorem LAt.logA(L:LAt σ a fs ct1 s rest)(r:Row):LAt (σ.upd a.lg (.list (s.log.map Row.v++[r.v]))) a fs ct1 { s with log:=s.log++[r] } rest:=by
 have h:=L.log r;rw[map_append]at h;exact h
theorem LAt.eventsA(L:LAt σ a fs ct1 s rest)(e:Evt):LAt (σ.upd a.ev (.list (s.events.map Evt.v++[e.v]))) a fs ct1 { s with events:=s.events++[e] } rest:=by
 have h:LAt (σ.upd a.ev (.list ((s.events++[e]).map Evt.v))) a fs ct1 { s with events:=s.events++[e] } rest:=⟨L.led.set 5 _ rfl,L.len⟩;rw[map_append]at h;exact h
theorem LAt.posts(L:LAt σ a fs ct1 s rest)(ps:List Str):LAt (σ.upd a.po (.list (ps.map V.str))) a fs ct1 { s with posts:=ps } rest:=⟨L.led.set 4 _ rfl,L.len⟩
theorem LAt.near(L:LAt σ a fs ct1 s rest)(ns:List Int):LAt (σ.upd a.ne (.list (ns.map V.int))) a fs ct1 { s with near:=ns } rest:=⟨L.led.set 9 _ rfl,L.len⟩
theorem LAt.far(L:LAt σ a fs ct1 s rest)(ps:List (Int×Int)):LAt (σ.upd a.fa (.list (ps.map pv))) a fs ct1 { s with far:=ps } rest:=⟨L.led.set 10 _ rfl,L.len⟩
theorem LAt.time(L:LAt σ a fs ct1 s rest)(t:Int):LAt (σ.upd a.d (.sd [("cast",.ref a.ca),("posts",.ref a.po),("time",.int t),("events",.ref a.ev),("log",.ref a.lg),("waits",.ref a.wa),("frames",.ref a.fr),("fresh",optV s.fresh)])) a fs ct1 { s with time:=t } rest:=⟨L.led.set 2 _ rfl,L.len⟩
theorem LAt.fresh(L:LAt σ a fs ct1 s rest)(f:Option Int):LAt (σ.upd a.d (.sd [("cast",.ref a.ca),("posts",.ref a.po),("time",.int s.time),("events",.ref a.ev),("log",.ref a.lg),("waits",.ref a.wa),("frames",.ref a.fr),("fresh",optV f)])) a fs ct1 { s with fresh:=f } rest:=⟨L.led.set 2 _ rfl,L.len⟩
end
noncomputable def attOk(K:Frag)(c:Addr)(name:Str):Bool:=plainGet K c name&&hasDictIn K c&&(match findIn K (.ref c) name with|some attr=>noGet K attr|none=>false)
theorem ZZ{c:Addr}{name:Str}{a dx:Addr}{es:List (Str×V)}{y:V}(hK:C.K=KL C.w.params)(h1:σ a=some (.inst c dx))(h2:σ dx=some (.sd es))(h3:sget es name=some y)(hc:∀P,attOk (KL P) c name=true)(k5:∀i,y≠.blt i):Xr C (.ref a) name σ y:=by
 have h:=hc C.w.params;rw[<-hK]at h;unfold attOk at h
 cases e:findIn C.K (.ref c) name with
 | none=>rw[e]at h;simp at h
 | some attr=>
  rw[e]at h;simp only[Bool.and_eq_true]at h;exact Xr.mk h1 h2 h3 h.1.1 h.1.2 e h.2 k5
noncomputable def metOk(K:Frag)(c:Addr)(name:Str)(f:Addr):Bool:=plainGet K c name&&(findIn K (.ref c) name==some (some (.ref f)))&&isFn K (.ref f)&&keepIn K (.ref f)
theorem Z7a{c:Addr}{name:Str}{a dx f:Addr}{es:List (Str×V)}{env:Env}{pos:Pos}{args:List Expr}{ρ:Rho}{Q:pV}(hK:C.K=KL C.w.params)(h1:σ a=some (.inst c dx))(h2:σ dx=some (.sd es))(h3:sget es name=none)(hc:∀P,metOk (KL P) c name f=true)(h:Ags C A env pos args ρ σ (fun xs σ2=>X1 C A (.ref f) (.ref a::xs) σ2 Q X) X):Xj C A env pos args ρ (.ref a) name σ Q X:=by
 have h':=hc C.w.params;rw[<-hK]at h';unfold metOk at h';simp only[Bool.and_eq_true,beq_iff_eq]at h';exact Xj.mk h1 h2 h3 h'.1.1.1 h'.1.1.2 h'.1.2 h'.2 h
section
variable {a:LA} {fs:List FA} {ct1:List Hn} {s:LS} {rest:lO}
theorem LAt.aCast(hK:C.K=KL C.w.params)(L:LAt σ a fs ct1 s rest):Xr C (.ref a.lo) "cast" σ (.ref a.ca):=ZZ hK (L.led.get 1 rfl) (L.led.get 2 rfl) (by k_extra "d") (fun z=>by kernel_rfl) (by intro _ q;cases q)
theorem LAt.aPosts(hK:C.K=KL C.w.params)(L:LAt σ a fs ct1 s rest):Xr C (.ref a.lo) "posts" σ (.ref a.po):=ZZ hK (L.led.get 1 rfl) (L.led.get 2 rfl) (by k_extra "d") (fun z=>by kernel_rfl) (by intro _ q;cases q)
theorem LAt.aTime(hK:C.K=KL C.w.params)(L:LAt σ a fs ct1 s rest):Xr C (.ref a.lo) "time" σ (.int s.time):=ZZ hK (L.led.get 1 rfl) (L.led.get 2 rfl) (by k_extra "d") (fun z=>by kernel_rfl) (by intro _ q;cases q)
theorem LAt.aEvents(hK:C.K=KL C.w.params)(L:LAt σ a fs ct1 s rest):Xr C (.ref a.lo) "events" σ (.ref a.ev):=ZZ hK (L.led.get 1 rfl) (L.led.get 2 rfl) (by k_extra "d") (fun z=>by kernel_rfl) (by intro _ q;cases q)
theorem LAt.aLog(hK:C.K=KL C.w.params)(L:LAt σ a fs ct1 s rest):Xr C (.ref a.lo) "log" σ (.ref a.lg):=ZZ hK (L.led.get 1 rfl) (L.led.get 2 rfl) (by k_extra "d") (fun z=>by kernel_rfl) (by intro _ q;cases q)
theorem LAt.aWaits(hK:C.K=KL C.w.params)(L:LAt σ a fs ct1 s rest):Xr C (.ref a.lo) "waits" σ (.ref a.wa):=ZZ hK (L.led.get 1 rfl) (L.led.get 2 rfl) (by k_extra "d") (fun z=>by kernel_rfl) (by intro _ q;cases q)
theorem LAt.aFrames(hK:C.K=KL C.w.params)(L:LAt σ a fs ct1 s rest):Xr C (.ref a.lo) "frames" σ (.ref a.fr):=ZZ hK (L.led.get 1 rfl) (L.led.get 2 rfl) (by k_extra "d") (fun z=>by kernel_rfl) (by intro _ q;cases q)
noncomputable def loomN:List Str:=["cast","posts","time","events","log","waits","frames","fresh"]
theorem Z67{es:List (Str×V)}{x:Str}{ns:List Str}(e:es.map (fun x=>x.1)=ns)(h:ns.contains x=false):sget es x=none:=by
 subst e;unfold sget;rw[Option.map_eq_none_iff,List.find?_eq_none];intro p hp;simp only[List.contains_eq_mem,decide_eq_false_iff_not]at h;simp only[decide_eq_true_eq];exact fun q=>h (q▸mem_map_of_mem hp)
theorem LAt.met{name:Str}{f:Addr}{env:Env}{pos:Pos}{args:List Expr}{ρ:Rho}{Q:pV}(hK:C.K=KL C.w.params)(L:LAt σ a fs ct1 s rest)(hn:loomN.contains name=false)(hc:∀P,metOk (KL P) 322 name f=true)(h:Ags C A env pos args ρ σ (fun xs σ2=>X1 C A (.ref f) (.ref a.lo::xs) σ2 Q X) X):Xj C A env pos args ρ (.ref a.lo) name σ Q X:=Z7a hK (L.led.get 1 rfl) (L.led.get 2 rfl) (Z67 rfl hn) hc h
theorem LAt.metP{name:Str}{f:Addr}(hK:C.K=KL C.w.params)(L:LAt σ a fs ct1 s rest)(hn:loomN.contains name=false)(hc:∀P,metOk (KL P) 322 name f=true):MetP C σ a.lo name f:=fun z z z z z z z h=>LAt.met hK L hn hc h
end
section
variable {σ:X0} {a:LA} {fs:List FA} {ct1:List Hn} {s:LS} {rest:lO}
theorem LAt.g1(L:LAt σ a fs ct1 s rest):σ a.lo=some (.inst 322 a.d):=L.led.get 1 rfl
theorem LAt.g5(L:LAt σ a fs ct1 s rest):σ a.ev=some (.list (s.events.map Evt.v)):=L.led.get 5 rfl
theorem LAt.g6(L:LAt σ a fs ct1 s rest):σ a.lg=some (.list (s.log.map Row.v)):=L.led.get 6 rfl
theorem LAt.g7(L:LAt σ a fs ct1 s rest):σ a.wa=some (.inst 191 a.wd):=L.led.get 7 rfl
theorem LAt.g8(L:LAt σ a fs ct1 s rest):σ a.wd=some (.sd [("near",.ref a.ne),("far",.ref a.fa)]):=L.led.get 8 rfl
end
section
variable {a:LA} {fs:List FA} {ct1:List Hn} {s:LS} {rest:lO}
theorem LAt.new(L:LAt σ a fs ct1 s rest){x:Addr}(o:O)(hx:σ x=none):LAt (σ.upd x o) a fs ct1 s ((x,o)::rest):=⟨(L.led.new o hx).perm (List.perm_middle (l₁:=tabE::fp a fs ct1 s)),L.len⟩
theorem LAt.add{σ':X0}(L:LAt σ a fs ct1 s rest)(g:X6 σ σ'){x:Addr}{o:O}(hx:σ x=none)(h:σ' x=some o):LAt σ' a fs ct1 s ((x,o)::rest):=⟨(L.led.add g hx h).perm (List.perm_middle (l₁:=tabE::fp a fs ct1 s)),L.len⟩
theorem LAt.drop{p:Addr×O}(L:LAt σ a fs ct1 s (p::rest)):LAt σ a fs ct1 s rest:=⟨L.led.sub (((List.Sublist.refl (fp a fs ct1 s)).append ((List.Sublist.refl rest).cons p)).cons_cons tabE),L.len⟩
theorem LAt.permR{r2:lO}(L:LAt σ a fs ct1 s rest)(h:r2.Perm rest):LAt σ a fs ct1 s r2:=⟨L.led.perm ((List.Perm.append_left (fp a fs ct1 s) h).cons tabE),L.len⟩
theorem LAt.getR(L:LAt σ a fs ct1 s rest)(n:Nat){x:Addr}{o:O}(h:rest[n]?=some (x,o)):σ x=some o:=L.led.at_ (x,o) (.tail _ (mem_append_right _ (List.mem_of_getElem? h)))
end
theorem Z2P(hK:C.K=KL C.w.params){x:V}{t:Ty}{Q:pV}(hr:A.depth<recursionLimit)(ht:Xe C σ x t)(h:Q (.bool (isiB t "int" && !isiB t "bool")) σ):X1 C A (.ref 101) [x] σ Q X:=by
 k_extra "f";intro L A' a1 a2 a3;k_extra "M";refine Z1m ht (by decide) rfl ?_;k_extra "m"
 cases q:isiB t "int" with
 | false=>
  rw[q]at h;k_extra "M";exact h
 | true=>
  rw[q]at h;k_extra "M";refine Z1m ht (by decide) rfl ?_;k_extra "M";exact h
noncomputable def okS(x:Str):Bool:=(x.cps.toList.map fun c=>inS (ofString "abcdefghijklmnopqrstuvwxyz") ⟨#[c]⟩).all id
noncomputable def isW(x:Str):Bool:=(decide (1<=x.length)&&decide (x.length<=12))&&okS x
noncomputable def Z6s:V->V
 | .str c=>.bool (inS (ofString "abcdefghijklmnopqrstuvwxyz") c)
 | _=>.none
theorem Z5n{x:Str}:([]:List V)++List.map Z6s (List.filter (fun z=>true) (ZF x))=(x.cps.toList.map fun c=>inS (ofString "abcdefghijklmnopqrstuvwxyz") ⟨#[c]⟩).map V.bool:=by
 rw[nil_append,List.filter_eq_self.mpr (fun z z=>rfl),ZF,map_map,map_map];rfl
theorem Z2w{x:Str}{Q:pV}(hK:C.K=KL C.w.params)(hr:A.depth<recursionLimit)(hh:A.handled=none)(hz:x.length<=1000)(h:∀σ',X6 σ σ'->Q (.bool (isW x)) σ'):X1 C A (.ref 106) [.str x] σ Q X:=by
 revert C A σ X x Q;k_extra "O";intro C A σ X x Q hK hr hh hz h
 k_extra "f";intro L A' a1 a2 a3;have hh':A'.handled=none:=a1.trans hh;k_extra "M";refine X1.len_str (by exact Y6F hz) ?_;k_extra "M"
 by_cases q1:1<=x.length
 ·refine Br.t (by simp;exact(Np 0x1c0e0600e009) q1) ?_;k_extra "M"
  by_cases q2:x.length<=12
  ·have e:isW x=okS x:=by simp[isW,q1,q2]
   rw[e]at h;refine Br.f (by simp;exact(Np 0x1980706cc0009) q2) ?_;k_extra "M";refine⟨_,_,ItV.str hh',fun L'=>?_⟩;refine Xa.pure (fun z=>true) Z6s trivial _ _ ?_ ?_ (by simp[ZF,sizeLine_eq];simp only[Str.length]at hz;exact Y6I hz) ?_
   ·intro y hy Q hQ;k_extra "M";exact hQ
   ·intro y hy _ Q hQ;obtain⟨c,hc,rfl⟩:=List.mem_map.mp hy;k_extra "M";exact hQ
   intro a ha;rw[Z5n];k_extra "M";refine X1.all hh' (.inl X0.hit) ?_;k_extra "M";exact h _ (X6.rfl'.fresh ha)
  ·have e:isW x=false:=by simp[isW,q2]
   rw[e]at h;refine Br.t (by simp;exact(Np 0x38cc1198000c9) q2) ?_;k_extra "M";exact h _ X6.rfl'
 ·have e:isW x=false:=by simp[isW,q1]
  rw[e]at h;refine Br.f (by simp;exact(Np 0x700e1001c00c9) q1) ?_;k_extra "M";exact h _ X6.rfl'
theorem Z7b(hK:C.K=KL C.w.params){x:Str}{Q:pV}(hr:A.depth+1<recursionLimit)(hh:A.handled=none)(hz:x.length<=1000)(hx:isW x=true)(h:∀σ',X6 σ σ'->Q (.str x) σ'):X1 C A (.ref 113) [.str x] σ Q X:=by
 have hr1:A.depth<recursionLimit:=by exact Y37 hr
 k_extra "f";intro L A' a1 a2 a3;have hh':A'.handled=none:=a1.trans hh;have hr':A'.depth<recursionLimit:=by exact Y6L hr a2
 k_extra "M";refine Z2w hK hr' hh' hz fun σ' g=>?_;rw[hx];k_extra "M";exact h _ g
structure LS.Small(s:LS):Prop where
 po:s.posts.length<=60
 ev:s.events.length<=9000
 lg:s.log.length<=9000
 ne:s.near.length<=9000
 fa:s.far.length<=9000
 fr:s.frames.length<=9000
noncomputable def LS.send(s:LS)(w:Str):LS:=
 { s with events:=s.events++[⟨w,none,ofString "wait",s.time⟩],far:=s.far++[(s.time,(s.events.length:Int))],log:=s.log++[.send s.events.length] }
theorem Z7c{a:LA}{fs:List FA}{ct1:List Hn}{s:LS}{rest:lO}{w:Str}{Q:pV}(hK:C.K=KL C.w.params)(hr:A.depth+2<recursionLimit)(hh:A.handled=none)(L:LAt σ a fs ct1 s rest)(Z:s.Small)(hw:isW w=true)(hwl:w.length<=1000)(h:∀σ',LAt σ' a fs ct1 (s.send w) rest->Q (.int s.events.length) σ'):X1 C A (.ref 237) [.ref a.lo,.str w] σ Q X:=by
 revert C A σ X a fs ct1 s rest w Q;k_extra "q";intro C A σ X a fs ct1 s rest w Q hK hr hh L Z hw hwl h
 have hr0:A.depth<recursionLimit:=by exact Y6M hr
 have z1:=Z.ev;have z2:=Z.lg;have z3:=Z.fa;k_extra "c";intro fL A' a1 a2 a3;have hh':A'.handled=none:=a1.trans hh;have hr':A'.depth+1<recursionLimit:=by exact Y6N hr a2
 have hr2:A'.depth<recursionLimit:=by exact Y37 hr'
 k_extra "M";refine Z7b hK hr' hh' hwl hw fun σ1 gr=>?_;have L1:=L.grow gr;k_extra "M";generalize hσ:X0.upd σ1 a.ev _=σ2;have L2:LAt σ2 a fs ct1 { s with events:=s.events++[⟨w,none,ofString "wait",s.time⟩] } rest:=by
  rw[<-hσ];exact L1.eventsA ⟨w,none,ofString "wait",s.time⟩
 k_extra "M";refine Z4h hK hr2 hh' L2.wat (by simp;exact Y6O z3) ?_;have L3:=L2.far (s.far++[(s.time,((s.events.map Evt.v).length:Int))]);dsimp only;generalize hσ3:X0.upd σ2 a.fa _=σ3 at L3 ⊢;k_extra "M";show Q (V.int _) _;rw[length_map];refine h _ ?_;have h5:=L3.logA (.send ((s.events.map Evt.v).length:Int));rw[length_map]at h5;exact h5
theorem Z6K{n:Int}{c:Addr}{Q:pV}(hK:C.K=KL C.w.params)(hr:A.depth+1<recursionLimit)(hh:A.handled=none)(h:∀f d e σ',X6 σ σ'->σ f=none->σ d=none->σ e=none->f≠d->f≠e->d≠e->σ' f=some (.inst 212 d)->σ' d=some (.sd [("number",.int n),("calls",.ref c),("deeds",.ref e)])->σ' e=some (.list [])->Q (.ref f) σ'):X1 C A (.ref 212) [.int n,.ref c] σ Q X:=by
 revert C A σ X n c Q;k_extra "B";intro C A σ X n c Q hK hr hh h
 refine X1.cls (by k_extra "g") (by k_extra "g") (by k_extra "g") fun w dx A1 hw hd hne h1 h2 h3=>?_;have hr1:A1.depth<recursionLimit:=by rw[h2];exact hr
 k_extra "I";intro L A' a1 a2 a3;have hne':dx≠w:=Ne.symm hne;k_extra "M";intro e he;obtain⟨q1,he0⟩:=X0.none_ne he;obtain⟨q2,he0⟩:=X0.none_ne he0;obtain⟨q3,he0⟩:=X0.none_ne he0;obtain⟨q4,he0⟩:=X0.none_ne he0;k_extra "M";refine h w dx e _ ?_ hw hd he0 hne (Ne.symm q3) (Ne.symm q1) ?_ ?_ ?_
 ·exact(((((X6.rfl'.upd hd).upd hw).upd hd).upd hd).upd he0).upd hd
 ·k_extra "b"
 ·k_extra "b"
 ·k_extra "b"
theorem LAt.push{a:LA}{fs:List FA}{ct1:List Hn}{s:LS}{rest:lO}{f d c x:Addr}{n:Int}{out:List Str}(hl:fs.length=s.frames.length)(M:Led σ ((f,.inst 212 d)::(d,.sd [("number",.int n),("calls",.ref c),("deeds",.ref x)])::(c,.list (out.map V.str))::(x,.list [])::tabE::(fp a fs ct1 s++rest))) :
  LAt (σ.upd a.fr (.list ((fs.map fun f=>V.ref f.f).reverse++[.ref f]))) a (⟨f,d,c,x⟩::fs) ct1 { s with frames:=⟨n,out,[]⟩::s.frames } rest:=by
 refine⟨?_,by simp[hl]⟩;have M1:=M.set 15 (.list ((fs.map fun f=>V.ref f.f).reverse++[.ref f])) rfl;refine M1.perm ?_;unfold fp;simp only[map_cons,reverse_cons];exact List.perm_append_comm_assoc [_,_,_,_,_,_,_,_,_,_,_,_] [_,_,_,_] (fpF fs s.frames++rest)
structure LC(C:Cx):Prop where
 hK:C.K=KL C.w.params
 hB:BMod C
 cd:CodeHd C.h₀ 142 140
structure COk(ct1:List Hn):Prop where
 nd:(ct1.map (fun x=>x.name)).Nodup
 len:ct1.length<=60
 hears:∀h∈ct1,PyData.strOk h.hears=true
 name:∀h∈ct1,PyData.strOk h.name=true
theorem COk.nd'{ct1:List Hn}(K:COk ct1):((ct1.map Hn.hd).map (fun x=>x.name)).Nodup:=by
 have e:(ct1.map Hn.hd).map (fun x=>x.name)=ct1.map (fun x=>x.name):=by rw[map_map];rfl
 rw[e];exact K.nd
noncomputable def LS.begin(s:LS)(n:Int)(out:List Str):LS:={ s with frames:=⟨n,out,[]⟩::s.frames,log:=s.log++[.beg n s.time] }
theorem Z6L{a:LA}{fs:List FA}{ct1:List Hn}{s:LS}{rest:lO}{i:Nat}{e:Evt}{Q:pV}(E:LC C)(hr:A.depth+2<recursionLimit)(hh:A.handled=none)(hu:A.units<7000)(L:LAt σ a fs ct1 s rest)(Z:s.Small)(K:COk ct1)(hsub:∀n∈s.posts,n∈ct1.map (fun x=>x.name))(hi:s.events[i]?=some e)(hw:PyData.strOk e.word=true)(h:∀out f σ',Xu (ct1.map Hn.hd) s.posts e.word out->LAt σ' a (f::fs) ct1 (s.begin i out) rest->Q .none σ'):X1 C A (.ref 251) [.ref a.lo,.int i] σ Q X:=by
 revert C A σ X a fs ct1 s rest i e Q;k_extra "x";intro C A σ X a fs ct1 s rest i e Q E hr hh hu L Z K hsub hi hw h
 have hK:=E.hK;have hr0:A.depth<recursionLimit:=by exact Y6M hr
 have g5:=L.led.get 5 rfl;have z1:=Z.ev;have hil:i<s.events.length:=(List.getElem?_eq_some_iff.mp hi).1;k_extra "c";intro fL A' a1 a2 a3;have hh':A'.handled=none:=a1.trans hh;have hr':A'.depth+1<recursionLimit:=by exact Y6N hr a2
 k_extra "M";refine X5.list (y:=Evt.v e) (.inl g5) (by exact Y5M) (by exact Y6P z1 hil) (by simp[hi]) ?_;simp only[Evt.v];k_extra "M";refine Z5m hK E.hB E.cd hr' hh' (by exact Y6Q hu a3) (L.led.get 0 rfl) (L.led.get 3 rfl) (L.led.get 4 rfl) K.nd' (fun n hn=>by rw[map_map];exact hsub n hn) (by simpa using K.len) (by have:=Z.po;exact(Np 0x206401000000003cc8009) this) (fun x hx=>by obtain⟨y,hy,rfl⟩:=List.mem_map.mp hx;exact K.hears y hy) hw fun c σ1 out gr hc hH hcl=>?_;have M1:=L.led.add gr hc hcl;have g1:=M1.get 2 rfl;have g2:=M1.get 3 rfl;have g11:=M1.get 12 rfl;k_extra "M";refine Z6K hK hr' hh' fun f d x σ2 gr2 hf hd hx n1 n2 n3 s1 s2 s3=>?_;have M2:Led σ2 ((f,.inst 212 d)::(d,.sd [("number",.int i),("calls",.ref c),("deeds",.ref x)])::(c,.list (out.map V.str))::(x,.list [])::tabE::(fp a fs ct1 s++rest)):=by
  refine(Led.perm (l:=(f,.inst 212 d)::(d,.sd [("number",.int i),("calls",.ref c),("deeds",.ref x)])::(x,.list [])::(c,.list (out.map V.str))::tabE::(fp a fs ct1 s++rest)) ?_ ((((List.Perm.swap _ _ _).cons _).cons _)));exact M1.add3 gr2 hf hd hx n1 n2 n3 s1 s2 s3
 have z2:=Z.fr;have z3:=L.len;have g11:=M2.get 15 rfl;k_extra "M";have L3:=LAt.push L.len M2;generalize hσ3:X0.upd σ2 a.fr _=σ3 at L3 ⊢;have z4:=Z.lg
 try dsimp only at g2
 k_extra "M";show Q V.none _;refine h out ⟨f,d,c,x⟩ _ hH ?_;exact L3.logA (.beg i s.time)
noncomputable def LS.make(s:LS)(m:Int):Deed->LS
 | .now w=>{ s with events:=s.events++[⟨w,some m,ofString "now",s.time⟩],fresh:=some (s.events.length:Int),log:=s.log++[.make m s.events.length] }
 | .soon w=>{ s with events:=s.events++[⟨w,some m,ofString "soon",s.time⟩],near:=s.near++[(s.events.length:Int)],log:=s.log++[.make m s.events.length] }
 | .wait t w=>{ s with events:=s.events++[⟨w,some m,ofString "wait",s.time+t⟩],far:=s.far++[(s.time+t,(s.events.length:Int))],log:=s.log++[.make m s.events.length] }
 | _=>s
theorem Z4H{a:LA}{fs:List FA}{ct1:List Hn}{s:LS}{rest:lO}{m:Int}{w:Str}{Q:pV}(hK:C.K=KL C.w.params)(hr:A.depth+1<recursionLimit)(hh:A.handled=none)(L:LAt σ a fs ct1 s rest)(Z:s.Small)(h:∀σ',LAt σ' a fs ct1 (s.make m (.now w)) rest->Q .none σ'):X1 C A (.ref 284) [.ref a.lo,.int m,Deed.v (.now w)] σ Q X:=by
 revert C A σ X a fs ct1 s rest m w Q;k_extra "x";intro C A σ X a fs ct1 s rest m w Q hK hr hh L Z h
 have hr0:A.depth<recursionLimit:=by exact Y37 hr
 have z1:=Z.ev;have z2:=Z.lg;simp only[Deed.v];k_extra "i";intro fL A' a1 a2 a3;k_extra "M";generalize hσ:X0.upd σ a.ev _=σ2;have L2:LAt σ2 a fs ct1 { s with events:=s.events++[⟨w,some m,ofString "now",s.time⟩] } rest:=by
  rw[<-hσ];exact L.eventsA ⟨w,some m,ofString "now",s.time⟩
 have g2:=L2.led.get 2 rfl;k_extra "M";have L3:=L2.fresh (some (s.events.map Evt.v).length);simp only[optV]at L3;generalize hσ3:X0.upd σ2 a.d _=σ3 at L3 ⊢
 try dsimp only[optV]at g2
 k_extra "M";show Q V.none _;refine h _ ?_;have h5:=L3.logA (.make m ((s.events.map Evt.v).length:Int));rw[length_map]at h5 ⊢;exact h5
theorem Z3O{a:LA}{fs:List FA}{ct1:List Hn}{s:LS}{rest:lO}{m:Int}{w:Str}{Q:pV}(hK:C.K=KL C.w.params)(hr:A.depth+1<recursionLimit)(hh:A.handled=none)(L:LAt σ a fs ct1 s rest)(Z:s.Small)(h:∀σ',LAt σ' a fs ct1 (s.make m (.soon w)) rest->Q .none σ'):X1 C A (.ref 284) [.ref a.lo,.int m,Deed.v (.soon w)] σ Q X:=by
 revert C A σ X a fs ct1 s rest m w Q;k_extra "x";intro C A σ X a fs ct1 s rest m w Q hK hr hh L Z h
 have hr0:A.depth<recursionLimit:=by exact Y37 hr
 have z1:=Z.ev;have z2:=Z.lg;have z3:=Z.ne;simp only[Deed.v];k_extra "i";intro fL A' a1 a2 a3;have hh':A'.handled=none:=a1.trans hh;have hr2:A'.depth<recursionLimit:=by exact Y6L hr a2
 k_extra "M";generalize hσ:X0.upd σ a.ev _=σ2;have L2:LAt σ2 a fs ct1 { s with events:=s.events++[⟨w,some m,ofString "soon",s.time⟩] } rest:=by
  rw[<-hσ];exact L.eventsA ⟨w,some m,ofString "soon",s.time⟩
 k_extra "M";refine Z65 hK hr2 hh' L2.wat (by simp;exact Y6O z3) ?_;have L3:=L2.near (s.near++[((s.events.map Evt.v).length:Int)]);dsimp only;generalize hσ3:X0.upd σ2 a.ne _=σ3 at L3 ⊢;k_extra "M";show Q V.none _;refine h _ ?_;have h5:=L3.logA (.make m ((s.events.map Evt.v).length:Int));rw[length_map]at h5 ⊢;exact h5
theorem Z3P{a:LA}{fs:List FA}{ct1:List Hn}{s:LS}{rest:lO}{m t:Int}{w:Str}{Q:pV}(hK:C.K=KL C.w.params)(hr:A.depth+1<recursionLimit)(hh:A.handled=none)(L:LAt σ a fs ct1 s rest)(Z:s.Small)(h:∀σ',LAt σ' a fs ct1 (s.make m (.wait t w)) rest->Q .none σ'):X1 C A (.ref 284) [.ref a.lo,.int m,Deed.v (.wait t w)] σ Q X:=by
 revert C A σ X a fs ct1 s rest m t w Q;k_extra "z";intro C A σ X a fs ct1 s rest m t w Q hK hr hh L Z h
 have hr0:A.depth<recursionLimit:=by exact Y37 hr
 have z1:=Z.ev;have z2:=Z.lg;have z3:=Z.fa;simp only[Deed.v];k_extra "i";intro fL A' a1 a2 a3;have hh':A'.handled=none:=a1.trans hh;have hr2:A'.depth<recursionLimit:=by exact Y6L hr a2
 k_extra "M";generalize hσ:X0.upd σ a.ev _=σ2;have L2:LAt σ2 a fs ct1 { s with events:=s.events++[⟨w,some m,ofString "wait",s.time+t⟩] } rest:=by
  rw[<-hσ];exact L.eventsA ⟨w,some m,ofString "wait",s.time+t⟩
 k_extra "M";refine Z4h hK hr2 hh' L2.wat (by simp;exact Y6O z3) ?_;have L3:=L2.far (s.far++[(s.time+t,((s.events.map Evt.v).length:Int))]);dsimp only;generalize hσ3:X0.upd σ2 a.fa _=σ3 at L3 ⊢;k_extra "M";show Q V.none _;refine h _ ?_;have h5:=L3.logA (.make m ((s.events.map Evt.v).length:Int));rw[length_map]at h5 ⊢;exact h5
theorem Z2x{f:FA}{r:Frm}:∀{fs1 fs2:List FA} {fr1 fr2:List Frm},fs1.length=fr1.length->fpF (fs1++f::fs2) (fr1++r::fr2)=fpF fs1 fr1++fpF (f::fs2) (r::fr2)
 | [],_,[],_,_=>rfl
 | g::fs1,fs2,q::fr1,fr2,h=>by
  show _::_::_::_::fpF (fs1++f::fs2) (fr1++r::fr2)=_;rw[Z2x (by simpa using h)];rfl
theorem LAt.split{a:LA}{fs1 fs2:List FA}{f:FA}{ct1:List Hn}{s:LS}{fr1 fr2:List Frm}{r:Frm}{rest:lO}(hl:fs1.length=fr1.length)(hf:s.frames=fr1++r::fr2) :
  tabE::(fp a (fs1++f::fs2) ct1 s++rest)=(tabE::(fp a (fs1++f::fs2) ct1 { s with frames:=[] }++fpF fs1 fr1))++(fpF (f::fs2) (r::fr2)++rest):=by
 unfold fp;rw[hf,Z2x hl];simp[fpF]
theorem LAt.frame{a:LA}{fs1 fs2:List FA}{f:FA}{ct1:List Hn}{s:LS}{fr1 fr2:List Frm}{r:Frm}{rest:lO}(hl:fs1.length=fr1.length)(hf:s.frames=fr1++r::fr2)(L:LAt σ a (fs1++f::fs2) ct1 s rest) :
  σ f.f=some (.inst 212 f.d)/\σ f.d=some (.sd [("number",.int r.num),("calls",.ref f.c),("deeds",.ref f.e)])/\σ f.c=some (.list (r.calls.map V.str))/\σ f.e=some (.list (r.deeds.map Deed.v)):=by
 have M:=L.led;rw[LAt.split hl hf]at M;exact⟨M.at_ (f.f,_) (by simp[fpF]),M.at_ (f.d,_) (by simp[fpF]),M.at_ (f.c,_) (by simp[fpF]),M.at_ (f.e,_) (by simp[fpF])⟩
theorem LAt.calls{a:LA}{fs1 fs2:List FA}{f:FA}{ct1:List Hn}{s:LS}{fr1 fr2:List Frm}{r:Frm}{rest:lO}(hl:fs1.length=fr1.length)(hf:s.frames=fr1++r::fr2)(L:LAt σ a (fs1++f::fs2) ct1 s rest)(cs:List Str) :
  LAt (σ.upd f.c (.list (cs.map V.str))) a (fs1++f::fs2) ct1 { s with frames:=fr1++{ r with calls:=cs }::fr2 } rest:=by
 obtain⟨M,l⟩:=L;refine⟨?_,by rw[l,hf];simp⟩;rw[LAt.split hl hf]at M;rw[LAt.split hl rfl];have e:∀r:Frm,(tabE::(fp a (fs1++f::fs2) ct1 { s with frames:=[] }++fpF fs1 fr1))++(fpF (f::fs2) (r::fr2)++rest)
   = ((tabE::(fp a (fs1++f::fs2) ct1 { s with frames:=[] }++fpF fs1 fr1))++[(f.f,.inst 212 f.d),(f.d,.sd [("number",.int r.num),("calls",.ref f.c),("deeds",.ref f.e)])])++(f.c,.list (r.calls.map V.str))::((f.e,.list (r.deeds.map Deed.v))::(fpF fs2 fr2++rest)):=fun r=>by
  simp[fpF]
 rw[e]at M ⊢;exact M.setS _
theorem Z2c(ns:List Str)(x:Str):((ns.map PyData.str).any fun y=>PyData.eqv y (.str x))=ns.contains x:=by
 rw[Bool.eq_iff_iff];simp[PyData.eqv]
theorem X4.inStrs{l:Addr}{ns:List Str}{x:Str}{Q:pV}(hu:A.units<9000)(hl:σ l=some (.list (ns.map V.str)))(hx:PyData.strOk x=true)(hn:∀n∈ns,PyData.strOk n=true)(h:Q (.bool (ns.contains x)) σ):X4 C A .In (.str x) (.ref l) σ Q X:=by
 refine X4.inL (ds:=ns.map PyData.str) (.inl hl) (.str _) (DRs.map fun z z=>.str _) (by simpa [PyData.canLay0] using hx) (Z5 fun y hy=>by simpa [PyData.canLay0] using hn y hy) (by simp only[PyData.depth,cLine];exact Y6S hu) ?_;rw[Z2c];exact h
theorem X4.notInStrs{l:Addr}{ns:List Str}{x:Str}{Q:pV}(hu:A.units<9000)(hl:σ l=some (.list (ns.map V.str)))(hx:PyData.strOk x=true)(hn:∀n∈ns,PyData.strOk n=true)(h:Q (.bool (!ns.contains x)) σ):X4 C A .NotIn (.str x) (.ref l) σ Q X:=by
 refine X4.notInL (ds:=ns.map PyData.str) (.inl hl) (.str _) (DRs.map fun z z=>.str _) (by simpa [PyData.canLay0] using hx) (Z5 fun y hy=>by simpa [PyData.canLay0] using hn y hy) (by simp only[PyData.depth,cLine];exact Y6S hu) ?_;rw[Z2c];exact h
theorem Z3G(x:Str):∀(l:List Str),x∈l->(l.map PyData.str).findIdx? (fun y=>PyData.eqv y (.str x))=some (l.idxOf x)
 | q::l,h=>by
  rw[map_cons,List.findIdx?_cons,List.idxOf_cons];have e:PyData.eqv (.str q) (.str x)=(q==x):=by simp[PyData.eqv]
  rw[e]
  cases z:q==x with
  | true=>rfl
  | false=>
   have:x∈l:=by
    rcases List.mem_cons.mp h with w|w
    ·rw[w]at z;simp at z
    ·exact w
   simp[Z3G x l this]
theorem X1.removeStr{l:Addr}{ns:List Str}{x:Str}{Q:pV}(hu:A.units<9000)(hl:σ l=some (.list (ns.map V.str)))(hx:PyData.strOk x=true)(hn:∀n∈ns,PyData.strOk n=true)(hz:ns.length<=10000)(hm:x∈ns)(h:Q .none (σ.upd l (.list ((ns.erase x).map V.str)))):X1 C A (.builtin "list.remove") [.ref l,.str x] σ Q X:=by
 refine X1.remove (d:=.str x) hl (.str _) (DRs.map (g:=PyData.str) fun z z=>.str _) (by simpa [PyData.canLay0] using hx) (Z5 fun y hy=>by simpa [PyData.canLay0] using hn y hy) (by simp only[PyData.depth,cLine];exact Y6S hu) (by simp[sizeLine_eq];exact Y6y hz) (Z3G x ns hm) ?_;have e:List.eraseIdx (ns.map V.str) (ns.idxOf x)=(ns.erase x).map V.str:=by
  rw[List.erase_eq_eraseIdx_of_idxOf rfl,Zy]
 rw[e];exact h
noncomputable def Frm.away(n:Str)(r:Frm):Frm:={ r with calls:=r.calls.erase n }
noncomputable def LS.away(s:LS)(n:Str):LS:={ s with posts:=s.posts.erase n,frames:=s.frames.map (Frm.away n) }
structure LS.Names(s:LS):Prop where
 po:∀n∈s.posts,PyData.strOk n=true
 fr:∀r∈s.frames,r.calls.length<=10000/\∀n∈r.calls,PyData.strOk n=true
theorem Z5o{a:LA}{fs:List FA}{ct1:List Hn}{s:LS}{rest:lO}{n:Str}{Q:pV}(hK:C.K=KL C.w.params)(hr:A.depth<recursionLimit)(hh:A.handled=none)(hu:A.units<7000)(L:LAt σ a fs ct1 s rest)(Z:s.Small)(N:s.Names)(hn:PyData.strOk n=true)(h:∀σ',LAt σ' a fs ct1 (s.away n) rest->Q .none σ'):X1 C A (.ref 272) [.ref a.lo,.str n] σ Q X:=by
 revert C A σ X a fs ct1 s rest n Q;k_extra "q";intro C A σ X a fs ct1 s rest n Q hK hr hh hu L Z N hn h
 have g4:=L.led.get 4 rfl;have z1:=Z.po;k_extra "c";intro fL A' a1 a2 a3;have hh':A'.handled=none:=a1.trans hh;have hu':A'.units<9000:=by exact Y6T hu a3
 refine Exs.cut (fun ρ σ1=>ρ.get "self" = some (.ref a.lo)/\ρ.get "name" = some (.str n)/\LAt σ1 a fs ct1 { s with posts:=s.posts.erase n } rest) ?_ ?_
 ·k_extra "M";refine X4.inStrs hu' g4 hn N.po ?_;k_extra "M"
  cases hc:s.posts.contains n with
  | true=>
   refine Br.t rfl ?_;k_extra "M";refine X1.removeStr hu' g4 hn N.po (by exact(Np 0x13886400000000003cc8009) z1) (by simpa using hc) ?_;k_extra "M";exact⟨rfl,by k_extra "a",by k_extra "a",L.posts _⟩
  | false=>
   refine Br.f rfl ?_;k_extra "M";refine⟨rfl,by k_extra "a",by k_extra "a",?_⟩;have e:s.posts.erase n=s.posts:=List.erase_of_not_mem (by simpa using hc);rw[e];exact L
 intro ρ σ1;refine Z6V fun r1 r2 L1=>?_;have g11:=L1.led.get 11 rfl;k_extra "M";refine⟨_,_,ItV.list hh' (.inl g11),?_⟩;have eE:(fs.map fun f=>V.ref f.f).reverse=((fs.zip s.frames).reverse).map fun p=>V.ref p.1.f:=by
  rw[List.map_reverse]
  congr 1
  have:(fs.zip s.frames).map (fun p=>V.ref p.1.f)=((fs.zip s.frames).map Prod.fst).map fun f=>V.ref f.f:=by rw[map_map];rfl
  rw[this,List.map_fst_zip (by rw[L.len];exact Nat.le_refl _)]
 rw[eE];refine Xi.invJ (fun p:FA×Frm=>V.ref p.1.f) (fun xs ρ σ1=>∃fs1 fs2 fr1 fr2,fs=fs1++fs2/\s.frames=fr1++fr2/\fs1.length=fr1.length/\xs=(fs1.zip fr1).reverse/\ρ.get "self" = some (.ref a.lo)/\ρ.get "name" = some (.str n)/\
  LAt σ1 a fs ct1 { s with posts:=s.posts.erase n,frames:=fr1++fr2.map (Frm.away n) } rest) ?_ ?_ _ _ _ ⟨fs,[],s.frames,[],by simp,by simp,L.len,rfl,r1,r2,by simpa using L1⟩
 ·intro J ⟨f,r⟩ xs hN _ _ ρ σ1;refine Z56 fun fs1 fs2 fr1 fr2 e1 e2 e3 e4 r1 r2 L1=>?_;obtain⟨fs1',f',rfl⟩:∃fs1' f',fs1=fs1'++[f']:=by
   rcases List.eq_nil_or_concat fs1 with rfl|⟨p,q,e⟩
   ·simp at e4
   ·exact⟨p,q,by simpa using e⟩
  obtain⟨fr1',r',rfl⟩:∃fr1' r',fr1=fr1'++[r']:=by
   rcases List.eq_nil_or_concat fr1 with rfl|⟨p,q,e⟩
   ·simp at e3
   ·exact⟨p,q,by simpa using e⟩
  have e5:fs1'.length=fr1'.length:=by simpa using e3
  rw[List.zip_append e5]at e4;simp only[List.zip_cons_cons,List.zip_nil_right,List.reverse_append,reverse_cons,List.reverse_nil,nil_append,List.cons_append,List.cons.injEq,Prod.mk.injEq]at e4;obtain⟨⟨rfl,rfl⟩,rfl⟩:=e4;have e6:fs=fs1'++f::fs2:=by simpa using e1
  subst e6;have L2:LAt σ1 a (fs1'++f::fs2) ct1 { s with posts:=s.posts.erase n,frames:=fr1'++r::fr2.map (Frm.away n) } rest:=by simpa using L1
  obtain⟨h1,h2,h3,h4⟩:=L2.frame e5 rfl;have hr:r∈s.frames:=by rw[e2];simp
  have z5:=(N.fr r hr).1;have z6:=(N.fr r hr).2;dsimp only;k_extra "M";refine X4.inStrs hu' h3 hn z6 ?_;k_extra "M"
  cases hc:r.calls.contains n with
  | true=>
   refine Br.t rfl ?_;k_extra "M";refine X1.removeStr hu' h3 hn z6 (by exact(Np 0x138864000000002710c8009) z5) (by simpa using hc) ?_;k_extra "M";have L3:=L2.calls e5 rfl (r.calls.erase n);refine hN _ _ (.inl ?_) ⟨fs1',f::fs2,fr1',r::fr2,rfl,by rw[e2];simp,e5,rfl,by k_extra "a",by k_extra "a",L3⟩;rw[<-eE];exact L3.led.get 11 rfl
  | false=>
   refine Br.f rfl ?_;k_extra "M";have e:Frm.away n r=r:=by
    unfold Frm.away;rw[List.erase_of_not_mem (by simpa using hc)]
   refine hN _ _ (.inl ?_) ⟨fs1',f::fs2,fr1',r::fr2,rfl,by rw[e2];simp,e5,rfl,by k_extra "a",by k_extra "a",by rw[map_cons,e];exact L2⟩;rw[<-eE];exact L2.led.get 11 rfl
 ·intro ρ σ1;refine Z56 fun fs1 fs2 fr1 fr2 e1 e2 e3 e4 r1 r2 L1=>?_;have e5:fr1=[]:=by
   have:(fs1.zip fr1).length=0:=by rw[<-List.length_reverse,<-e4];rfl
   rw[List.length_zip,e3,Nat.min_self]at this;exact List.length_eq_zero_iff.mp this
  subst e5;k_extra "M";refine h _ ?_;rw[nil_append]at e2 L1;rw[<-e2]at L1;exact L1
theorem LAt.deedsNew{a:LA}{fs:List FA}{f:FA}{ct1:List Hn}{s:LS}{r:Frm}{fr:List Frm}{rest:lO}{x:Addr}(L:LAt σ a (f::fs) ct1 s rest)(hf:s.frames=r::fr)(hx:σ x=none)(ds:List Deed) :
  LAt ((σ.upd x (.list (ds.map Deed.v))).upd f.d (.sd [("number",.int r.num),("calls",.ref f.c),("deeds",.ref x)])) a ({ f with e:=x }::fs) ct1 { s with frames:={ r with deeds:=ds }::fr } rest:=by
 revert σ a fs f ct1 s r fr rest x L hf hx ds;k_extra "t";intro σ a fs f ct1 s r fr rest x L hf hx ds
 obtain⟨M,l⟩:=L;refine⟨?_,by rw[hf]at l;simpa using l⟩;unfold fp at M ⊢;rw[hf]at M;have M1:=(M.new (.list (ds.map Deed.v)) hx).set 14 (.sd [("number",.int r.num),("calls",.ref f.c),("deeds",.ref x)]) rfl;have M2:=M1.sub (l':=[(x,O.list (ds.map Deed.v))]++([tabE,_,_,_,_,_,_,_,_,_,_,_,_,_,_]++(fpF fs fr++rest))) ((List.Sublist.refl [_,_,_,_,_,_,_,_,_,_,_,_,_,_,_,_]).append ((List.Sublist.refl _).cons _));exact M2.perm (List.perm_append_comm_assoc [_,_,_,_,_,_,_,_,_,_,_,_,_,_,_] [_] (fpF fs fr++rest))
theorem LAt.callsNew{a:LA}{fs:List FA}{f:FA}{ct1:List Hn}{s:LS}{r:Frm}{fr:List Frm}{rest:lO}{x:Addr}(L:LAt σ a (f::fs) ct1 s rest)(hf:s.frames=r::fr)(hx:σ x=none)(cs:List Str) :
  LAt ((σ.upd x (.list (cs.map V.str))).upd f.d (.sd [("number",.int r.num),("calls",.ref x),("deeds",.ref f.e)])) a ({ f with c:=x }::fs) ct1 { s with frames:={ r with calls:=cs }::fr } rest:=by
 revert σ a fs f ct1 s r fr rest x L hf hx cs;k_extra "t";intro σ a fs f ct1 s r fr rest x L hf hx cs
 obtain⟨M,l⟩:=L;refine⟨?_,by rw[hf]at l;simpa using l⟩;unfold fp at M ⊢;rw[hf]at M;have M1:=(M.new (.list (cs.map V.str)) hx).set 14 (.sd [("number",.int r.num),("calls",.ref x),("deeds",.ref f.e)]) rfl;have M2:=M1.sub (l':=[(x,O.list (cs.map V.str))]++([tabE,_,_,_,_,_,_,_,_,_,_,_,_,_]++((f.e,_)::(fpF fs fr++rest)))) ((List.Sublist.refl [_,_,_,_,_,_,_,_,_,_,_,_,_,_,_]).append ((List.Sublist.refl _).cons _));exact M2.perm (List.perm_append_comm_assoc [_,_,_,_,_,_,_,_,_,_,_,_,_,_] [_] ((f.e,_)::(fpF fs fr++rest)))
theorem LAt.top{a:LA}{fs:List FA}{f:FA}{ct1:List Hn}{s:LS}{r:Frm}{fr:List Frm}{rest:lO}(L:LAt σ a (f::fs) ct1 s rest)(hf:s.frames=r::fr) :
  σ f.f=some (.inst 212 f.d)/\σ f.d=some (.sd [("number",.int r.num),("calls",.ref f.c),("deeds",.ref f.e)])/\σ f.c=some (.list (r.calls.map V.str))/\σ f.e=some (.list (r.deeds.map Deed.v)):=
 LAt.frame (fs1:=[]) (fr1:=[]) rfl hf L
noncomputable def LS.setDeeds(s:LS)(ds:List Deed):LS:=match s.frames with
 | r::fr=>{ s with frames:={ r with deeds:=ds }::fr }
 | []=>s
noncomputable def LS.got(s:LS)(h:Hn):LS:=if h.once then(s.setDeeds h.ds).away h.name else s.setDeeds h.ds
noncomputable def LS.callIn(s:LS)(n:Int)(h:Hn):LS:={ s.got h with log:=s.log++[.call n h.name] }
set_option tactic.hygienic true in
theorem LS.Names.setDeeds:∀{s:LS}(N:s.Names)(ds:List Deed),(s.setDeeds ds).Names:=by
 k_extra "r";intro s N ds;unfold LS.setDeeds
 split
 ·rename_i r fr e
  refine⟨N.po,?_⟩;intro q hq;rcases List.mem_cons.mp hq with rfl|hq
  ·exact N.fr r (by rw[e];exact .head _)
  ·exact N.fr q (by rw[e];exact .tail _ hq)
 ·exact N
set_option tactic.hygienic true in
theorem LS.Small.setDeeds{s:LS}(Z:s.Small)(ds:List Deed):(s.setDeeds ds).Small:=by
 unfold LS.setDeeds
 split
 ·rename_i r fr e
  exact⟨Z.po,Z.ev,Z.lg,Z.ne,Z.fa,by have:=Z.fr;rw[e]at this;simpa using this⟩
 ·exact Z
theorem LS.got_log:∀(s:LS)(h:Hn),(s.got h).log=s.log:=by
 k_extra "n";intro s h;unfold LS.got LS.away LS.setDeeds
 split<;>split<;>rfl
theorem COk.one{ct1:List Hn}(K:COk ct1){x y:Hn}(hx:x∈ct1)(hy:y∈ct1)(e:x.name=y.name):x=y:=by
 obtain⟨i,hi,rfl⟩:=List.getElem_of_mem hx;obtain⟨j,hj,rfl⟩:=List.getElem_of_mem hy;have nd:=List.pairwise_iff_getElem.mp K.nd;rcases Nat.lt_trichotomy i j with q|q|q
 ·have:=nd i j (by simpa using hi) (by simpa using hj) q;simp only[getElem_map]at this;exact absurd e this
 ·subst q;rfl
 ·have:=nd j i (by simpa using hj) (by simpa using hi) q;simp only[getElem_map]at this;exact absurd e.symm this
theorem LS.got_top{s:LS}{r:Frm}{fr:List Frm}(hf:s.frames=r::fr)(h:Hn):∃r' fr',(s.got h).frames=r'::fr'/\r'.num=r.num:=by
 unfold LS.got LS.away LS.setDeeds;rw[hf]
 split<;>exact⟨_,_,rfl,rfl⟩
theorem Z68{a:LA}{f:FA}{fs:List FA}{ct1:List Hn}{s:LS}{r:Frm}{fr:List Frm}{rest:lO}{hn:Hn}{Q:pV}(hK:C.K=KL C.w.params)(hr:A.depth+1<recursionLimit)(hh:A.handled=none)(hu:A.units<6900)(L:LAt σ a (f::fs) ct1 s rest)(hf:s.frames=r::fr)(Z:s.Small)(N:s.Names)(K:COk ct1)(hm:hn∈ct1)(hd:∀h∈ct1,h.ds.length<=1000)(h:∀f' σ',f'.f=f.f->LAt σ' a (f'::fs) ct1 (s.callIn r.num hn) rest->Q .none σ'):X1 C A (.ref 265) [.ref a.lo,.ref f.f,.str hn.name] σ Q X:=by
 revert C A σ X a f fs ct1 s r fr rest hn Q;k_extra "v";intro C A σ X a f fs ct1 s r fr rest hn Q hK hr hh hu L hf Z N K hm hd h
 have hr0:A.depth<recursionLimit:=by exact Y37 hr
 have g3:=L.led.get 3 rfl;have z1:=Z.lg;have z2:=K.len;k_extra "i";k_extra "n";intro fL A' a1 a2 a3;have hh':A'.handled=none:=a1.trans hh;have hr2:A'.depth<recursionLimit:=by exact Y6L hr a2
 have hu':A'.units<7000:=by exact Y6W hu a3
 k_extra "M";refine⟨_,_,ItV.list hh' (.inl g3),?_⟩;rw[map_map];refine Xi.invJ (fun h:Hn=>hv h.hd) (fun xs ρ σ1=>∃done f',done++xs=ct1/\f'.f=f.f/\ρ.get "self" = some (.ref a.lo)/\ρ.get "frame" = some (.ref f.f)/\ρ.get "name" = some (.str hn.name)/\
  LAt σ1 a (f'::fs) ct1 (if hn.name∈done.map (fun x=>x.name) then s.got hn else s) rest) ?_ ?_ _ _ _ ⟨[],f,rfl,rfl,by k_extra "a",by k_extra "a",by k_extra "a",by simpa using L⟩
 ·k_extra "A";intro J x xs hN _ _;k_extra "n";intro ρ σ1;refine Z2q ?_;k_extra "n";intro done f' e1 e2 r1 r2 r3 L1;have hx:x∈ct1:=by rw[<-e1];simp
  simp only[hv,Hn.hd];k_extra "M";have nd:=K.nd;rw[<-e1,map_append,map_cons]at nd
  cases hc:x.name==hn.name with
  | true=>
   have e3:x.name=hn.name:=by simpa using hc
   have e4:x=hn:=by
    exact COk.one K hx hm e3
   subst e4;have e5:x.name∉done.map (fun x=>x.name):=fun z=>by
    have:=(List.nodup_append.mp nd).2.2 _ z _ (List.mem_cons_self ..);exact this rfl
   rw[if_neg e5]at L1;obtain⟨t1,t2,t3,t4⟩:=L1.top hf;rw[e2]at t1;refine Br.t rfl ?_;k_extra "M";refine X1.listOfTup (by simp[sizeLine_eq];have:=hd x hx;exact Y6I this) ?_;k_extra "r";intro y hy;have q1:f.f≠y:=fun q=>by rw[<-q,t1]at hy;cases hy
   have q2:f'.d≠y:=fun q=>by rw[<-q,t2]at hy;cases hy
   k_extra "M";have L2:=L1.deedsNew hf hy x.ds;generalize hσ:X0.upd (σ1.upd y _) f'.d _=σ2 at L2 ⊢;have L3:LAt σ2 a ({ f' with e:=y }::fs) ct1 (s.setDeeds x.ds) rest:=by
    unfold LS.setDeeds;rw[hf];exact L2
   have e6:x.name∈(done++[x]).map (fun x=>x.name):=by simp
   cases ho:x.once with
   | true=>
    refine Br.t rfl ?_;k_extra "M";refine Z5o hK hr2 hh' hu' L3 (Z.setDeeds _) (N.setDeeds _) (K.name x hx) ?_;intro σ3 L4;k_extra "M";refine hN _ _ (.inl ?_) ⟨done++[x],{ f' with e:=y },by simpa using e1,e2,by k_extra "a",by k_extra "a",by k_extra "a",?_⟩
    ·rw[<-map_map];exact L4.led.get 3 rfl
    ·rw[if_pos e6];unfold LS.got;rw[ho];exact L4
   | false=>
    refine Br.f rfl ?_;k_extra "M";refine hN _ _ (.inl ?_) ⟨done++[x],{ f' with e:=y },by simpa using e1,e2,by k_extra "a",by k_extra "a",by k_extra "a",?_⟩
    ·rw[<-map_map];exact L3.led.get 3 rfl
    ·rw[if_pos e6];unfold LS.got;rw[ho];exact L3
  | false=>
   have e3:¬hn.name=x.name:=fun e=>by rw[e]at hc;simp at hc
   refine Br.f rfl ?_;k_extra "M";refine hN _ _ (.inl ?_) ⟨done++[x],f',by simpa using e1,e2,by k_extra "a",by k_extra "a",by k_extra "a",?_⟩
   ·rw[<-map_map];exact L1.led.get 3 rfl
   ·have e7:(hn.name∈(done++[x]).map (fun x=>x.name))=(hn.name∈done.map (fun x=>x.name)):=by simp[e3]
    simp only[e7];exact L1
 ·intro ρ σ1;refine Z2q ?_;k_extra "n";intro done f' e1 e2 r1 r2 r3 L1;rw[append_nil]at e1;subst e1;rw[if_pos (mem_map_of_mem hm)]at L1;obtain⟨r',fr',e3,e4⟩:=LS.got_top hf hn;obtain⟨t1,t2,t3,t4⟩:=L1.top e3;rw[e2]at t1;have g6:=L1.led.get 6 rfl;rw[LS.got_log]at g6;k_extra "M";refine h f' _ e2 ?_;have:=L1.logA (.call r'.num hn.name);rw[LS.got_log,e4]at this;rw[e4];exact this
theorem X4.inTS{x:Str}{ns:List Str}{Q:pV}(hu:A.units<9000)(hx:PyData.strOk x=true)(hn:∀n∈ns,PyData.strOk n=true)(h:Q (.bool (ns.contains x)) σ):X4 C A .In (.str x) (.tup (ns.map V.str)) σ Q X:=by
 refine X4.inT (d:=.str x) (ds:=ns.map PyData.str) (.str _) (DRs.map fun z z=>.str _) (by simpa [PyData.canLay0] using hx) (Z5 fun y hy=>by simpa [PyData.canLay0] using hn y hy) (by
  simp only[PyData.depth,cLine];exact Y6S hu) ?_
 rw[Z2c];exact h
noncomputable def LS.setCalls(s:LS)(cs:List Str):LS:=match s.frames with
 | r::fr=>{ s with frames:={ r with calls:=cs }::fr }
 | []=>s
noncomputable def LS.join(s:LS)(h:Str):LS:={ s with posts:=if s.posts.contains h then s.posts else s.posts++[h] }
theorem Z3Q{a:LA}{f:FA}{fs:List FA}{ct1:List Hn}{s:LS}{r:Frm}{fr:List Frm}{rest:lO}{n:Str}{Q:pV}(hK:C.K=KL C.w.params)(hr:A.depth<recursionLimit)(hh:A.handled=none)(hu:A.units<6900)(L:LAt σ a (f::fs) ct1 s rest)(hf:s.frames=r::fr)(Z:s.Small)(N:s.Names)(hn:PyData.strOk n=true)(h:∀σ',LAt σ' a (f::fs) ct1 { s.join n with log:=s.log++[.join r.num n] } rest->Q .none σ'):X1 C A (.ref 277) [.ref a.lo,.ref f.f,Deed.v (.join n)] σ Q X:=by
 revert C A σ X a f fs ct1 s r fr rest n Q;k_extra "v";intro C A σ X a f fs ct1 s r fr rest n Q hK hr hh hu L hf Z N hn h
 have g4:=L.led.get 4 rfl;have z1:=Z.po;have z2:=Z.lg;obtain⟨t1,t2,t3,t4⟩:=L.top hf;simp only[Deed.v];k_extra "i";intro fL A' a1 a2 a3;have hu':A'.units<9000:=by exact Y6X hu a3
 k_extra "M";refine X4.inTS (ns:=[ofString "now",ofString "soon",ofString "wait"]) hu' (Z0 _) (by simp[Z0]) ?_;k_extra "M";refine X4.notInStrs hu' g4 hn N.po ?_;k_extra "M"
 cases hc:s.posts.contains n with
 | true=>
  refine Br.f rfl ?_;k_extra "M";refine h _ ?_;unfold LS.join;rw[if_pos hc];exact L.logA (.join r.num n)
 | false=>
  refine Br.t rfl ?_;k_extra "M";have L2:=L.posts (s.posts++[n]);simp only[map_append,map_cons,List.map_nil]at L2;generalize hσ:X0.upd σ a.po _=σ2 at L2 ⊢;obtain⟨t1,t2,t3,t4⟩:=L2.top (r:=r) (fr:=fr) hf;k_extra "M";refine h _ ?_;unfold LS.join;rw[if_neg (by rw[hc];decide)];exact L2.logA (.join r.num n)
theorem Z3H{a:LA}{f:FA}{fs:List FA}{ct1:List Hn}{s:LS}{r:Frm}{fr:List Frm}{rest:lO}{n:Str}{Q:pV}(hK:C.K=KL C.w.params)(hr:A.depth+1<recursionLimit)(hh:A.handled=none)(hu:A.units<6900)(L:LAt σ a (f::fs) ct1 s rest)(hf:s.frames=r::fr)(Z:s.Small)(N:s.Names)(hn:PyData.strOk n=true)(h:∀σ',LAt σ' a (f::fs) ct1 { s.away n with log:=s.log++[.leave r.num n] } rest->Q .none σ'):X1 C A (.ref 277) [.ref a.lo,.ref f.f,Deed.v (.leave n)] σ Q X:=by
 revert C A σ X a f fs ct1 s r fr rest n Q;k_extra "v";intro C A σ X a f fs ct1 s r fr rest n Q hK hr hh hu L hf Z N hn h
 have hr0:A.depth<recursionLimit:=by exact Y37 hr
 have z2:=Z.lg;simp only[Deed.v];k_extra "i";intro fL A' a1 a2 a3;have hh':A'.handled=none:=a1.trans hh;have hu':A'.units<9000:=by exact Y6X hu a3
 have hr2:A'.depth<recursionLimit:=by exact Y6L hr a2
 k_extra "M";refine X4.inTS (ns:=[ofString "now",ofString "soon",ofString "wait"]) hu' (Z0 _) (by simp[Z0]) ?_;k_extra "M";refine Z5o hK hr2 hh' (by exact Y6W hu a3) L Z N hn fun σ2 L2=>?_;have hf2:(s.away n).frames=r.away n::fr.map (Frm.away n):=by simp[LS.away,hf]
 obtain⟨t1,t2,t3,t4⟩:=L2.top hf2;have g6:=L2.led.get 6 rfl
 try dsimp only[LS.away,Frm.away]at g6 t2
 k_extra "M";refine h _ ?_;exact L2.logA (.leave r.num n)
theorem Z3R{a:LA}{f:FA}{fs:List FA}{ct1:List Hn}{s:LS}{r:Frm}{fr:List Frm}{rest:lO}{Q:pV}(hK:C.K=KL C.w.params)(hr:A.depth<recursionLimit)(hh:A.handled=none)(hu:A.units<6900)(L:LAt σ a (f::fs) ct1 s rest)(hf:s.frames=r::fr)(Z:s.Small)(h:∀f' σ',f'.f=f.f->LAt σ' a (f'::fs) ct1 { s.setCalls [] with log:=s.log++[.hush r.num] } rest->Q .none σ'):X1 C A (.ref 277) [.ref a.lo,.ref f.f,Deed.v .hush] σ Q X:=by
 revert C A σ X a f fs ct1 s r fr rest Q;k_extra "z";intro C A σ X a f fs ct1 s r fr rest Q hK hr hh hu L hf Z h
 have z2:=Z.lg;obtain⟨t1,t2,t3,t4⟩:=L.top hf;simp only[Deed.v];k_extra "i";intro fL A' a1 a2 a3;have hu':A'.units<9000:=by exact Y6X hu a3
 k_extra "M";refine X4.inTS (ns:=[ofString "now",ofString "soon",ofString "wait"]) hu' (Z0 _) (by simp[Z0]) ?_;k_extra "M";intro y hy;have q1:f.f≠y:=fun q=>by rw[<-q,t1]at hy;cases hy
 have q2:f.d≠y:=fun q=>by rw[<-q,t2]at hy;cases hy
 k_extra "M";have L2:=L.callsNew hf hy [];simp only[List.map_nil]at L2;generalize hσ:X0.upd (σ.upd y _) f.d _=σ2 at L2 ⊢;obtain⟨t1,t2,t3,t4⟩:=L2.top rfl
 try dsimp only at t1 t2
 k_extra "M";refine h { f with c:=y } _ rfl ?_;have e:s.setCalls []={ s with frames:={ r with calls:=[] }::fr }:=by unfold LS.setCalls;rw[hf]
 rw[e];exact L2.logA (.hush r.num)
theorem Z18{a:LA}{f:FA}{fs:List FA}{ct1:List Hn}{s:LS}{r:Frm}{fr:List Frm}{rest:lO}{d:Deed}{Q:pV}(hK:C.K=KL C.w.params)(hr:A.depth+2<recursionLimit)(hh:A.handled=none)(hu:A.units<6900)(L:LAt σ a (f::fs) ct1 s rest)(hf:s.frames=r::fr)(Z:s.Small)(hd:(∃w,d=.now w)\/(∃w,d=.soon w)\/∃t w,d=.wait t w)(h:∀σ',LAt σ' a (f::fs) ct1 (s.make r.num d) rest->Q .none σ'):X1 C A (.ref 277) [.ref a.lo,.ref f.f,Deed.v d] σ Q X:=by
 revert C A σ X a f fs ct1 s r fr rest d Q;k_extra "v";intro C A σ X a f fs ct1 s r fr rest d Q hK hr hh hu L hf Z hd h
 have hr0:A.depth<recursionLimit:=by exact Y6M hr
 obtain⟨t1,t2,t3,t4⟩:=L.top hf;have key:∀(A':Around) (Q':pV) (X':XP),A'.depth+1<recursionLimit->A'.handled=none->(∀σ',LAt σ' a (f::fs) ct1 (s.make r.num d) rest->Q' .none σ')->X1 C A' (.ref 284) [.ref a.lo,.int r.num,Deed.v d] σ Q' X':=by
  intro A' Q' X' h1 h2 h3;rcases hd with⟨w,rfl⟩|⟨w,rfl⟩|⟨t,w,rfl⟩
  ·exact Z4H hK h1 h2 L Z h3
  ·exact Z3O hK h1 h2 L Z h3
  ·exact Z3P hK h1 h2 L Z h3
 obtain⟨k,vs,e1,e2⟩:∃k vs,Deed.v d=.tup (.str k::vs)/\(k=ofString "now" \/k=ofString "soon" \/k=ofString "wait"):=by
  rcases hd with⟨w,rfl⟩|⟨w,rfl⟩|⟨t,w,rfl⟩
  ·exact⟨_,_,rfl,.inl rfl⟩
  ·exact⟨_,_,rfl,.inr (.inl rfl)⟩
  ·exact⟨_,_,rfl,.inr (.inr rfl)⟩
 rw[e1]at key ⊢;have hk:PyData.strOk k=true:=by rcases e2 with rfl|rfl|rfl<;>exact Z0 _
 have hk2:[ofString "now",ofString "soon",ofString "wait"].contains k=true:=by rcases e2 with rfl|rfl|rfl<;>decide +kernel
 k_extra "i";intro fL A' a1 a2 a3;have hh':A'.handled=none:=a1.trans hh;have hu':A'.units<9000:=by exact Y6X hu a3
 k_extra "M";refine X4.inTS (ns:=[ofString "now",ofString "soon",ofString "wait"]) hu' hk (by simp[Z0]) ?_;rw[hk2];k_extra "M";refine key _ _ _ (by exact Y6N hr a2) hh' fun σ' L'=>?_;k_extra "M";exact h _ L'
noncomputable def LS.wordOf(s:LS)(n:Int):Str:=((s.events[n.toNat]?).map (fun x=>x.word)).getD Str.empty
noncomputable def insI(x:Int):List Int->List Int
 | []=>[x]
 | y::l=>if x<=y then x::y::l else y::insI x l
noncomputable def Zz(l:List Int):List Int:=l.foldr insI []
noncomputable def LS.cancel(s:LS)(n:Int)(w:Str):LS:=
 { s with near:=s.near.filter fun x=>!(s.wordOf x==w),far:=s.far.filter fun p=>!(s.wordOf p.2==w),log:=s.log++[.cancel n (Zz ((s.near++s.far.map (fun x=>x.2)).filter fun x=>s.wordOf x==w))] }
theorem Led.swap3{σ σ':X0}{P T:lO}{w n f n' f':Addr}{o1 o2 o3 p1 p2 p3:O}(L:Led σ (P++((w,o1)::(n,o2)::(f,o3)::T)))(keep:∀b o,b≠w->σ b=some o->σ' b=some o)(hn:σ n'=none)(hf:σ f'=none)(hne:n'≠f')(k1:σ' w=some p1)(k2:σ' n'=some p2)(k3:σ' f'=some p3) :
  Led σ' (P++((w,p1)::(n',p2)::(f',p3)::T)):=by
 revert σ σ' P T w n f n' f' o1 o2 o3 p1 p2 p3;k_extra "l";intro σ σ' P T w n f n' f' o1 o2 o3 p1 p2 p3 L keep hn hf hne k1 k2 k3
 have M:Led σ (P++T):=L.sub (List.Sublist.append_left ((((List.Sublist.refl T).cons _).cons _).cons _) P);have hw:σ w=some o1:=L.at_ (w,o1) (by simp);have wf:w∉(P++T).map (fun x=>x.1):=fun hm=>by
  obtain⟨p,hp,e⟩:=List.mem_map.mp hm;have nd:=((List.perm_middle (a:=(w,o1)) (l₁:=P) (l₂:=(n,o2)::(f,o3)::T)).map (fun x=>x.1)).nodup_iff.mp L.nd;rw[map_cons,List.nodup_cons]at nd;refine nd.1 (List.mem_map.mpr ⟨p,?_,e⟩);rcases List.mem_append.mp hp with z|z
  ·exact List.mem_append_left _ z
  ·exact mem_append_right _ (.tail _ (.tail _ z))
 have wn:w≠n':=fun e=>by rw[e,hn]at hw;cases hw
 have wf':w≠f':=fun e=>by rw[e,hf]at hw;cases hw
 refine Led.perm (l:=(w,p1)::(n',p2)::(f',p3)::(P++T)) ⟨?_,fun p hp=>?_⟩ (List.perm_append_comm_assoc P [(w,p1),(n',p2),(f',p3)] T)
 ·simp only[map_cons,List.nodup_cons,List.mem_cons,not_or];exact⟨⟨wn,wf',wf⟩,⟨hne,M.free hn⟩,M.free hf,M.nd⟩
 ·simp only[List.mem_cons]at hp;rcases hp with rfl|rfl|rfl|hp
  ·exact k1
  ·exact k2
  ·exact k3
  ·exact keep _ _ (fun e=>wf (List.mem_map.mpr ⟨p,hp,e⟩)) (M.at_ p hp)
theorem LAt.rewait{σ':X0}{a:LA}{fs:List FA}{ct1:List Hn}{s:LS}{rest:lO}(L:LAt σ a fs ct1 s rest){n' f':Addr}{near:List Int}{far:List (Int×Int)}(keep:∀b o,b≠a.wd->σ b=some o->σ' b=some o)(hn:σ n'=none)(hf:σ f'=none)(W:WAt σ' a.wa a.wd n' f' near far) :
  LAt σ' { a with ne:=n',fa:=f' } fs ct1 { s with near:=near,far:=far } rest:=by
 refine⟨?_,L.len⟩;have M:=L.led;exact Led.swap3 (P:=[tabE,(a.lo,.inst 322 a.d),(a.d,.sd [("cast",.ref a.ca),("posts",.ref a.po),("time",.int s.time),("events",.ref a.ev),("log",.ref a.lg),("waits",.ref a.wa),("frames",.ref a.fr),("fresh",optV s.fresh)]),(a.ca,.list ((ct1.map Hn.hd).map hv)),(a.po,.list (s.posts.map V.str)),(a.ev,.list (s.events.map Evt.v)),(a.lg,.list (s.log.map Row.v)),(a.wa,.inst 191 a.wd)]) (T:=(a.fr,.list ((fs.map fun f=>V.ref f.f).reverse))::(fpF fs s.frames++rest)) M keep hn hf W.nf W.hd W.hn W.hf
theorem Z1F(x:Int):∀l:List Int,(insI x l).Perm (x::l)
 | []=>List.Perm.refl _
 | y::l=>by
  unfold insI
  split
  ·exact List.Perm.refl _
  ·exact((Z1F x l).cons y).trans (List.Perm.swap x y l)
set_option tactic.hygienic true in
theorem Z22(x:Int):∀l:List Int,l.Pairwise (·<=·)->(insI x l).Pairwise (·<=·)
 | [],_=>List.pairwise_singleton _ _
 | y::l,h=>by
  have h1:=List.pairwise_cons.mp h;unfold insI
  split
  ·rename_i q
   refine List.pairwise_cons.mpr ⟨fun z hz=>?_,h⟩;rcases List.mem_cons.mp hz with rfl|hz
   ·exact q
   ·exact Int.le_trans q (h1.1 z hz)
  ·rename_i q
   refine List.pairwise_cons.mpr ⟨fun z hz=>?_,Z22 x l h1.2⟩;rcases List.mem_cons.mp ((Z1F x l).mem_iff.mp hz) with rfl|hz
   ·exact Int.le_of_lt (Int.not_le.mp q)
   ·exact h1.1 z hz
theorem Z1q:∀l:List Int,(Zz l).Perm l
 | []=>List.Perm.refl _
 | x::l=>(Z1F x (Zz l)).trans ((Z1q l).cons x)
theorem Z10:∀l:List Int,(Zz l).Pairwise (·<=·)
 | []=>.nil
 | x::l=>Z22 x (Zz l) (Z10 l)
theorem Z2d{l m:List Int}(h:l.Perm m)(hs:l.Pairwise (·<=·)):l=Zz m:=
 List.Perm.eq_of_pairwise (le:=(·<=·)) (fun a b z z x y=>Int.le_antisymm x y) hs (Z10 m) (h.trans (Z1q m).symm)
theorem Z13{l:List Int}{p:Int->Bool}{x:Int}(hx:x∈l):(l.filter p).contains x=p x:=by
 rw[Bool.eq_iff_iff];simp[hx]
theorem Z38{a:LA}{f:FA}{fs:List FA}{ct1:List Hn}{s:LS}{r:Frm}{fr:List Frm}{rest:lO}{w:Str}{Q:pV}(hK:C.K=KL C.w.params)(hr:A.depth+2<recursionLimit)(hh:A.handled=none)(hu:A.units<6900)(L:LAt σ a (f::fs) ct1 s rest)(hf:s.frames=r::fr)(Z:s.Small)(hne:∀n∈s.near,0<=n/\n<s.events.length)(hfa:∀p∈s.far,0<=p.2/\p.2<s.events.length)(h:∀a' σ',a'.lo=a.lo->LAt σ' a' (f::fs) ct1 (s.cancel r.num w) rest->Q .none σ'):X1 C A (.ref 277) [.ref a.lo,.ref f.f,Deed.v (.cancel w)] σ Q X:=by
 revert C A σ X a f fs ct1 s r fr rest w Q;k_extra "v";intro C A σ X a f fs ct1 s r fr rest w Q hK hr hh hu L hf Z hne hfa h
 have hr0:A.depth<recursionLimit:=by(first|lia|omega)
 have z1:=Z.ne;have z2:=Z.fa;have z3:=Z.lg;have z4:=Z.ev;simp only[Deed.v];k_extra "i";k_extra "n";intro fL A' a1 a2 a3;have hh':A'.handled=none:=a1.trans hh;have hu':A'.units<9000:=by(first|lia|omega)
 k_extra "M";refine X4.inTS (ns:=[ofString "now",ofString "soon",ofString "wait"]) hu' (Z0 _) (by simp[Z0]) ?_;k_extra "M";refine Z66 hK (by(first|lia|omega)) hh' L.wat (by(first|lia|omega)) (by(first|lia|omega)) ?_;k_extra "A";intro x σ1 ps g hx hp ho hl;have L1:=L.add g hx hl;have hlen:=hp.length_eq;have mem:∀n∈s.near++ps.map (fun x=>x.2),0<=n/\n<s.events.length:=fun n hn=>by
  rcases List.mem_append.mp hn with z|z
  ·exact hne n z
  ·obtain⟨p,hp',rfl⟩:=List.mem_map.mp z;exact hfa p (hp.mem_iff.mp hp')
 have g5:=L1.led.get 5 rfl;refine⟨_,_,ItV.list hh' (.inl hl),?_⟩;k_extra "r";intro L';refine Xa.pure (fun y=>match y with|.int n=>s.wordOf n==w|_=>false) id (.inl hl) _ _ ?_ ?_ (by simp[sizeLine_eq];(first|lia|omega)) ?_
 ·k_extra "r";intro y hy;k_extra "r";intro Q hQ;obtain⟨n,hn,rfl⟩:=List.mem_map.mp hy;obtain⟨n0,n1⟩:=mem n hn;obtain⟨i,rfl⟩:=Int.eq_ofNat_of_zero_le n0;have hi:i<s.events.length:=by(first|lia|omega)
  have e2:s.wordOf (i:Int)=(s.events[i]).word:=by simp[LS.wordOf,hi]
  dsimp only at hQ;rw[e2]at hQ;k_extra "M";refine X5.list (y:=Evt.v s.events[i]) (.inl g5) (by(first|lia|omega)) (by(first|lia|omega)) (by simp[hi]) ?_;simp only[Evt.v];k_extra "M";exact hQ
 ·intro y hy _ Q hQ;k_extra "M";exact hQ
 intro y hy;have e1:([]:List V)++List.map id (List.filter (fun y=>match y with|.int n=>s.wordOf n==w|_=>false) ((s.near++ps.map (fun x=>x.2)).map V.int))=((s.near++ps.map (fun x=>x.2)).filter fun n=>s.wordOf n==w).map V.int:=by
  rw[nil_append,map_id,filter_map];rfl
 rw[e1];have L2:=L1.new (.list (((s.near++ps.map (fun x=>x.2)).filter fun n=>s.wordOf n==w).map V.int)) hy;generalize X0.upd σ1 y _=σ2 at L2 ⊢;have gy:σ2 y=some (.list (((s.near++ps.map (fun x=>x.2)).filter fun n=>s.wordOf n==w).map V.int)):=L2.getR 0 rfl;k_extra "M";refine Z79 hK (by(first|lia|omega)) hh' (by(first|lia|omega)) L2.wat gy (by(first|lia|omega)) (by(first|lia|omega)) ?_;intro n' f' σ3 keep hn' hf' W3;have en:(s.near.filter fun x=>!((s.near++ps.map (fun x=>x.2)).filter fun n=>s.wordOf n==w).contains x)=s.near.filter fun x=>!(s.wordOf x==w):=
  List.filter_congr fun x hx=>by rw[Z13 (List.mem_append_left _ hx)]
 have ef:(s.far.filter fun p=>!((s.near++ps.map (fun x=>x.2)).filter fun n=>s.wordOf n==w).contains p.2)=s.far.filter fun p=>!(s.wordOf p.2==w):=
  List.filter_congr fun p hp'=>by rw[Z13 (mem_append_right _ (mem_map_of_mem (hp.mem_iff.mpr hp')))]
 rw[en,ef]at W3;have gy3:=keep y _ (fun e=>by rw[e,L2.led.get 8 rfl]at gy;cases gy) gy;have L3:=(L2.rewait keep hn' hf' W3).drop.drop;obtain⟨t1,t2,t3,t4⟩:=L3.top hf;have g1:=L3.led.get 1 rfl;have g2:=L3.led.get 2 rfl;have g6:=L3.led.get 6 rfl;dsimp only at g1 g2 g6;k_extra "M";have flen:((s.near++ps.map (fun x=>x.2)).filter fun n=>s.wordOf n==w).length<=20000:=Nat.le_trans (List.length_filter_le ..) (by simp;(first|lia|omega));refine X1.sortedInts2 (.inl gy3) (by(first|lia|omega)) ?_;intro b ns hb hpm hso;have ens:ns=Zz ((s.near++s.far.map (fun x=>x.2)).filter fun x=>s.wordOf x==w):=Z2d (hpm.trans (List.Perm.filter _ (List.Perm.append_left _ (hp.map _)))) hso;have nlen:=hpm.length_eq;have L4:=L3.new (.list (ns.map V.int)) hb;generalize X0.upd σ3 b _=σ4 at L4 ⊢;have gb:σ4 b=some (.list (ns.map V.int)):=L4.getR 0 rfl;replace L4:=L4.drop;have g6:=L4.led.get 6 rfl;dsimp only at g1 g2 g6;k_extra "M";refine X1.tupOf (.inl gb) (by simp[sizeLine_eq];(first|lia|omega)) ?_;k_extra "M";refine h { a with ne:=n',fa:=f' } _ rfl ?_;have L5:=L4.logA (.cancel r.num ns);rw[ens]at L5 ⊢;unfold LS.cancel;exact L5
theorem LAt.deedsTop{a:LA}{fs:List FA}{f:FA}{ct1:List Hn}{s:LS}{r:Frm}{fr:List Frm}{rest:lO}(L:LAt σ a (f::fs) ct1 s rest)(hf:s.frames=r::fr)(ds:List Deed) :
  LAt (σ.upd f.e (.list (ds.map Deed.v))) a (f::fs) ct1 { s with frames:={ r with deeds:=ds }::fr } rest:=by
 obtain⟨M,l⟩:=L;refine⟨?_,by rw[hf]at l;simpa using l⟩;unfold fp at M ⊢;rw[hf]at M;exact M.set 15 _ rfl
theorem LAt.callsTop{a:LA}{fs:List FA}{f:FA}{ct1:List Hn}{s:LS}{r:Frm}{fr:List Frm}{rest:lO}(L:LAt σ a (f::fs) ct1 s rest)(hf:s.frames=r::fr)(cs:List Str) :
  LAt (σ.upd f.c (.list (cs.map V.str))) a (f::fs) ct1 { s with frames:={ r with calls:=cs }::fr } rest:=
 LAt.calls (fs1:=[]) (fr1:=[]) rfl hf L cs
theorem LAt.popF{a:LA}{fs:List FA}{f:FA}{ct1:List Hn}{s:LS}{r:Frm}{fr:List Frm}{rest:lO}(L:LAt σ a (f::fs) ct1 s rest)(hf:s.frames=r::fr) :
  LAt (σ.upd a.fr (.list ((fs.map fun f=>V.ref f.f).reverse))) a fs ct1 { s with frames:=fr } rest:=by
 revert σ a fs f ct1 s r fr rest;k_extra "F";intro σ a fs f ct1 s r fr rest L hf
 obtain⟨M,l⟩:=L;refine⟨?_,by rw[hf]at l;simpa using l⟩;unfold fp at M ⊢;rw[hf]at M;have M1:=M.set 11 (.list ((fs.map fun f=>V.ref f.f).reverse)) rfl;exact M1.sub ((List.Sublist.refl [_,_,_,_,_,_,_,_,_,_,_,_]).append (((((List.Sublist.refl _).cons _).cons _).cons _).cons _))
noncomputable def LS.deed(s:LS)(n:Int):Deed->LS
 | .now w=>s.make n (.now w)
 | .soon w=>s.make n (.soon w)
 | .wait t w=>s.make n (.wait t w)
 | .cancel w=>s.cancel n w
 | .join h=>{ s.join h with log:=s.log++[.join n h] }
 | .leave h=>{ s.away h with log:=s.log++[.leave n h] }
 | .hush=>{ s.setCalls [] with log:=s.log++[.hush n] }
noncomputable def Deed.Fine:Deed->Prop
 | .join n=>PyData.strOk n=true
 | .leave n=>PyData.strOk n=true
 | _=>True
theorem Z7d(hK:C.K=KL C.w.params){a:LA}{f:FA}{fs:List FA}{ct1:List Hn}{s:LS}{r:Frm}{fr:List Frm}{rest:lO}{d:Deed}{Q:pV}(hr:A.depth+2<recursionLimit)(hh:A.handled=none)(hu:A.units<6900)(L:LAt σ a (f::fs) ct1 s rest)(hf:s.frames=r::fr)(Z:s.Small)(N:s.Names)(hd:d.Fine)(hne:∀n∈s.near,0<=n/\n<s.events.length)(hfa:∀p∈s.far,0<=p.2/\p.2<s.events.length)(h:∀a' f' σ',a'.lo=a.lo->f'.f=f.f->LAt σ' a' (f'::fs) ct1 (s.deed r.num d) rest->Q .none σ'):X1 C A (.ref 277) [.ref a.lo,.ref f.f,Deed.v d] σ Q X:=by
 cases d with
 | now w=>exact Z18 hK hr hh hu L hf Z (.inl ⟨w,rfl⟩) fun σ'=>h a f σ' rfl rfl
 | soon w=>exact Z18 hK hr hh hu L hf Z (.inr (.inl ⟨w,rfl⟩)) fun σ'=>h a f σ' rfl rfl
 | wait t w=>exact Z18 hK hr hh hu L hf Z (.inr (.inr ⟨t,w,rfl⟩)) fun σ'=>h a f σ' rfl rfl
 | cancel w=>exact Z38 hK hr hh hu L hf Z hne hfa fun a' σ' e=>h a' f σ' e rfl
 | join n=>exact Z3Q hK (by exact Y6M hr) hh hu L hf Z N hd fun σ'=>h a f σ' rfl rfl
 | leave n=>exact Z3H hK (by exact Y6Y hr) hh hu L hf Z N hd fun σ'=>h a f σ' rfl rfl
 | hush=>exact Z3R hK (by exact Y6M hr) hh hu L hf Z fun f' σ' e=>h a f' σ' rfl e
noncomputable def LS.goOn(ct1:List Hn)(s:LS):LS:=match s.frames with
 | []=>s
 | r::fr=>match r.deeds with
  | d::ds=>LS.deed { s with frames:={ r with deeds:=ds }::fr } r.num d
  | []=>match r.calls with
   | n::cs=>match ct1.find? (fun h=>h.name==n) with
    | some h=>LS.callIn { s with frames:={ r with calls:=cs }::fr } r.num h
    | none=>s
   | []=>{ s with frames:=fr,log:=s.log++[.fin r.num] }
structure LS.Ok(ct1:List Hn)(s:LS):Prop where
 Z:s.Small
 N:s.Names
 po:∀n∈s.posts,n∈ct1.map (fun x=>x.name)
 ca:∀r∈s.frames,∀n∈r.calls,n∈ct1.map (fun x=>x.name)
 de:∀r∈s.frames,r.deeds.length<=1000/\∀d∈r.deeds,d.Fine
theorem LS.Small.top{s:LS}{r r':Frm}{fr:List Frm}(Z:s.Small)(hf:s.frames=r::fr):({ s with frames:=r'::fr }:LS).Small:=
 ⟨Z.po,Z.ev,Z.lg,Z.ne,Z.fa,by have:=Z.fr;rw[hf]at this;simpa using this⟩
theorem Z14{ct1:List Hn}(K:COk ct1){h:Hn}(hm:h∈ct1):ct1.find? (fun x=>x.name==h.name)=some h:=by
 cases e:ct1.find? (fun x=>x.name==h.name) with
 | none=>exact absurd (List.find?_eq_none.mp e h hm) (by simp)
 | some y=>
  have h1:=List.mem_of_find?_eq_some e;have h2:y.name=h.name:=by simpa using List.find?_some e
  rw[K.one h1 hm h2]
theorem Z7e{a:LA}{f:FA}{fs:List FA}{ct1:List Hn}{s:LS}{r:Frm}{fr:List Frm}{rest:lO}{Q:pV}(hK:C.K=KL C.w.params)(hr:A.depth+3<recursionLimit)(hh:A.handled=none)(hu:A.units<6800)(L:LAt σ a (f::fs) ct1 s rest)(hf:s.frames=r::fr)(W:s.Ok ct1)(K:COk ct1)(hds:∀h∈ct1,h.ds.length<=1000)(hne:∀n∈s.near,0<=n/\n<s.events.length)(hfa:∀p∈s.far,0<=p.2/\p.2<s.events.length)(h:∀a' fs' σ',a'.lo=a.lo->LAt σ' a' fs' ct1 (s.goOn ct1) rest->Q .none σ'):X1 C A (.ref 258) [.ref a.lo,.ref f.f] σ Q X:=by
 revert C A σ X a f fs ct1 s r fr rest Q;k_extra "z";intro C A σ X a f fs ct1 s r fr rest Q hK hr hh hu L hf W K hds hne hfa h
 have hr0:A.depth<recursionLimit:=by exact Y6Z hr
 have g2:=L.led.get 2 rfl;obtain⟨t1,t2,t3,t4⟩:=L.top hf;have hrm:r∈s.frames:=by rw[hf];exact .head _
 obtain⟨y1,y2⟩:=W.de r hrm;obtain⟨y3,y4⟩:=W.N.fr r hrm;k_extra "c";intro fL A' a1 a2 a3;have hh':A'.handled=none:=a1.trans hh;have hu':A'.units<6900:=by exact Y70 hu a3
 k_extra "M"
 cases hdd:r.deeds with
 | cons d ds=>
  rw[hdd]at t4 y2 y1;refine Br.t (by simp) ?_;k_extra "M";refine X1.pop_at (j:=0) t4 (by decide) (by rw[seqIndex_of (by(first|lia|omega)) (by simp<;>(first|lia|omega))];rfl) rfl (by rw[length_map,sizeLine_eq];(first|lia|omega)) ?_;have L2:=L.deedsTop hf ds;have e:List.eraseIdx (List.map Deed.v (d::ds)) 0=ds.map Deed.v:=rfl;rw[e];generalize hσ:X0.upd σ f.e _=σ2 at L2 ⊢;k_extra "M";have N2:({ s with frames:={ r with deeds:=ds }::fr }:LS).Names:=⟨W.N.po,fun q hq=>by
   rcases List.mem_cons.mp hq with rfl|hq
   ·exact⟨y3,y4⟩
   ·exact W.N.fr q (by rw[hf];exact .tail _ hq)⟩
  have q1:=y2 d (.head _);refine Z7d hK (r:={ r with deeds:=ds }) (fr:=fr) (by exact Y71 hr a2) hh' hu' L2 rfl (W.Z.top hf) N2 q1 hne hfa fun a' f' σ3 e2 e3 L3=>?_;k_extra "M";refine h a' (f'::fs) _ e2 ?_;unfold LS.goOn;rw[hf];simp only[hdd];exact L3
 | nil=>
  rw[hdd]at t4;refine Br.f (by simp) ?_;k_extra "M"
  cases hcc:r.calls with
  | cons n cs=>
   rw[hcc]at t3 y3 y4;refine Br.t (by simp) ?_;k_extra "M";refine X1.pop_at (j:=0) t3 (by decide) (by rw[seqIndex_of (by(first|lia|omega)) (by simp<;>(first|lia|omega))];rfl) rfl (by rw[length_map,sizeLine_eq];(first|lia|omega)) ?_;have L2:=L.callsTop hf cs;have e:List.eraseIdx (List.map V.str (n::cs)) 0=cs.map V.str:=rfl;rw[e];generalize hσ:X0.upd σ f.c _=σ2 at L2 ⊢;k_extra "M";have N2:({ s with frames:={ r with calls:=cs }::fr }:LS).Names:=⟨W.N.po,fun q hq=>by
    rcases List.mem_cons.mp hq with rfl|hq
    ·exact⟨by simp at y3 ⊢;exact(Np 0x13886400000000270fc8009) y3,fun x hx=>y4 x (.tail _ hx)⟩
    ·exact W.N.fr q (by rw[hf];exact .tail _ hq)⟩
   have hn:n∈ct1.map (fun x=>x.name):=W.ca r hrm n (by rw[hcc];exact .head _);obtain⟨hn0,hm,e0⟩:=List.mem_map.mp hn;subst e0;have ef:ct1.find? (fun h=>h.name==hn0.name)=some hn0:=Z14 K hm;refine Z68 hK (r:={ r with calls:=cs }) (fr:=fr) (by exact(Nr 0x8702b0438058424847805829) hr a2) hh' (by exact(Np 0xd7a64010000001af4c8029) hu') L2 rfl (W.Z.top hf) N2 K hm hds fun f' σ3 e3 L3=>?_;k_extra "M";refine h a (f'::fs) _ rfl ?_;unfold LS.goOn;rw[hf];simp only[hdd,hcc,ef];exact L3
  | nil=>
   rw[hcc]at t3;refine Br.f (by simp) ?_;have g11:σ a.fr=some (.list ((fs.map fun f=>V.ref f.f).reverse++[.ref f.f])):=by
    have:=L.led.get 11 rfl;rw[map_cons,reverse_cons]at this;exact this
   have z1:=W.Z.fr;have z2:=L.len;have z3:=W.Z.lg;rw[hf]at z1 z2;simp only[length_cons]at z1 z2;k_extra "M";have L2:=L.popF hf;have t1':(σ.upd a.fr (.list ((fs.map fun f=>V.ref f.f).reverse))) f.f=some (.inst 212 f.d):=X0.miss (X0.ne_kind t1 g11 (by simp[O.kind])) t1;have t2':(σ.upd a.fr (.list ((fs.map fun f=>V.ref f.f).reverse))) f.d=_:=X0.miss (X0.ne_kind t2 g11 (by simp[O.kind])) t2;generalize hσ:X0.upd σ a.fr _=σ2 at L2 t1' t2' ⊢
   try dsimp only at g2
   k_extra "M";refine h a fs _ rfl ?_;unfold LS.goOn;rw[hf];simp only[hdd,hcc];exact L2.logA (.fin r.num)
theorem Xu.unique:∀{hs:List Hd}{ns:List Str}{w:Str}{o1 o2:List Str}(h1:Xu hs ns w o1)(h2:Xu hs ns w o2),o1=o2:=by
 k_extra "K";intro hs ns w o1 o2 h1 h2;obtain⟨p,a1,a2,rfl⟩:=h1;obtain⟨q,b1,b2,rfl⟩:=h2;have e:p=q:=by
  refine List.Perm.eq_of_pairwise (le:=slt _) ?_ a2 b2 (a1.trans b1.symm);intro i j _ _ x y;unfold slt at x y;simp only[decide_eq_true_eq,decide_eq_false_iff_not]at x y;exact Y75 x y
 rw[e]
open Classical in
noncomputable def Zg(ct1:List Hn)(ps:List Str)(w:Str):List Str:=if h:∃out,Xu (ct1.map Hn.hd) ps w out then Classical.choose h else []
theorem Z69{ct1:List Hn}{ps:List Str}{w:Str}{out:List Str}(h:Xu (ct1.map Hn.hd) ps w out):out=Zg ct1 ps w:=by
 unfold Zg;have hx:∃out,Xu (ct1.map Hn.hd) ps w out:=⟨out,h⟩;rw[dif_pos hx];exact h.unique (Classical.choose_spec hx)
noncomputable def minP(l:List (Int×Int)):Option (Int×Int):=l.find? fun p=>l.all fun q=>!lexlt q p
theorem Z1r{p q:Int×Int}(h1:lexlt p q=false)(h2:lexlt q p=false):p=q:=by
 unfold lexlt at h1 h2;simp only[Bool.or_eq_false_iff,decide_eq_false_iff_not,Bool.and_eq_false_imp,beq_iff_eq]at h1 h2;obtain⟨a,b⟩:=h1;obtain⟨c,d⟩:=h2;have e:p.1=q.1:=by exact Yv a c
 have f:=b e;exact Prod.ext e (by exact(Js 0x2194432192009523110c101529) d e f)
theorem Z4j{l:List (Int×Int)}{p:Int×Int}(hp:p∈l)(hm:∀q∈l,lexlt q p=false):minP l=some p:=by
 unfold minP;have hok:(l.all fun q=>!lexlt q p)=true:=by
  rw[List.all_eq_true];intro q hq;simp[hm q hq]
 cases e:l.find? (fun p=>l.all fun q=>!lexlt q p) with
 | none=>exact absurd hok (List.find?_eq_none.mp e p hp)
 | some y=>
  have h1:=List.mem_of_find?_eq_some e;have h2:=List.find?_some e;simp only[List.all_eq_true,Bool.not_eq_true']at h2;rw[Z1r (hm y h1) (h2 p hp)]
noncomputable def LS.begins(ct1:List Hn)(s:LS)(n:Int):LS:=s.begin n (Zg ct1 s.posts (s.wordOf n))
noncomputable def LS.step(ct1:List Hn)(s:LS):Option LS:=match s.fresh with
 | some n=>some (LS.begins ct1 { s with fresh:=none } n)
 | none=>match s.frames with
  | _::_=>some (s.goOn ct1)
  | []=>match s.near with
   | n::ns=>some (LS.begins ct1 { s with near:=ns } n)
   | []=>match minP s.far with
    | some p=>some (LS.begins ct1 { s with far:=s.far.erase p,time:=max s.time p.1 } p.2)
    | none=>none
structure LS.Nums(s:LS):Prop where
 fresh:∀n,s.fresh=some n->0<=n/\n<s.events.length
 near:∀n∈s.near,0<=n/\n<s.events.length
 far:∀p∈s.far,0<=p.2/\p.2<s.events.length
 word:∀e∈s.events,PyData.strOk e.word=true
theorem Z1s(E:LC C){a:LA}{fs:List FA}{ct1:List Hn}{s:LS}{rest:lO}{n:Int}{Q:pV}(hr:A.depth+2<recursionLimit)(hh:A.handled=none)(hu:A.units<7000)(L:LAt σ a fs ct1 s rest)(Z:s.Small)(K:COk ct1)(hsub:∀n∈s.posts,n∈ct1.map (fun x=>x.name))(h0:0<=n)(h1:n<s.events.length)(hw:∀e∈s.events,PyData.strOk e.word=true)(h:∀f σ',LAt σ' a (f::fs) ct1 (s.begins ct1 n) rest->Q .none σ'):X1 C A (.ref 251) [.ref a.lo,.int n] σ Q X:=by
 obtain⟨i,rfl⟩:=Int.eq_ofNat_of_zero_le h0;have hi:i<s.events.length:=by exact Y77 h1
 have e1:s.events[i]?=some s.events[i]:=List.getElem?_eq_getElem hi;have e2:s.wordOf (i:Int)=(s.events[i]).word:=by simp[LS.wordOf,hi]
 refine Z6L E hr hh hu L Z K hsub e1 (hw _ (List.getElem_mem hi)) fun out f σ' hH L'=>h f σ' ?_;unfold LS.begins;rw[e2,<-Z69 hH];exact L'
theorem Z7f{a:LA}{fs:List FA}{ct1:List Hn}{s:LS}{rest:lO}{Q:pV}(E:LC C)(hr:A.depth+4<recursionLimit)(hh:A.handled=none)(hu:A.units<6700)(L:LAt σ a fs ct1 s rest)(W:s.Ok ct1)(M:s.Nums)(K:COk ct1)(hds:∀h∈ct1,h.ds.length<=1000)(h:∀a' fs' σ' s',a'.lo=a.lo->s.step ct1=some s'->LAt σ' a' fs' ct1 s' rest->Q (.bool true) σ')(h2:s.step ct1=none->Q (.bool false) σ):X1 C A (.ref 244) [.ref a.lo] σ Q X:=by
 revert C A σ X a fs ct1 s rest Q;k_extra "t";intro C A σ X a fs ct1 s rest Q E hr hh hu L W M K hds h h2
 have hK:=E.hK;have hr0:A.depth<recursionLimit:=by exact Y78 hr
 have g2:=L.led.get 2 rfl;have g11:=L.led.get 11 rfl;have z1:=W.Z.fr;have z2:=L.len;k_extra "f";k_extra "n";intro fL A' a1 a2 a3;have hh':A'.handled=none:=a1.trans hh
 cases hfr:s.fresh with
 | some n=>
  rw[hfr]at g2
  try dsimp only[optV]at g2
  k_extra "M";have L2:=L.fresh none;dsimp only[optV]at L2;generalize hσ:X0.upd σ a.d _=σ2 at L2 ⊢;k_extra "M";obtain⟨m1,m2⟩:=M.fresh n hfr;refine Z1s E (by exact Y79 hr a2) hh' (by exact Y7a hu a3) L2 ⟨W.Z.po,W.Z.ev,W.Z.lg,W.Z.ne,W.Z.fa,W.Z.fr⟩ K W.po m1 m2 M.word ?_;intro f σ3 L3;k_extra "M";refine h a _ _ _ rfl ?_ L3;unfold LS.step;rw[hfr]
 | none=>
  rw[hfr]at g2
  try dsimp only[optV]at g2
  k_extra "M"
  cases fs with
  | cons f fs1=>
   obtain⟨r,fr,hf⟩:∃r fr,s.frames=r::fr:=by
    cases e:s.frames with
    | nil=>rw[e]at z2;simp at z2
    | cons r fr=>exact⟨r,fr,rfl⟩
   rw[map_cons,reverse_cons]at g11;refine Br.t (by simp) ?_;k_extra "M";refine Z7e hK (by exact(Nr 0x8f02b0438058424849805829) hr a2) hh' (by exact(Nq 0x6a432108f00b04490000001a2cc8029) hu a3) L hf W K hds M.near M.far ?_;k_extra "A";intro a' fs' σ2 e2 L2;k_extra "M";refine h a' _ _ _ e2 ?_ L2;unfold LS.step;rw[hfr,hf]
  | nil=>
   have hf:s.frames=[]:=by
    cases e:s.frames with
    | nil=>rfl
    | cons r fr=>rw[e]at z2;simp at z2
   refine Br.f (by simp) ?_;k_extra "M";refine Z78 hK (by exact Y7d hr a2) hh' (by exact(Nq 0x8ca32108f00b04490000001a2cc8029) hu a3) L.wat (by have:=W.Z.ne;exact Y6O this) (by have:=W.Z.fa;exact Y6O this) ?_ ?_ ?_
   ·k_extra "n";intro n ns hn;have L2:=L.near ns;generalize hσ:X0.upd σ a.ne _=σ2 at L2 ⊢;k_extra "M";obtain⟨m1,m2⟩:=M.near n (by rw[hn];exact .head _);refine Z1s E (by exact Y79 hr a2) hh' (by exact Y7a hu a3) L2 ⟨W.Z.po,W.Z.ev,W.Z.lg,by have:=W.Z.ne;rw[hn]at this;simp at this ⊢;exact Y7f this,W.Z.fa,W.Z.fr⟩ K W.po m1 m2 M.word ?_;k_extra "n";intro f σ3 L3;k_extra "M";refine h a _ _ _ rfl ?_ L3;unfold LS.step;rw[hfr,hf,hn]
   ·intro e1 e2;k_extra "M";refine h2 ?_;unfold LS.step;rw[hfr,hf,e1,e2];rfl
   ·intro e1 p hp hm;have L2:=L.far (s.far.erase p);generalize hσ:X0.upd σ a.fa _=σ2 at L2 ⊢;have g2:=L2.led.get 2 rfl
    try dsimp only at g2
    obtain⟨m1,m2⟩:=M.far p hp;have es:s.step ct1=some (LS.begins ct1 { s with far:=s.far.erase p,time:=max s.time p.1 } p.2):=by
     unfold LS.step;rw[hfr,hf,e1,Z4j hp hm]
    have Z2:({ s with far:=s.far.erase p,time:=max s.time p.1 }:LS).Small:=⟨W.Z.po,W.Z.ev,W.Z.lg,W.Z.ne,Nat.le_trans (List.length_erase_le ..) W.Z.fa,W.Z.fr⟩;k_extra "M"
    by_cases hlt:s.time<p.1
    ·refine Br.t (by simpa using hlt) ?_;k_extra "M";have L3:=L2.time p.1;dsimp only at L3;generalize hσ3:X0.upd σ2 a.d _=σ3 at L3 ⊢;have e3:max s.time p.1=p.1:=by exact Y7g hlt
     rw[<-e3]at L3;k_extra "M";refine Z1s E (by exact Y79 hr a2) hh' (by exact Y7a hu a3) L3 Z2 K W.po m1 m2 M.word ?_;intro f σ4 L4;k_extra "M";exact h a _ _ _ rfl es L4
    ·refine Br.f (by simpa using hlt) ?_;have e3:max s.time p.1=s.time:=by exact Y7h hlt
     rw[e3]at es Z2;k_extra "M";refine Z1s E (by exact Y79 hr a2) hh' (by exact Y7a hu a3) L2 Z2 K W.po m1 m2 M.word ?_;intro f σ4 L4;k_extra "M";exact h a _ _ _ rfl es L4
noncomputable def LS.runs(ct1:List Hn):Nat->LS->Nat×LS
 | 0,s=>(0,s)
 | k+1,s=>match s.step ct1 with
  | none=>(0,s)
  | some s'=>((LS.runs ct1 k s').1+1,(LS.runs ct1 k s').2)
theorem LS.runs_some{ct1:List Hn}{k:Nat}{s s':LS}(h:s.step ct1=some s'):LS.runs ct1 (k+1) s=((LS.runs ct1 k s').1+1,(LS.runs ct1 k s').2):=by
 rw[LS.runs];simp only[h]
theorem LS.runs_none{ct1:List Hn}{k:Nat}{s:LS}(h:s.step ct1=none):LS.runs ct1 k s=(0,s):=by
 cases k with
 | zero=>rfl
 | succ k=>rw[LS.runs];simp only[h]
theorem Z7V{a:LA}{fs:List FA}{ct1:List Hn}{s:LS}{rest:lO}{m:Nat}{Q:pV}(E:LC C)(hr:A.depth+5<recursionLimit)(hh:A.handled=none)(hu:A.units<6600)(L:LAt σ a fs ct1 s rest)(K:COk ct1)(hds:∀h∈ct1,h.ds.length<=1000)(P:Nat->LS->Prop)(h0:P 0 s)(hs:∀k s1 s2,k<m->P k s1->s1.step ct1=some s2->P (k+1) s2)(hok:∀k s1,k<m->P k s1->s1.Ok ct1/\s1.Nums)(h:∀k a' fs' s' σ',a'.lo=a.lo->k<=m->P k s'->LS.runs ct1 m s=(k,s')->(k<m->s'.step ct1=none)->LAt σ' a' fs' ct1 s' rest->Q (.int k) σ'):X1 C A (.ref 291) [.ref a.lo,.int m] σ Q X:=by
 revert C A σ X a fs ct1 s rest m Q E hr hh hu L K hds P h0 hs hok h;k_extra "q";intro C A σ X a fs ct1 s rest m Q E hr hh hu L K hds P h0 hs hok h
 have hK:=E.hK;have hr0:A.depth<recursionLimit:=by exact(Nq 0x20084b805829) hr
 k_extra "c";intro fL A' a1 a2 a3;have hh':A'.handled=none:=a1.trans hh;have hr2:A'.depth<recursionLimit:=by exact(Nr 0x11043805842484b805829) hr a2
 k_extra "M";refine Z2P hK hr2 (.int _) ?_;k_extra "M";refine Ex.while (fun n ρ σ1=>∃k a1 fs1 s1,a1.lo=a.lo/\n=m - k/\k<=m/\P k s1/\LS.runs ct1 m s=(k+(LS.runs ct1 (m - k) s1).1,(LS.runs ct1 (m - k) s1).2)/\ρ.get "self" = some (.ref a1.lo)/\ρ.get "most" = some (.int m)/\ρ.get "done" = some (.int k)/\LAt σ1 a1 fs1 ct1 s1 rest) ?_ m ⟨0,a,fs,s,rfl,by simp,by exact(Np 768),h0,by simp,by k_extra "a",by k_extra "a",by rw[show((0:Nat):Int)=0 from rfl];k_extra "a",L⟩;intro n ρ σ1;refine Z3t fun k a1' fs1 s1 ea en hk hP hR r1 r2 r3 L1=>?_;k_extra "M"
 by_cases hlt:k<m
 ·have W:=(hok k s1 hlt hP).1;have M:=(hok k s1 hlt hP).2;obtain⟨j,hj⟩:∃j,m - k=j+1:=⟨m - k - 1,by exact(Nq 0x1c07000def6006e208029) hlt⟩;refine Br.t (by simpa using hlt) ?_;k_extra "M";refine Z7f E (by exact(Nr 0x9302b043805842484b805829) hr a2) hh' (by exact(Nq 0x68b32108f00b044900000019c8c8029) hu a3) L1 W M K hds ?_ ?_
  ·intro a2' fs2 σ2 s2 e2 hst L2;k_extra "M";have e1:m-(k+1)=j:=by exact Y5R hj
   refine⟨m-(k+1),by rw[en];exact(Nr 0x4170e03605c21c0ac105c49) hj,k+1,a2',fs2,s2,e2.trans ea,rfl,by exact Y5S hj,hs k s1 s2 hlt hP hst,?_,by rw[e2];k_extra "a",by k_extra "a",by rw[show((k+1:Nat):Int)=(k:Int)+1 from by omega];k_extra "a",L2⟩;rw[hR,hj,LS.runs_some hst,e1];simp only[Prod.mk.injEq,and_true];exact(Nq 0x10e016b0701b02c2)
  ·intro hst;k_extra "M";refine h k a1' fs1 s1 σ1 ea hk hP ?_ (fun u=>hst) L1;rw[hR,LS.runs_none hst];rfl
 ·refine Br.f (by simpa using hlt) ?_;k_extra "M";have e1:m-k=0:=by exact(Nq 0x3000dc41004c9) hlt
  refine h k a1' fs1 s1 σ1 ea hk hP ?_ (fun z=>absurd z hlt) L1;rw[hR,e1];rfl
noncomputable def Deed.Good:Deed->Prop
 | .now w|.soon w|.cancel w|.join w|.leave w=>isW w=true
 | .wait t w=>0<=t/\t<=1000000000/\isW w=true
 | .hush=>True
theorem Z1U{x:Str}(h:isW x=true):x.length<=12:=by
 unfold isW at h;simp only[Bool.and_eq_true,decide_eq_true_eq]at h;exact h.1.2
abbrev withAWord:List Str:=[ofString "now",ofString "soon",ofString "cancel",ofString "join",ofString "leave"]
theorem ZS{k w:Str}{Q:pV}(hK:C.K=KL C.w.params)(hr:A.depth+1<recursionLimit)(hh:A.handled=none)(hu:A.units<7000)(hk:withAWord.contains k=true)(hw:isW w=true)(h:∀σ',X6 σ σ'->Q (.bool true) σ'):X1 C A (.ref 121) [.tup [.str k,.str w]] σ Q X:=by
 revert C A σ X k w Q;k_extra "B";intro C A σ X k w Q hK hr hh hu hk hw h
 have hr0:A.depth<recursionLimit:=by exact Y37 hr
 have hkok:PyData.strOk k=true:=by
  simp only[List.contains_eq_mem,decide_eq_true_eq,List.mem_cons,List.not_mem_nil,or_false]at hk;rcases hk with rfl|rfl|rfl|rfl|rfl<;>exact Z0 _
 have hwl:=Z1U hw;k_extra "f";intro fL A' a1 a2 a3;have hh':A'.handled=none:=a1.trans hh;have hr2:A'.depth<recursionLimit:=by exact Y6L hr a2
 k_extra "M";refine X4.inTS (ns:=withAWord) (by exact Y6T hu a3) hkok (by simp[withAWord,Z0]) ?_;rw[hk];k_extra "M";refine Z2w hK hr2 hh' (by exact Y7q hwl) fun σ' g=>?_;rw[hw];k_extra "M";exact h _ g
theorem Z5p{t:Int}{w:Str}{Q:pV}(hK:C.K=KL C.w.params)(hr:A.depth+1<recursionLimit)(hh:A.handled=none)(hu:A.units<7000)(h0:0<=t)(h1:t<=1000000000)(hw:isW w=true)(h:∀σ',X6 σ σ'->Q (.bool true) σ'):X1 C A (.ref 121) [.tup [.str (ofString "wait"),.int t,.str w]] σ Q X:=by
 revert C A σ X t w Q;k_extra "B";intro C A σ X t w Q hK hr hh hu h0 h1 hw h
 have hr0:A.depth<recursionLimit:=by exact Y37 hr
 have hwl:=Z1U hw;have hk:withAWord.contains (ofString "wait")=false:=by decide +kernel
 k_extra "f";intro fL A' a1 a2 a3;have hh':A'.handled=none:=a1.trans hh;have hr2:A'.depth<recursionLimit:=by exact Y6L hr a2
 k_extra "M";refine X4.inTS (ns:=withAWord) (by exact Y6T hu a3) (Z0 _) (by simp[withAWord,Z0]) ?_;rw[hk];k_extra "M";refine Z2P hK hr2 (.int _) ?_;k_extra "M";refine Br.t (by simpa using h0) ?_;k_extra "M";refine Br.t (by simpa using h1) ?_;k_extra "M";refine Z2w hK hr2 hh' (by exact Y7q hwl) fun σ' g=>?_;rw[hw];k_extra "M";exact h _ g
theorem Z5q(hK:C.K=KL C.w.params){Q:pV}(hr:A.depth+1<recursionLimit)(hh:A.handled=none)(hu:A.units<7000)(h:∀σ',X6 σ σ'->Q (.bool true) σ'):X1 C A (.ref 121) [.tup [.str (ofString "hush")]] σ Q X:=by
 have hr0:A.depth<recursionLimit:=by exact Y37 hr
 have hk:withAWord.contains (ofString "hush")=false:=by decide +kernel
 k_extra "f";intro fL A' a1 a2 a3;k_extra "M";refine X4.inTS (ns:=withAWord) (by exact Y6T hu a3) (Z0 _) (by simp[withAWord,Z0]) ?_;rw[hk];k_extra "M";exact h _ X6.rfl'
theorem Z6a(hK:C.K=KL C.w.params){d:Deed}{Q:pV}(hr:A.depth+1<recursionLimit)(hh:A.handled=none)(hu:A.units<7000)(hd:d.Good)(h:∀σ',X6 σ σ'->Q (.bool true) σ'):X1 C A (.ref 121) [d.v] σ Q X:=by
 cases d with
 | now w=>exact ZS hK hr hh hu (by decide +kernel) hd h
 | soon w=>exact ZS hK hr hh hu (by decide +kernel) hd h
 | wait t w=>exact Z5p hK hr hh hu hd.1 hd.2.1 hd.2.2 h
 | cancel w=>exact ZS hK hr hh hu (by decide +kernel) hd h
 | join w=>exact ZS hK hr hh hu (by decide +kernel) hd h
 | leave w=>exact ZS hK hr hh hu (by decide +kernel) hd h
 | hush=>exact Z5q hK hr hh hu h
structure Hn.Good(h:Hn):Prop where
 name:isW h.name=true
 hears:h.hears=ofString "" \/isW h.hears=true
 len:h.ds.length<=30
 ds:∀d∈h.ds,d.Good
noncomputable def Hn.tv(h:Hn)(x:V):V:=.tup [.str h.name,.int h.rank,.str h.hears,.bool h.once,x]
theorem Z3S{hn:Hn}{x:V}{Q:pV}(hK:C.K=KL C.w.params)(hr:A.depth+2<recursionLimit)(hh:A.handled=none)(hu:A.units<6900)(G:hn.Good)(hx:∃l,x=.ref l/\σ l=some (.list (hn.ds.map Deed.v)))(h:∀σ',X6 σ σ'->Q (.bool true) σ'):X1 C A (.ref 126) [hn.tv x] σ Q X:=by
 revert C A σ X hn x Q;k_extra "B";intro C A σ X hn x Q hK hr hh hu G hx h
 have hr0:A.depth<recursionLimit:=by exact Y6M hr
 have l1:=Z1U G.name;have l2:=G.len;simp only[Hn.tv];k_extra "f";intro fL A' a1 a2 a3;have hh':A'.handled=none:=a1.trans hh;have hr2:A'.depth<recursionLimit:=by exact(Nr 0x110438058424845805829) hr a2
 with_reducible refine Exs.cutJ (fun ρ σ'=>ρ.get "thing" = some (.tup [.str hn.name,.int hn.rank,.str hn.hears,.bool hn.once,x])/\X6 σ σ') ?_ ?_
 ·intro J hN _;k_extra "M";exact hN _ _ ⟨by k_extra "a",X6.rfl'⟩
 intro ρ σ1;refine Z3s fun r1 g1=>?_;with_reducible refine Exs.cutJ (fun ρ σ'=>ρ.get "thing" = some (.tup [.str hn.name,.int hn.rank,.str hn.hears,.bool hn.once,x])/\X6 σ σ') ?_ ?_
 ·intro J hN _;k_extra "M";refine Z2w hK hr2 hh' (by exact Y7q l1) fun σ2 g2=>?_;rw[G.name];k_extra "M";refine Z2P hK hr2 (.int _) ?_;k_extra "M";exact hN _ _ ⟨by k_extra "a",g1.trans g2⟩
 clear r1 g1 ρ σ1;intro ρ σ1;refine Z3s fun r1 g1=>?_;with_reducible refine Exs.cutJ (fun ρ σ'=>ρ.get "thing" = some (.tup [.str hn.name,.int hn.rank,.str hn.hears,.bool hn.once,x])/\X6 σ σ') ?_ ?_
 ·intro J hN _;k_extra "M";rcases G.hears with e|e
  ·refine Br.f (by rw[e];simp) ?_;k_extra "M";exact hN _ _ ⟨by k_extra "a",g1⟩
  ·cases hc:hn.hears != ofString "" with
   | false=>
    refine Br.f rfl ?_;k_extra "M";exact hN _ _ ⟨by k_extra "a",g1⟩
   | true=>
    refine Br.t rfl ?_;k_extra "M";refine Z2w hK hr2 hh' (by have:=Z1U e;exact Y7q this) fun σ2 g2=>?_;rw[e];k_extra "M";exact hN _ _ ⟨by k_extra "a",g1.trans g2⟩
 clear r1 g1 ρ σ1;intro ρ σ1;refine Z3s fun r1 g1=>?_;have isd:∀{A2:Around} {σ2:X0} {d:Deed} {Q2:pV} {X2:XP},A2.depth=A'.depth->A2.handled=none->A2.units=A'.units->d∈hn.ds->(∀σ',X6 σ2 σ'->Q2 (.bool true) σ')->X1 C A2 (.ref 121) [d.v] σ2 Q2 X2:=by
  intro A2 σ2 d Q2 X2 b1 b2 b3 hd hq;exact Z6a hK (by exact(Ns1 0x8703b044312438058424845805829) hr a2 b1) b2 (by exact(Nr 0x6d63220844248f00b04490000001af4c8029) hu a3 b3) (G.ds d hd) hq
 obtain⟨l,rfl,hl⟩:=hx;have hl1:=g1 _ _ hl;k_extra "M";refine Br.t (by simp;exact(Np 0x3d80707ec0009) l2) ?_;k_extra "M";refine⟨_,_,ItV.list hh' (.inl hl1),fun L'=>?_⟩;refine Xa.invJ Deed.v (fun ys out σ2=>∃done,done++ys=hn.ds/\X6 σ1 σ2/\out=(done.map fun z=>true).map V.bool) ?_ ?_ _ _ _ ⟨[],rfl,X6.rfl',rfl⟩
 ·intro J d ys out hJ σ2;refine Z2o fun done e g eo=>?_;subst eo;have e2:done.length<=30:=by rw[<-e]at l2;simp at l2;exact(Nq 0x3d8003d80e03605809) l2
  k_extra "M";refine isd rfl hh' rfl (by rw[<-e];simp) fun σ3 g3=>?_;exact hJ _ _ (by simp[sizeLine_eq];exact Y7w e2) (.inl (g3 _ _ (g _ _ hl1))) ⟨done++[d],by simpa using e,g.trans g3,by simp⟩
 ·intro out σ2;refine Z2o fun done e g eo=>?_;subst eo;rw[append_nil]at e;subst e;intro c hc;k_extra "M";refine X1.all hh' (.inl X0.hit) ?_;have e3:((hn.ds.map fun z=>true).all id)=true:=by simp
  rw[e3];k_extra "M";exact h _ ((g1.trans g).fresh hc)
structure Told(σ:X0)(hs:List (Hn×V)):Prop where
 at_:∀p∈hs,∃l,p.2=.ref l/\σ l=some (.list (p.1.ds.map Deed.v))
 good:∀p∈hs,p.1.Good
 nd:(hs.map (fun x=>x.1.name)).Nodup
 len:hs.length<=40
 names:∀p∈hs,∀d∈p.1.ds,∀n,(d=.join n\/d=.leave n)->n∈hs.map (fun x=>x.1.name)
theorem Z2y:∀{ns:List Str} {n:Str},n∉ns->sput (ns.map fun n=>(n,V.bool true)) n (.bool true)=(ns++[n]).map fun n=>(n,V.bool true)
 | [],n,_=>rfl
 | k::ns,n,h=>by
  simp only[List.mem_cons,not_or]at h;simp only[map_cons,List.cons_append,sput,h.1,if_false];exact congrArg _ (Z2y h.2)
theorem Z2z{ns:List Str}{n:Str}:(sget (ns.map fun n=>(n,V.bool true)) n).isSome=ns.contains n:=by
 unfold sget;rw[Option.isSome_map,List.find?_map,Option.isSome_map,Bool.eq_iff_iff];simp[List.find?_isSome]
theorem Z6M{l:Addr}{hs:List (Hn×V)}{Q:pV}(hK:C.K=KL C.w.params)(hS:Zk C)(hr:A.depth+3<recursionLimit)(hh:A.handled=none)(hu:A.units<6800)(T:Told σ hs)(hl:X8 C σ l (hs.map fun p=>p.1.tv p.2))(h:∀a σ',X6 σ σ'->σ a=none->σ' a=some (.list ((hs.map (fun x=>x.1.hd)).map hv))->Q (.ref a) σ'):X1 C A (.ref 133) [.ref l] σ Q X:=by
 revert C A σ X l hs Q;k_extra "B";intro C A σ X l hs Q hK hS hr hh hu T hl h
 have hr0:A.depth<recursionLimit:=by exact Y6Z hr
 have l2:=T.len;k_extra "f";k_extra "n";intro fL A' a1 a2 a3;have hh':A'.handled=none:=a1.trans hh;k_extra "M";k_extra "r";intro fa hfa;k_extra "M";refine Ev.dict0 ?_;k_extra "r";intro kn hkn;k_extra "M";obtain⟨q1,hkn0⟩:=X0.none_ne hkn;have g0:X6 σ ((σ.upd fa (.list [])).upd kn (.sd [])):=(X6.rfl'.upd hfa).upd hkn0;have lg:∀{σ1:X0},X6 σ σ1->X8 C σ1 l (hs.map fun p=>p.1.tv p.2):=fun g=>by
  rcases hl with z|z
  ·exact .inl (g _ _ z)
  ·exact .inr z
 refine⟨l,_,rfl,lg g0,?_⟩;rw[Z51];refine Xi.invJ (fun p:(Hn×V)×Nat=>V.tup [.int (p.2:Int),p.1.1.tv p.1.2]) (fun xs ρ σ1=>∃done rest,done++rest=hs/\xs=rest.zipIdx done.length/\X6 σ σ1/\σ1 fa=some (.list ((done.map (fun x=>x.1.hd)).map hv))/\σ1 kn=some (.sd ((done.map (fun x=>x.1.name)).map fun n=>(n,V.bool true)))/\ρ.get "found" = some (.ref fa)/\ρ.get "known" = some (.ref kn)) ?_ ?_ _ _ _
  ⟨[],hs,rfl,rfl,g0,X0.miss (Ne.symm q1) X0.hit,X0.hit,by k_extra "a",by k_extra "a"⟩
 ·k_extra "A";intro J p xs hN _ _;k_extra "n";intro ρ σ1;refine Z55 ?_;intro done rest e1 e2 g1 f1 f2 r1 r2;obtain⟨⟨hn,v⟩,rest,rfl⟩:∃q rest',rest=q::rest':=by
   cases rest with
   | nil=>cases e2
   | cons q rest=>exact⟨q,rest,rfl⟩
  rw[List.zipIdx_cons]at e2;obtain⟨rfl,rfl⟩:=List.cons.inj e2;have hm:(hn,v)∈hs:=by rw[<-e1];simp
  have hlen:done.length<40:=by rw[<-e1]at l2;simp at l2;exact(Nq 0x28c802000000005190e03605809) l2
  have hG:=T.good _ hm;have hv0:=T.at_ _ hm;have hv1:∃l,v=.ref l/\σ1 l=some (.list (hn.ds.map Deed.v)):=by
   obtain⟨l',z1,z2⟩:=hv0;exact⟨l',z1,g1 _ _ z2⟩
  have hnew:hn.name∉done.map (fun x=>x.1.name):=by
   have nd:=T.nd;rw[<-e1,map_append,List.nodup_append]at nd;exact fun z=>nd.2.2 _ z _ (by simp) rfl
  have hds:=hG.len;dsimp only;k_extra "M";refine Br.f (by simp;exact(Np 0x28c83840000000028c8029) hlen) ?_;k_extra "M";refine Z3S hK (by exact Y71 hr a2) hh' (by exact Y70 hu a3) hG hv1 ?_;intro σ2 g2;have f1':=g2 _ _ f1;have f2':=g2 _ _ f2;simp only[Hn.tv];k_extra "M";refine X4.inSd f2' hS ?_;rw[Z2z];have hc:(done.map (fun x=>x.1.name)).contains hn.name=false:=by simpa using hnew
  rw[hc];k_extra "M";refine Xb.sd f2' (by simp[sizeLine_eq];exact(Np 0x80000064000000000028c8029) hlen) ?_;rw[Z2y hnew];have g3:X6 σ (σ2.upd kn (.sd ((done.map (fun x=>x.1.name)++[hn.name]).map fun n=>(n,V.bool true)))):=(g1.trans g2).upd hkn0;have tv:∀{Q3:pV} {X3:XP},Q3 (.tup (hn.ds.map Deed.v)) (σ2.upd kn (.sd ((done.map (fun x=>x.1.name)++[hn.name]).map fun n=>(n,V.bool true))))->X1 C A' (.type "tuple") [v] (σ2.upd kn (.sd ((done.map (fun x=>x.1.name)++[hn.name]).map fun n=>(n,V.bool true)))) Q3 X3:=by
   intro Q3 X3 hq;obtain⟨l',z1,z2⟩:=hv0;dsimp only at z1 z2;subst z1;exact X1.tupOf (.inl (g3 _ _ z2)) (by dsimp only at hds;simp[sizeLine_eq];exact Y7w hds) hq
  have f3:(σ2.upd kn (.sd ((done.map (fun x=>x.1.name)++[hn.name]).map fun n=>(n,V.bool true)))) fa=some (.list ((done.map (fun x=>x.1.hd)).map hv)):=X0.miss (Ne.symm q1) f1';k_extra "M";refine tv ?_;k_extra "M";refine hN _ _ (lg (g3.upd hfa)) ⟨done++[(hn,v)],rest,by simpa using e1,by simp,g3.upd hfa,?_,?_,by k_extra "a",by k_extra "a"⟩
  ·rw[X0.hit];simp[hv,Hn.hd]
  ·rw[X0.miss q1 X0.hit];simp
 ·intro ρ σ1;refine Z55 ?_;intro done rest e1 e2 g1 f1 f2 r1 r2;have e3:rest=[]:=by
   cases rest with
   | nil=>rfl
   | cons p r=>rw[List.zipIdx_cons]at e2;cases e2
  subst e3;rw[append_nil]at e1;subst e1;k_extra "M";refine⟨_,_,ItV.list hh' (.inl f1),?_⟩;rw[map_map];refine Xi.invJ (fun p:Hn×V=>hv p.1.hd) (fun xs ρ σ2=>(∀p∈xs,p∈done)/\σ2=σ1/\ρ.get "found" = some (.ref fa)/\ρ.get "known" = some (.ref kn)) ?_ ?_ _ _ _ ⟨fun u z=>z,rfl,r1,r2⟩
  ·intro J ⟨hn,v⟩ xs hN _ _ ρ σ2;refine Z2n ?_;intro hsub es r1 r2;subst es;have hm:=hsub _ (.head _);simp only[hv,Hn.hd];k_extra "M";refine⟨_,_,ItV.tup hh',?_⟩;refine Xi.invJ Deed.v (fun ds ρ σ3=>(∀d∈ds,d∈hn.ds)/\σ3=σ2/\ρ.get "found" = some (.ref fa)/\ρ.get "known" = some (.ref kn)) ?_ ?_ _ _ _ ⟨fun u z=>z,rfl,by k_extra "a",by k_extra "a"⟩
   ·intro J2 d ds hN2 _ _ ρ σ3;refine Z2n ?_;intro hsub2 es r1 r2;subst es;obtain⟨k,vs,e4,e5,e6⟩:∃k vs,Deed.v d=.tup (.str k::vs)/\PyData.strOk k=true/\(([ofString "join",ofString "leave"].contains k=false)\/([ofString "join",ofString "leave"].contains k=true/\∃n,vs=[.str n]/\n∈done.map (fun x=>x.1.name))):=by
     have hd:=T.names _ hm d (hsub2 d (.head _))
     cases d with
     | now w=>exact⟨_,_,rfl,Z0 _,.inl (by decide +kernel)⟩
     | soon w=>exact⟨_,_,rfl,Z0 _,.inl (by decide +kernel)⟩
     | wait t w=>exact⟨_,_,rfl,Z0 _,.inl (by decide +kernel)⟩
     | cancel w=>exact⟨_,_,rfl,Z0 _,.inl (by decide +kernel)⟩
     | hush=>exact⟨_,_,rfl,Z0 _,.inl (by decide +kernel)⟩
     | join n=>exact⟨_,_,rfl,Z0 _,.inr ⟨by decide +kernel,n,rfl,hd n (.inl rfl)⟩⟩
     | leave n=>exact⟨_,_,rfl,Z0 _,.inr ⟨by decide +kernel,n,rfl,hd n (.inr rfl)⟩⟩
    rw[e4];k_extra "M";refine X4.inTS (ns:=[ofString "join",ofString "leave"]) (by exact Y7A hu a3) e5 (by simp[Z0]) ?_;rcases e6 with e6|⟨e6,n,rfl,hn2⟩
    ·rw[e6];k_extra "M";exact hN2 _ _ trivial ⟨fun d hd=>hsub2 d (.tail _ hd),rfl,by k_extra "a",by k_extra "a"⟩
    ·rw[e6];k_extra "M";refine X4.notInSd f2 hS ?_;rw[Z2z];have hc:(done.map (fun x=>x.1.name)).contains n=true:=by simpa using hn2
     rw[hc];k_extra "M";exact hN2 _ _ trivial ⟨fun d hd=>hsub2 d (.tail _ hd),rfl,by k_extra "a",by k_extra "a"⟩
   ·intro ρ σ3;refine Z2n ?_;intro _ es r1 r2;subst es;k_extra "M";refine hN _ _ (.inl ?_) ⟨fun p hp=>hsub p (.tail _ hp),rfl,r1,r2⟩;rw[<-map_map];exact f1
  ·intro ρ σ2;refine Z2n ?_;intro _ es r1 r2;subst es;k_extra "M";exact h fa _ g1 hfa f1
theorem Z6N{l l2:Addr}{ts:List (Str×List V)}{ns:List Str}{Q:pV}(hK:C.K=KL C.w.params)(hr:A.depth<recursionLimit)(hh:A.handled=none)(hu:A.units<6800)(hl:σ l=some (.list (ts.map fun t=>V.tup (.str t.1::t.2))))(hl2:σ l2=some (.list (ns.map V.str)))(hz:ts.length<=60)(hz2:ns.length<=60)(nd:ns.Nodup)(hsub:∀n∈ns,n∈ts.map (fun x=>x.1))(ok:∀n∈ts.map (fun x=>x.1),PyData.strOk n=true)(h:∀a σ',X6 σ σ'->σ a=none->σ' a=some (.list (ns.map V.str))->Q (.ref a) σ'):X1 C A (.ref 138) [.ref l,.ref l2] σ Q X:=by
 revert C A σ X l l2 ts ns Q;k_extra "F";intro C A σ X l l2 ts ns Q hK hr hh hu hl hl2 hz hz2 nd hsub ok h
 k_extra "c";k_extra "n";intro fL A' a1 a2 a3;have hh':A'.handled=none:=a1.trans hh;k_extra "M";refine⟨_,_,ItV.list hh' (.inl hl),?_⟩;k_extra "r";intro L';refine Xa.pure (fun u=>true) (fun y=>match y with|.tup (x::_)=>x|_=>.none) (.inl hl) _ _ ?_ ?_ (by simp[sizeLine_eq];exact Y6D hz) ?_
 ·k_extra "r";intro y hy;k_extra "r";intro Q hQ;k_extra "M";exact hQ
 ·k_extra "r";intro y hy _;k_extra "r";intro Q hQ;obtain⟨p,hp,rfl⟩:=List.mem_map.mp hy;k_extra "M";exact hQ
 k_extra "r";intro kn hkn;have e:([]:List V)++List.map (fun y=>match y with|.tup (x::_)=>x|_=>.none) (List.filter (fun u=>true) (ts.map fun t=>V.tup (.str t.1::t.2)))=(ts.map (fun x=>x.1)).map V.str:=by
  rw[nil_append,List.filter_eq_self.mpr (fun u u=>rfl),map_map,map_map];rfl
 rw[e];k_extra "M";k_extra "r";intro fa hfa;obtain⟨q1,hfa0⟩:=X0.none_ne hfa;k_extra "M";have hl2':((σ.upd kn (.list ((ts.map (fun x=>x.1)).map V.str))).upd fa (.list [])) l2=some (.list (ns.map V.str)):=X0.at_fresh hfa (X0.at_fresh hkn hl2);refine⟨_,_,ItV.list hh' (.inl hl2'),?_⟩;refine Xi.invJ V.str (fun xs ρ σ1=>∃done,done++xs=ns/\X6 σ σ1/\σ1 kn=some (.list ((ts.map (fun x=>x.1)).map V.str))/\σ1 fa=some (.list (done.map V.str))/\ρ.get "known" = some (.ref kn)/\ρ.get "found" = some (.ref fa)) ?_ ?_ _ _ _ ⟨[],rfl,(X6.rfl'.upd hkn).upd hfa0,X0.miss (Ne.symm q1) X0.hit,X0.hit,by k_extra "a",by k_extra "a"⟩
 ·intro J n xs hN _ _ ρ σ1;refine ZQ ?_;intro done e1 g1 f1 f2 r1 r2;have hm:n∈ns:=by rw[<-e1];simp
  have hm2:=hsub n hm;have hnew:n∉done:=by
   rw[<-e1,List.nodup_append]at nd;exact fun z=>nd.2.2 _ z _ (.head _) rfl
  have hlen:done.length<=60:=by rw[<-e1]at hz2;simp at hz2;exact Y6C hz2
  have hdok:∀x∈done,PyData.strOk x=true:=fun x hx=>ok x (hsub x (by rw[<-e1];simp[hx]));k_extra "M";refine X4.notInStrs (by exact Y7A hu a3) f1 (ok n hm2) ok ?_;have hc:(ts.map (fun x=>x.1)).contains n=true:=by simpa using hm2
  rw[hc];k_extra "M";refine X4.inStrs (by exact Y7A hu a3) f2 (ok n hm2) hdok ?_;have hc2:done.contains n=false:=by simpa using hnew
  rw[hc2];k_extra "M";refine hN _ _ (.inl ((g1.upd hfa0) _ _ hl2)) ⟨done++[n],by simpa using e1,g1.upd hfa0,X0.miss (Ne.symm q1) f1,?_,by k_extra "a",by k_extra "a"⟩;rw[X0.hit];simp
 ·intro ρ σ1;refine ZQ ?_;intro done e1 g1 f1 f2 r1 r2;rw[append_nil]at e1;subst e1;k_extra "M";exact h fa _ g1 hfa0 f2
noncomputable def LS.new(ns:List Str):LS:=⟨ns,0,[],[],[],[],[],none⟩
theorem Told.grow{σ σ':X0}{hs:List (Hn×V)}(T:Told σ hs)(g:X6 σ σ'):Told σ' hs:=
 ⟨fun p hp=>(T.at_ p hp).imp fun l z=>⟨z.1,g _ _ z.2⟩,T.good,T.nd,T.len,T.names⟩
theorem Led.addL{σ σ':X0}{l l2:lO}(L:Led σ l)(g:X6 σ σ')(nd:(l2.map (fun x=>x.1)).Nodup)(fr:∀p∈l2,σ p.1=none)(at_:∀p∈l2,σ' p.1=some p.2):Led σ' (l2++l):=by
 refine⟨?_,?_⟩
 ·rw[map_append,List.nodup_append];refine⟨nd,L.nd,?_⟩;intro x hx y hy e;subst e;obtain⟨p,hp,rfl⟩:=List.mem_map.mp hx;exact L.free (fr p hp) hy
 ·intro p hp;rcases List.mem_append.mp hp with hp|hp
  ·exact at_ p hp
  ·exact g _ _ (L.at_ p hp)
theorem ZB{α:Type}(A:List α){X X':List α}(h:X.Perm X'):(A++X).Perm (X'++A):=List.perm_append_comm.trans (h.append_right A)
theorem Z7g{l l2:Addr}{hs:List (Hn×V)}{ns:List Str}{rest:lO}{Q:pV}(hK:C.K=KL C.w.params)(hS:Zk C)(hr:A.depth+6<recursionLimit)(hh:A.handled=none)(hu:A.units<6700)(T:Told σ hs)(hl:X8 C σ l (hs.map fun p=>p.1.tv p.2))(hl2:σ l2=some (.list (ns.map V.str)))(hz2:ns.length<=60)(nd:ns.Nodup)(hsub:∀n∈ns,n∈hs.map (fun x=>x.1.name))(ok:∀n∈hs.map (fun x=>x.1.name),PyData.strOk n=true)(M:Led σ (tabE::rest))(h:∀a σ',LAt σ' a [] (hs.map (fun x=>x.1)) (LS.new ns) rest->X6 σ σ'->σ a.lo=none->Q (.ref a.lo) σ'):X1 C A (.ref 322) [.ref l,.ref l2] σ Q X:=by
 revert C A σ X l l2 hs ns rest Q;k_extra "t";intro C A σ X l l2 hs ns rest Q hK hS hr hh hu T hl hl2 hz2 nd hsub ok M h
 refine X1.cls (by k_extra "g") (by k_extra "g") (by k_extra "g") ?_;k_extra "A";intro w dx A1 hw hd hne h1 h2 h3;have hr1:A1.depth<recursionLimit:=by exact(Nr 0x11043805842484d805829) hr h2
 k_extra "I";k_extra "n";intro L A' a1 a2 a3;have hh':A'.handled=none:=(a1.trans h1).trans hh;have M0:Led ((σ.upd dx (.sd [])).upd w (.inst 322 dx)) ((w,.inst 322 dx)::(dx,.sd [])::tabE::rest):=(M.new (.sd []) hd).new (.inst 322 dx) (by rw[X0.upd_ne _ _ hne];exact hw);have g0:X6 σ ((σ.upd dx (.sd [])).upd w (.inst 322 dx)):=(X6.rfl'.upd hd).upd hw;generalize hσ0:(σ.upd dx (.sd [])).upd w (.inst 322 dx)=σ0 at M0 g0 ⊢;k_extra "M";have lg:X8 C σ0 l (hs.map fun p=>p.1.tv p.2):=by
  rcases hl with z|z
  ·exact .inl (g0 _ _ z)
  ·exact .inr z
 have ec:((hs.map (fun x=>x.1)).map Hn.hd).map hv=(hs.map (fun x=>x.1.hd)).map hv:=by simp[map_map,Function.comp_def]
 refine Z6M hK hS (by exact(Ns1 0x4781d821c0ac31243805842484d805829) hr h2 a2) hh' (by exact Y7D hu h3 a3) (T.grow g0) lg ?_;k_extra "n";intro ca σ1 g1 hca1 hca2;rw[<-ec]at hca2;have M1:=M0.add g1 hca1 hca2;have t1:=M1.get 1 rfl;have t2:=M1.get 2 rfl;k_extra "M";have M2:=M1.set 2 (.sd [("cast",.ref ca)]) rfl;have G2:X6 σ (σ1.upd dx (.sd [("cast",.ref ca)])):=(g0.trans g1).upd hd;generalize hσ2:X0.upd σ1 dx _=σ2 at M2 G2 ⊢;k_extra "M";have e1:((hs.map (fun x=>x.1)).map Hn.hd).map hv=(hs.map fun p=>(p.1.name,[V.int p.1.rank,.str p.1.hears,.bool p.1.once,.tup (p.1.ds.map Deed.v)])).map fun t=>V.tup (.str t.1::t.2):=by
  rw[map_map,map_map,map_map];rfl
 have e2:(hs.map fun p=>(p.1.name,[V.int p.1.rank,.str p.1.hears,.bool p.1.once,.tup (p.1.ds.map Deed.v)])).map (fun x=>x.1)=hs.map (fun x=>x.1.name):=by rw[map_map];rfl
 refine Z6N hK (by exact(Ns1 0x8c21c0ac31243805842484d805829) hr h2 a2) hh' (by exact Y7D hu h3 a3) (by rw[<-e1];exact M2.get 0 rfl) (G2 _ _ hl2) (by simp;have:=T.len;exact Y7F this) hz2 nd (by rw[e2];exact hsub) (by rw[e2];exact ok) ?_;k_extra "n";intro po σ3 g3 hpo1 hpo2;have M3:=M2.add g3 hpo1 hpo2;have t1:=M3.get 2 rfl;have t2:=M3.get 3 rfl;k_extra "M";have M4:=(M3.set 3 (.sd [("cast",.ref ca),("posts",.ref po)]) rfl).set 3 (.sd [("cast",.ref ca),("posts",.ref po),("time",.int 0)]) rfl;have G4:=((G2.trans g3).upd (a:=dx) (o:=.sd [("cast",.ref ca),("posts",.ref po)]) hd).upd (a:=dx) (o:=.sd [("cast",.ref ca),("posts",.ref po),("time",.int 0)]) hd;k_extra "r";intro ev hev;generalize hσ4:X0.upd (X0.upd σ3 dx _) dx _=σ4 at M4 G4 hev ⊢;have M5:=M4.new (.list []) hev;have G5:=G4.fresh (o:=.list []) hev;generalize hσ5:X0.upd σ4 ev _=σ5 at M5 G5 ⊢;have t1:=M5.get 3 rfl;have t2:=M5.get 4 rfl;k_extra "M";have M6:=M5.set 4 (.sd [("cast",.ref ca),("posts",.ref po),("time",.int 0),("events",.ref ev)]) rfl;have G6:=G5.upd (a:=dx) (o:=.sd [("cast",.ref ca),("posts",.ref po),("time",.int 0),("events",.ref ev)]) hd;intro lo hlo;generalize hσ6:X0.upd σ5 dx _=σ6 at M6 G6 hlo ⊢;have M7:=M6.new (.list []) hlo;have G7:=G6.fresh (o:=.list []) hlo;generalize hσ7:X0.upd σ6 lo _=σ7 at M7 G7 ⊢;have t1:=M7.get 4 rfl;have t2:=M7.get 5 rfl;k_extra "M";have M8:=M7.set 5 (.sd [("cast",.ref ca),("posts",.ref po),("time",.int 0),("events",.ref ev),("log",.ref lo)]) rfl;have G8:=G7.upd (a:=dx) (o:=.sd [("cast",.ref ca),("posts",.ref po),("time",.int 0),("events",.ref ev),("log",.ref lo)]) hd;generalize hσ8:X0.upd σ7 dx _=σ8 at M8 G8 ⊢;refine Z6J hK (by exact(Ns1 0x4381d821c0ac31243805842484d805829) hr h2 a2) hh' ?_;intro wa wd nn ff σ9 g9 z1 z2 z3 z4 W9;obtain⟨n1,n2,n3,n4,n5⟩:=W9.ne;have M9:=M8.addL (l2:=[(wa,.inst 191 wd),(wd,.sd [("near",.ref nn),("far",.ref ff)]),(nn,.list []),(ff,.list [])]) g9 (by simp[n1,n2,n3,n4,n5,W9.nf]) (by simp[z1,z2,z3,z4]) (by
  simp only[List.mem_cons,List.not_mem_nil,or_false];rintro p (rfl|rfl|rfl|rfl)
  ·exact W9.hw
  ·exact W9.hd
  ·exact W9.hn
  ·exact W9.hf)
 have G9:=G8.trans g9;have t1:=M9.get 8 rfl;have t2:=M9.get 9 rfl;k_extra "M";have M10:=M9.set 9 (.sd [("cast",.ref ca),("posts",.ref po),("time",.int 0),("events",.ref ev),("log",.ref lo),("waits",.ref wa)]) rfl;have G10:=G9.upd (a:=dx) (o:=.sd [("cast",.ref ca),("posts",.ref po),("time",.int 0),("events",.ref ev),("log",.ref lo),("waits",.ref wa)]) hd;intro fr hfr;generalize hσ10:X0.upd σ9 dx _=σ10 at M10 G10 hfr ⊢;have M11:=M10.new (.list []) hfr;have G11:=G10.fresh (o:=.list []) hfr;generalize hσ11:X0.upd σ10 fr _=σ11 at M11 G11 ⊢;have t1:=M11.get 9 rfl;have t2:=M11.get 10 rfl;k_extra "M";refine h ⟨w,dx,ca,po,ev,lo,wa,wd,nn,ff,fr⟩ _ ⟨?_,rfl⟩ ((G11.upd hd).upd hd) hw;have M12:=(M11.set 10 (.sd [("cast",.ref ca),("posts",.ref po),("time",.int 0),("events",.ref ev),("log",.ref lo),("waits",.ref wa),("frames",.ref fr)]) rfl).set 10 (.sd [("cast",.ref ca),("posts",.ref po),("time",.int 0),("events",.ref ev),("log",.ref lo),("waits",.ref wa),("frames",.ref fr),("fresh",.none)]) rfl;exact M12.perm (List.Perm.append_right rest (List.Perm.symm (ZB [_] (ZB [_,_,_,_] (ZB [_] (ZB [_] (ZB [_] (ZB [_] (ZB [_,_] (.refl [_]))))))))))
theorem Z3I:∀(ct1:List Hn)(ps:List Str)(w:Str),∃out,Xu (ct1.map Hn.hd) ps w out:=by
 k_extra "A";intro ct1 ps w;have key:∀(f:Nat->Int) (m:Nat),∃p:List Nat,p.Perm (List.range m)/\p.Pairwise (slt fun i j=>decide (f i<f j)):=by
  k_extra "n";intro f m;have p1:=List.mergeSort_perm (List.range m) fun i j=>decide (f i<f j\/(f i=f j/\i<=j));have p2:=List.pairwise_mergeSort (le:=fun i j=>decide (f i<f j\/(f i=f j/\i<=j))) (fun a b c h1 h2=>by simp only[decide_eq_true_eq]at *;exact Y7H h1 h2) (fun a b=>by simp only[Bool.or_eq_true,decide_eq_true_eq];exact Y7I) (List.range m);refine⟨_,p1,(p2.and (p1.nodup_iff.mpr List.nodup_range)).imp fun{i j} h=>?_⟩;obtain⟨h1,h2⟩:=h;unfold slt;simp only[decide_eq_true_eq,decide_eq_false_iff_not]at h1 ⊢;exact Y7J h2 h1
 obtain⟨p,h1,h2⟩:=key (fun i=>rk (ct1.map Hn.hd) ((Z8 (ct1.map Hn.hd) ps w).getD i Str.empty)) (Z8 (ct1.map Hn.hd) ps w).length;exact⟨_,p,h1,h2,rfl⟩
theorem Z2A(ct1:List Hn)(ps:List Str)(w:Str):Xu (ct1.map Hn.hd) ps w (Zg ct1 ps w):=by
 unfold Zg;rw[dif_pos (Z3I ct1 ps w)];exact Classical.choose_spec (Z3I ct1 ps w)
noncomputable def Deed.Ok:Deed->Prop
 | .now w|.soon w|.cancel w=>PyData.strOk w=true
 | .wait _ w=>PyData.strOk w=true
 | _=>True
noncomputable def DOk(ct1:List Hn)(d:Deed):Prop:=d.Ok/\∀n,(d=.join n\/d=.leave n)->n∈ct1.map (fun x=>x.name)
structure Xg(ct1:List Hn):Prop where
 K:COk ct1
 len:ct1.length<=40
 dl:∀h∈ct1,h.ds.length<=30
 ds:∀h∈ct1,∀d∈h.ds,DOk ct1 d
noncomputable def LS.line(s:LS):List Int:=s.fresh.toList++(s.near++s.far.map (fun x=>x.2))
structure FOk(ct1:List Hn)(r:Frm):Prop where
 cl:r.calls.length<=60
 cn:∀n∈r.calls,n∈ct1.map (fun x=>x.name)
 dl:r.deeds.length<=30
 ds:∀d∈r.deeds,DOk ct1 d
structure LS.Wf(ct1:List Hn)(s:LS):Prop where
 ev:s.events.length<=s.log.length
 ne:s.near.length<=s.log.length
 fa:s.far.length<=s.log.length
 fr:s.frames.length<=s.log.length
 pn:s.posts.Nodup
 po:∀n∈s.posts,n∈ct1.map (fun x=>x.name)
 fm:∀r∈s.frames,FOk ct1 r
 word:∀e∈s.events,PyData.strOk e.word=true
 nums:∀n∈s.line,0<=n/\n<s.events.length
 nd:s.line.Nodup
theorem Z1t:∀(ct1:List Hn)(ps:List Str)(w:Str),(Zg ct1 ps w).Perm (Z8 (ct1.map Hn.hd) ps w):=by
 k_extra "A";intro ct1 ps w;obtain⟨p,h1,h2,h3⟩:=Z2A ct1 ps w;rw[h3];have:=h1.map fun i=>(Z8 (ct1.map Hn.hd) ps w).getD i Str.empty;refine this.trans (List.Perm.of_eq ?_);refine List.ext_getElem (by simp) fun i a b=>?_;simp[b]
theorem Z1G{ct1:List Hn}{ps:List Str}{w n:Str}(h:n∈Zg ct1 ps w):n∈ps:=(List.mem_filter.mp ((Z1t ct1 ps w).mem_iff.mp h)).1
theorem Z1H:∀{l m:List Str},l.Nodup->(∀x∈l,x∈m)->l.length<=m.length
 | [],m,_,_=>Nat.zero_le _
 | x::l,m,nd,h=>by
  have n2:=List.nodup_cons.mp nd;have:=Z1H (m:=m.erase x) n2.2 fun y hy=>(List.mem_erase_of_ne fun(e:y=x)=>n2.1 (e▸hy)).mpr (h y (.tail _ hy));rw[List.length_erase_of_mem (h x (.head _))]at this;have:=List.length_pos_of_mem (h x (.head _));simp only[length_cons]
  (first|lia|omega)
theorem Z2Y{ct1:List Hn}{ps:List Str}(K:Xg ct1)(nd:ps.Nodup)(sub:∀n∈ps,n∈ct1.map (fun x=>x.name)):ps.length<=40:=by
 have h:=Z1H nd sub;rw[length_map]at h;exact Nat.le_trans h K.len
theorem Z2Z{ct1:List Hn}{ps:List Str}{w:Str}(K:Xg ct1)(nd:ps.Nodup)(sub:∀n∈ps,n∈ct1.map (fun x=>x.name)):(Zg ct1 ps w).length<=60:=by
 rw[(Z1t ct1 ps w).length_eq];exact Nat.le_trans (Nat.le_trans (List.length_filter_le ..) (Z2Y K nd sub)) (by decide)
theorem LS.Wf.ok{ct1:List Hn}{s:LS}(K:Xg ct1)(W:s.Wf ct1)(hN:s.log.length<=9000):s.Ok ct1/\s.Nums:=by
 have nm:∀n∈ct1.map (fun x=>x.name),PyData.strOk n=true:=fun n hn=>by
  obtain⟨h,hh,rfl⟩:=List.mem_map.mp hn;exact K.K.name h hh
 have h1:=W.ev;have h2:=W.ne;have h3:=W.fa;have h4:=W.fr;refine⟨⟨⟨Nat.le_trans (Z2Y K W.pn W.po) (by decide),by exact Y7K hN h1,hN,by exact Y7K hN h2,by exact Y7K hN h3,by exact Y7K hN h4⟩,⟨fun n hn=>nm n (W.po n hn),fun r hr=>⟨Nat.le_trans (W.fm r hr).cl (by decide),fun n hn=>nm n ((W.fm r hr).cn n hn)⟩⟩,W.po,fun r hr=>(W.fm r hr).cn,fun r hr=>⟨Nat.le_trans (W.fm r hr).dl (by decide),fun d hd=>?_⟩⟩,⟨fun n hn=>?_,fun n hn=>?_,fun p hp=>?_,W.word⟩⟩
 ·obtain⟨_,b⟩:=(W.fm r hr).ds d hd
  cases d with
  | join n=>exact nm n (b n (.inl rfl))
  | leave n=>exact nm n (b n (.inr rfl))
  | _=>trivial
 ·exact W.nums n (List.mem_append_left _ (by rw[hn];exact .head _))
 ·exact W.nums n (mem_append_right _ (List.mem_append_left _ hn))
 ·exact W.nums p.2 (mem_append_right _ (mem_append_right _ (mem_map_of_mem hp)))
theorem Z7h{l:List Int}{k:Nat}(h:∀n∈l,0<=n/\n<(k:Int)):(k:Int)∉l:=fun q=>by
 have:=h _ q;exact(Np 0xa0701c20380c0ce9) this
theorem LS.Wf.begin:∀{ct1:List Hn}{s s1:LS}{n:Int}(K:Xg ct1)(W:s.Wf ct1)(e1:s1.posts=s.posts)(e2:s1.events=s.events)(e3:s1.log=s.log)(e4:s1.frames=s.frames)(h1:s1.near.length<=s.near.length)(h2:s1.far.length<=s.far.length)(hs:s1.line.Sublist s.line),(s1.begins ct1 n).Wf ct1:=by
 k_extra "J";intro ct1 s s1 n K W e1 e2 e3 e4 h1 h2 hs;have a1:=W.ev;have a2:=W.ne;have a3:=W.fa;have a4:=W.fr;refine⟨?_,?_,?_,?_,?_,?_,fun r hr=>?_,?_,fun m hm=>?_,?_⟩
 ·simp only[LS.begins,LS.begin,length_append,length_singleton,e2,e3];exact Y7M a1
 ·simp only[LS.begins,LS.begin,length_append,length_singleton,e3];exact Y7N h1 a2
 ·simp only[LS.begins,LS.begin,length_append,length_singleton,e3];exact Y7N h2 a3
 ·simp only[LS.begins,LS.begin,length_append,length_singleton,length_cons,e3,e4];exact(Nr 0x702b06c1c02c008009) a4
 ·show s1.posts.Nodup;rw[e1];exact W.pn
 ·show ∀n∈s1.posts,_;rw[e1];exact W.po
 ·have hr:r∈⟨n,Zg ct1 s1.posts (s1.wordOf n),[]⟩::s1.frames:=hr;rcases List.mem_cons.mp hr with rfl|hr
  ·rw[e1];exact⟨Z2Z K W.pn W.po,fun m hm=>W.po m (Z1G hm),by simp,fun d hd=>by cases hd⟩
  ·rw[e4]at hr;exact W.fm r hr
 ·show ∀e∈s1.events,_;rw[e2];exact W.word
 ·have hm:m∈s1.line:=hm;show 0<=m/\m<(s1.events.length:Int);rw[e2];exact W.nums m (hs.subset hm)
 ·show s1.line.Nodup;exact hs.nodup W.nd
theorem LS.Wf.cons{ct1:List Hn}{s s1:LS}{r:Row}(W:s.Wf ct1)(e1:s1.events=s.events)(e2:s1.near=s.near)(e3:s1.far=s.far)(e4:s1.fresh=s.fresh)(e5:s1.log=s.log++[r])(h1:s1.frames.length<=s.frames.length)(h2:s1.posts.Nodup)(h3:∀n∈s1.posts,n∈ct1.map (fun x=>x.name))(h4:∀r∈s1.frames,FOk ct1 r):s1.Wf ct1:=by
 have a1:=W.ev;have a2:=W.ne;have a3:=W.fa;have a4:=W.fr;have el:s1.line=s.line:=by unfold LS.line;rw[e2,e3,e4]
 refine⟨?_,?_,?_,?_,h2,h3,h4,by rw[e1];exact W.word,by rw[el,e1];exact W.nums,by rw[el];exact W.nd⟩
 ·rw[e1,e5,length_append,length_singleton];exact Y7M a1
 ·rw[e2,e5,length_append,length_singleton];exact Y7M a2
 ·rw[e3,e5,length_append,length_singleton];exact Y7M a3
 ·rw[e5,length_append,length_singleton];exact Y7N h1 a4
theorem FOk.away{ct1:List Hn}{r:Frm}(h:FOk ct1 r)(n:Str):FOk ct1 (r.away n):=⟨Nat.le_trans (List.length_erase_le ..) h.cl,fun m hm=>h.cn m (List.mem_of_mem_erase hm),h.dl,h.ds⟩
theorem LS.Wf.make{ct1:List Hn}{s s1:LS}{e:Evt}{r:Row}{k:Option Int}(W:s.Wf ct1)(e1:s1.events=s.events++[e])(hw:PyData.strOk e.word=true)(e5:s1.log=s.log++[r])(hp:s1.posts=s.posts)(hf:s1.frames=s.frames)(h1:s1.near.length<=s.near.length+1)(h2:s1.far.length<=s.far.length+1)(hl:s1.line.Perm ((s.events.length:Int)::s.line)):s1.Wf ct1:=by
 have a1:=W.ev;have a2:=W.ne;have a3:=W.fa;have a4:=W.fr;refine⟨?_,?_,?_,?_,by rw[hp];exact W.pn,by rw[hp];exact W.po,by rw[hf];exact W.fm,?_,?_,?_⟩
 ·rw[e1,e5,length_append,length_append,length_singleton,length_singleton];exact(Nq 0x1c06c1c02c008009) a1
 ·rw[e5,length_append,length_singleton];exact Y7Q h1 a2
 ·rw[e5,length_append,length_singleton];exact Y7Q h2 a3
 ·rw[hf,e5,length_append,length_singleton];exact Y7M a4
 ·rw[e1];intro x hx;rcases List.mem_append.mp hx with hx|hx
  ·exact W.word x hx
  ·rw[List.mem_singleton.mp hx];exact hw
 ·intro n hn;rw[e1,length_append,length_singleton];rcases List.mem_cons.mp (hl.mem_iff.mp hn) with rfl|hn
  ·exact(Np 0x3805b80e101c06067)
  ·have:=W.nums n hn;exact Y7S this
 ·exact hl.nodup_iff.mpr (List.nodup_cons.mpr ⟨Z7h W.nums,W.nd⟩)
theorem LS.Wf.send{ct1:List Hn}{s:LS}{w:Str}(W:s.Wf ct1)(hw:PyData.strOk w=true):(s.send w).Wf ct1:=by
 refine W.make (k:=none) (e:=⟨w,none,ofString "wait",s.time⟩) rfl hw rfl rfl rfl (Nat.le_succ _) (by simp[LS.send]) ?_;simp only[LS.send,LS.line,map_append,map_cons,List.map_nil];rw[show s.fresh.toList++(s.near++(s.far.map (fun x=>x.2)++[(s.events.length:Int)]))=(s.fresh.toList++(s.near++s.far.map (fun x=>x.2)))++[(s.events.length:Int)] by simp];exact List.perm_append_singleton _ _
theorem LS.Wf.retop{ct1:List Hn}{s:LS}{r r':Frm}{fr:List Frm}(W:s.Wf ct1)(hf:s.frames=r::fr)(h:FOk ct1 r'):({ s with frames:=r'::fr }:LS).Wf ct1:=
 ⟨W.ev,W.ne,W.fa,by have:=W.fr;rw[hf]at this;simpa using this,W.pn,W.po,fun q hq=>by
  rcases List.mem_cons.mp hq with rfl|hq
  ·exact h
  ·exact W.fm q (by rw[hf];exact .tail _ hq),W.word,W.nums,W.nd⟩
set_option tactic.hygienic true in
theorem LS.Wf.deed:∀{ct1:List Hn}{s:LS}{n:Int}{d:Deed}(W:s.Wf ct1)(h0:s.fresh=none)(hd:DOk ct1 d),(s.deed n d).Wf ct1/\(s.deed n d).log.length=s.log.length+1:=by
 k_extra "J";intro ct1 s n d W h0 hd
 cases d with
 | now w=>
  refine⟨W.make (k:=none) (e:=⟨w,some n,ofString "now",s.time⟩) rfl hd.1 rfl rfl rfl (Nat.le_succ _) (Nat.le_succ _) ?_,by simp[LS.deed,LS.make]⟩;simp only[LS.deed,LS.make,LS.line,h0];exact List.Perm.refl _
 | soon w=>
  refine⟨W.make (k:=none) (e:=⟨w,some n,ofString "soon",s.time⟩) rfl hd.1 rfl rfl rfl (by simp[LS.deed,LS.make]) (Nat.le_succ _) ?_,by simp[LS.deed,LS.make]⟩;simp only[LS.deed,LS.make,LS.line];rw[append_assoc,<-append_assoc,List.singleton_append];refine List.perm_middle.trans ?_;rw[append_assoc]
 | wait t w=>
  refine⟨W.make (k:=none) (e:=⟨w,some n,ofString "wait",s.time+t⟩) rfl hd.1 rfl rfl rfl (Nat.le_succ _) (by simp[LS.deed,LS.make]) ?_,by simp[LS.deed,LS.make]⟩;simp only[LS.deed,LS.make,LS.line,map_append,map_cons,List.map_nil];rw[show s.fresh.toList++(s.near++(s.far.map (fun x=>x.2)++[(s.events.length:Int)]))=(s.fresh.toList++(s.near++s.far.map (fun x=>x.2)))++[(s.events.length:Int)] by simp];exact List.perm_append_singleton _ _
 | cancel w=>
  have a1:=W.ev;have a2:=W.ne;have a3:=W.fa;have a4:=W.fr;have l1:=List.length_filter_le (fun x=>!(s.wordOf x==w)) s.near;have l2:=List.length_filter_le (fun p=>!(s.wordOf p.2==w)) s.far;have hs:(s.deed n (.cancel w)).line.Sublist s.line:=(List.Sublist.refl _).append (List.filter_sublist.append (List.filter_sublist.map _));refine⟨⟨?_,?_,?_,?_,W.pn,W.po,W.fm,W.word,fun m hm=>W.nums m (hs.subset hm),hs.nodup W.nd⟩,by simp[LS.deed,LS.cancel]⟩
  all_goals simp only[LS.deed,LS.cancel,length_append,length_singleton];(first|lia|omega)
 | join h=>
  refine⟨W.cons (r:=.join n h) rfl rfl rfl rfl rfl (Nat.le_refl _) ?_ ?_ W.fm,by simp[LS.deed]⟩
  ·simp only[LS.deed,LS.join]
   split
   ·exact W.pn
   ·rename_i q
    rw[List.nodup_append];refine⟨W.pn,by simp,fun x hx y hy e=>?_⟩;rw[List.mem_singleton.mp hy]at e;subst e;exact q (by simpa using hx)
  ·simp only[LS.deed,LS.join]
   split
   ·exact W.po
   ·intro x hx;rcases List.mem_append.mp hx with hx|hx
    ·exact W.po x hx
    ·rw[List.mem_singleton.mp hx];exact hd.2 h (.inl rfl)
 | leave h=>
  refine⟨W.cons (r:=.leave n h) rfl rfl rfl rfl rfl (by simp[LS.deed,LS.away]) ?_ ?_ ?_,by simp[LS.deed]⟩
  ·exact List.erase_sublist.nodup W.pn
  ·exact fun x hx=>W.po x (List.mem_of_mem_erase hx)
  ·intro q hq;obtain⟨r,hr,rfl⟩:=List.mem_map.mp hq;exact(W.fm r hr).away h
 | hush=>
  cases hf:s.frames with
  | nil=>
   have e:s.setCalls []=s:=by unfold LS.setCalls;rw[hf]
   refine⟨W.cons (r:=.hush n) ?_ ?_ ?_ ?_ ?_ ?_ ?_ ?_ ?_,by simp[LS.deed]⟩
   all_goals simp only[LS.deed,e]
   ·exact Nat.le_refl _
   ·exact W.pn
   ·exact W.po
   ·exact W.fm
  | cons r fr=>
   have e:s.setCalls []={ s with frames:={ r with calls:=[] }::fr }:=by unfold LS.setCalls;rw[hf]
   refine⟨W.cons (r:=.hush n) ?_ ?_ ?_ ?_ ?_ ?_ ?_ ?_ ?_,by simp[LS.deed]⟩
   all_goals simp only[LS.deed,e]
   ·rw[hf];exact Nat.le_refl _
   ·exact W.pn
   ·exact W.po
   ·have F:=W.fm r (by rw[hf];exact .head _);intro q hq;rcases List.mem_cons.mp hq with rfl|hq
    ·exact⟨by simp,(fun u z=>by cases z),F.dl,F.ds⟩
    ·exact W.fm q (by rw[hf];exact .tail _ hq)
theorem LS.Wf.goOn:∀{ct1:List Hn}{s:LS}{r:Frm}{fr:List Frm}(K:Xg ct1)(W:s.Wf ct1)(h0:s.fresh=none)(hf:s.frames=r::fr),(s.goOn ct1).Wf ct1/\(s.goOn ct1).log.length=s.log.length+1:=by
 k_extra "J";intro ct1 s r fr K W h0 hf;have F:=W.fm r (by rw[hf];exact .head _);unfold LS.goOn;rw[hf];dsimp only
 cases hd:r.deeds with
 | cons d ds=>
  have F2:=F.ds;have F3:=F.dl;rw[hd]at F2 F3;exact LS.Wf.deed (W.retop hf ⟨F.cl,F.cn,by simp at F3 ⊢;exact(Np 0x1ec001dc0009) F3,fun d' h'=>F2 d' (.tail _ h')⟩) h0 (F2 d (.head _))
 | nil=>
  dsimp only
  cases hc:r.calls with
  | cons n cs=>
   have F2:=F.cn;have F3:=F.cl;rw[hc]at F2 F3;obtain⟨x,hx,rfl⟩:=List.mem_map.mp (F2 n (.head _));dsimp only;rw[Z14 K.K hx];dsimp only;have W2:({ s with frames:={ r with calls:=cs,deeds:=x.ds }::fr }:LS).Wf ct1:=W.retop hf ⟨by simp at F3 ⊢;exact Y7U F3,fun m hm=>F2 m (.tail _ hm),K.dl x hx,K.ds x hx⟩;have eg:∀ds,({ s with frames:={ num:=r.num,calls:=cs,deeds:=ds }::fr }:LS).setDeeds x.ds={ s with frames:={ num:=r.num,calls:=cs,deeds:=x.ds }::fr }:=fun z=>rfl;refine⟨?_,by simp[LS.callIn]⟩;unfold LS.callIn LS.got;rw[eg]
   cases x.once with
   | false=>exact W2.cons (r:=.call r.num x.name) rfl rfl rfl rfl rfl (Nat.le_refl _) W2.pn W2.po W2.fm
   | true=>
    refine W2.cons (r:=.call r.num x.name) rfl rfl rfl rfl rfl (by simp[LS.away]) ?_ ?_ ?_
    ·exact List.erase_sublist.nodup W.pn
    ·exact fun y hy=>W.po y (List.mem_of_mem_erase hy)
    ·intro q hq;obtain⟨r',hr',rfl⟩:=List.mem_map.mp hq;exact(W2.fm r' hr').away x.name
  | nil=>
   refine⟨W.cons (r:=.fin r.num) rfl rfl rfl rfl rfl (by rw[hf];simp) W.pn W.po fun q hq=>W.fm q (by rw[hf];exact .tail _ hq),by simp⟩
theorem LS.Wf.step:∀{ct1:List Hn}{s s':LS}(K:Xg ct1)(W:s.Wf ct1)(h:s.step ct1=some s'),s'.Wf ct1/\s'.log.length=s.log.length+1:=by
 k_extra "A";intro ct1 s s' K W h;unfold LS.step at h
 cases h0:s.fresh with
 | some n=>
  rw[h0]at h
  cases h
  refine⟨W.begin K rfl rfl rfl rfl (Nat.le_refl _) (Nat.le_refl _) ?_,by simp[LS.begins,LS.begin]⟩;exact List.sublist_append_right _ _
 | none=>
  rw[h0]at h
  cases hf:s.frames with
  | cons r fr=>
   rw[hf]at h
   cases h
   exact W.goOn K h0 hf
  | nil=>
   rw[hf]at h
   cases hn:s.near with
   | cons n ns=>
    rw[hn]at h
    cases h
    refine⟨W.begin K rfl rfl rfl hf.symm (by rw[hn];simp) (Nat.le_refl _) ?_,by simp[LS.begins,LS.begin]⟩;unfold LS.line;rw[hn,h0];exact(List.Sublist.refl _).append ((List.sublist_cons_self n ns).append (List.Sublist.refl _))
   | nil=>
    rw[hn]at h
    cases hm:minP s.far with
    | none=>rw[hm]at h;cases h
    | some p=>
     rw[hm]at h
     cases h
     refine⟨W.begin K rfl rfl rfl hf.symm (Nat.zero_le _) (List.length_erase_le ..) ?_,by simp[LS.begins,LS.begin]⟩;unfold LS.line;rw[hn,h0];exact(List.Sublist.refl _).append ((List.Sublist.refl _).append (List.erase_sublist.map _))
theorem LS.Wf.new{ct1:List Hn}{ns:List Str}(nd:ns.Nodup)(sub:∀n∈ns,n∈ct1.map (fun x=>x.name)):(LS.new ns).Wf ct1:=
 ⟨Nat.le_refl _,Nat.le_refl _,Nat.le_refl _,Nat.le_refl _,nd,sub,(fun u z=>by cases z),(fun u z=>by cases z),(fun u z=>by cases z),List.nodup_nil⟩
theorem Z5r{l:Addr}{cs:List Int}{i:Nat}{Q:pV}(hK:C.K=KL C.w.params)(hr:A.depth<recursionLimit)(hh:A.handled=none)(hl:X8 C σ l (cs.map V.int))(hz:cs.length<=1000)(hi:i<=1000)(h:Q (.int (cs.getD i 0)) σ):X1 C A (.ref 333) [.ref l,.int i] σ Q X:=by
 revert C A σ X l cs i Q;k_extra "R";intro C A σ X l cs i Q hK hr hh hl hz hi h
 k_extra "c";k_extra "n";intro L A' a1 a2 a3;k_extra "M"
 by_cases q:i<cs.length
 ·refine Br.f (by simp;exact(Nq 0x40108029) q) ?_;k_extra "M";refine X5.list (y:=.int (cs.getD i 0)) hl (by exact Y5M) (by exact Y7W hi) (by simp[q]) ?_;k_extra "M";exact h
 ·refine Br.t (by simp;exact(Nq 0x401004c9) q) ?_;k_extra "M";have e:cs.getD i 0=0:=by simp[Nat.le_of_not_lt q]
  rw[e]at h;exact h
theorem Xa.invIf{env:Env}{ρ:Rho}{α:Type}{x:Str}{ifs:List Expr}{elt:Expr}{ok:X0->Prop}{R:List V->X0->Prop}(enc:α->V)(I:List α->List V->X0->Prop)(step:∀y ys out σ,I (y::ys) out σ->Ifs C A env ifs (ρ.put x (enc y)) σ (fun b σ1=>if b then Ev C A env elt (ρ.put x (enc y)) σ1 (fun z σ2=>out.length<=sizeLine/\ok σ2/\I ys (out++[z]) σ2) (fun u u=>False) else ok σ1/\I ys out σ1) (fun u u=>False))(done:∀out σ,I [] out σ->R out σ):∀ys out σ,I ys out σ->Xa C A env x ifs elt ok ρ R (ys.map enc) out σ
 | [],out,σ,h=>done out σ h
 | y::ys,out,σ,h=>by
  unfold Xa;have mono:∀{P P':Bool->X0->Prop},Ifs C A env ifs (ρ.put x (enc y)) σ P (fun u u=>False)->(∀b σ,P b σ->P' b σ)->Ifs C A env ifs (ρ.put x (enc y)) σ P' (fun u u=>False):=by
   intro P P' h k
   match ifs,h with
   | [],h=>exact k _ _ h
   | [c],h=>exact Tst.mono h k
  refine mono (step y ys out σ h) ?_;intro b σ1 h1
  cases b with
  | true=>simp only[if_true]at h1 ⊢;exact h1.mono' fun z σ2 h2=>⟨h2.1,h2.2.1,Xa.invIf enc I step done ys _ σ2 h2.2.2⟩
  | false=>simp only[Bool.false_eq_true,if_false]at h1 ⊢;exact⟨h1.1,Xa.invIf enc I step done ys _ σ1 h1.2⟩
theorem Ze{c k m:Int}{Q:pV}(hK:C.K=KL C.w.params)(hr:A.depth<recursionLimit)(hh:A.handled=none)(hm:0<m)(h:∀(r:Int) (σ':X0),X6 σ σ'->0<=r->r<m->Q (.int r) σ'):X1 C A (.ref 340) [.int c,.int k,.int m] σ Q X:=by
 revert C A σ X c k m Q;k_extra "R";intro C A σ X c k m Q hK hr hh hm h
 k_extra "i";k_extra "n";intro L A' a1 a2 a3;k_extra "M";k_extra "r";intro a ha;k_extra "M";have b0:0<=k.fmod 7:=Int.fmod_nonneg_of_pos _ (by(first|lia|omega));have b1:k.fmod 7<7:=Int.fmod_lt_of_pos _ (by(first|lia|omega));have pr:∀j:Nat,j<7->∃p:Int,(([10007,20011,30011,40009,50021,60013,70001]:List Int).map V.int)[j]?=some (.int p)/\p≠0:=fun j hj=>
  ⟨([10007,20011,30011,40009,50021,60013,70001]:List Int)[j]'hj,by rw[List.getElem?_map,List.getElem?_eq_getElem hj];rfl,(by decide:∀x∈([10007,20011,30011,40009,50021,60013,70001]:List Int),x≠0) _ (List.getElem_mem hj)⟩
 obtain⟨p,hp,hp0⟩:=pr (k.fmod 7).toNat (by exact Y7Y b1);refine X5.list (y:=.int p) (.inl X0.hit) b0 (by exact Y7Z b1) hp ?_;refine X9.fmod_int hp0 ?_;k_extra "M";refine X9.fmod_int (by exact(Jp 0x18014c006089) hm) ?_;k_extra "M";exact h _ _ (X6.rfl'.fresh ha) (Int.fmod_nonneg_of_pos _ hm) (Int.fmod_lt_of_pos _ hm)
noncomputable def letS(j:Nat):Str:=⟨#[97+j]⟩
theorem Z7W:∀j,j<26->(ofString "abcdefghijklmnopqrstuvwxyz").cps[j]?=some (97+j):=by decide +kernel
theorem Z7X:(ofString "abcdefghijklmnopqrstuvwxyz").length=26:=by decide +kernel
theorem X5.letter{i:Int}{Q:pV}(h0:0<=i)(h1:i<26)(h:Q (.str (letS i.toNat)) σ):X5 C A (.str (ofString "abcdefghijklmnopqrstuvwxyz")) (.int i) σ Q X:=by
 refine X5.str (by exact Y82 h0) (by exact Y8o h1) ?_ h;rw[Z7X,seqIndex_of h0 (by exact(Jp 0x358e009ac0089) h1)];exact Z7W _ (by exact Y8q h1)
theorem ZL(j:Nat):(letS j).length=1:=rfl
theorem Za(x y:Str):(x++y).length=x.length+y.length:=by
 show(x.cps++y.cps).size=_;simp[Str.length]
theorem Z6O:∀j,j<26->inS (ofString "abcdefghijklmnopqrstuvwxyz") ⟨#[97+j]⟩=true:=by decide +kernel
theorem Z5s{x:Str}(h:∀c∈x.cps.toList,97<=c/\c<123):okS x=true:=by
 unfold okS;rw[List.all_map,List.all_eq_true];intro c hc;obtain⟨a,b⟩:=h c hc;obtain⟨j,rfl⟩:∃j,c=97+j:=⟨c - 97,by exact(Np 0x30e4170000000061cd80200000000030e409) a⟩;exact Z6O j (by exact(Np 0x35800400000001ef200000000061cd829) b)
abbrev aheadS:Str:=ofString "zyxwvutsrq"
abbrev behindS:Str:=ofString "abcdefghij"
theorem Z15:aheadS.length=10:=by decide +kernel
theorem Z1u:behindS.length=10:=by decide +kernel
theorem Z3J:∀c∈aheadS.cps.toList,97<=c/\c<123:=by decide +kernel
theorem Z30:∀c∈behindS.cps.toList,97<=c/\c<123:=by decide +kernel
noncomputable def nameN(c k:Nat):Str:=Txt.slice (Txt.slice aheadS none (some ((c*7 % 11:Nat):Int))++(letS (k*7 % 26)++letS (k / 26))++Txt.slice behindS none (some ((c*5 % 11:Nat):Int))) none (some ((12:Nat):Int))
theorem Z1i(x:Str):x.length=x.cps.toList.length:=by simp[Str.length]
theorem Z1v(x:Str)(k:Nat):(Txt.slice x none (some (k:Int))).cps.toList=x.cps.toList.take k:=by
 by_cases h:k<=x.length
 ·exact Z2k x k h
 ·have e:Builtin.Str.strSliceIndices none (some (k:Int)) 1 x.length=(List.range x.length).map fun i=>0+i:=by
   unfold Builtin.Str.strSliceIndices;have h1:¬((k:Int)<0):=by exact Y5v
   have h2:max 0 (min (k:Int) (x.length:Int))=((x.length:Nat):Int):=by exact Y8t h
   simp only[h1,if_false,show(1:Int)>0 by decide,if_true,h2];have:=sliceRange_one 0 x.length;simpa using this
  rw[Z1B x none (some (k:Int)) 0 x.length (by exact(Np 25280)) e,List.drop_zero,Z1i,take_of_length_le (Nat.le_refl _),take_of_length_le (by rw[<-Z1i];exact(Nq 0x401000c9) h)]
theorem Z5t(c k:Nat):(nameN c k).cps.toList=(aheadS.cps.toList.take (c*7 % 11)++[97+k*7 % 26,97+k / 26]++behindS.cps.toList.take (c*5 % 11)).take 12:=by
 unfold nameN;rw[Z1v,ZV,ZV,Z1v,Z1v,ZV];rfl
theorem Z16(c k:Nat):(nameN c k).cps.toList=aheadS.cps.toList.take (c*7 % 11)++([97+k*7 % 26,97+k / 26]++(behindS.cps.toList.take (c*5 % 11)).take (12-(c*7 % 11+2))):=by
 have h1:=Z15;rw[Z1i]at h1;have m:c*7 % 11<=10:=Nat.le_of_lt_succ (Nat.mod_lt _ (by decide));rw[Z5t,append_assoc];generalize c*7 % 11=a at m ⊢;generalize c*5 % 11=b;generalize 97+k*7 % 26=u;generalize 97+k / 26=w;have h2:(aheadS.cps.toList.take a).length=a:=by rw[List.length_take,h1];exact Nat.min_eq_left m
 have t1:(aheadS.cps.toList.take a).take 12=aheadS.cps.toList.take a:=take_of_length_le (by rw[h2];exact Nat.le_trans m (by decide));have t2:([u,w]++behindS.cps.toList.take b).take (12-a)=[u,w]++(behindS.cps.toList.take b).take (12-(a+2)):=by
  rw[List.take_append,take_of_length_le (l:=[u,w]) (Nat.le_sub_of_add_le (show 2+a<=12 by exact(Np 0x66002c580ac0009) m)),show 12-a-[u,w].length=12-(a+2) from Nat.sub_sub ..]
 rw[List.take_append,t1,h2,t2]
theorem Z5u{c j k:Nat}(hj:j<182)(hk:k<182)(h:nameN c j=nameN c k):j=k:=by
 have e:=congrArg (fun x:Str=>x.cps.toList) h;simp only[Z16]at e;have e2:=List.append_cancel_left e;have e3:=List.append_cancel_right e2;simp only[List.cons.injEq,and_true]at e3;obtain⟨e4,e5⟩:=e3;exact Y8x e4 e5
theorem Z5v(c k:Nat)(hk:k<676):isW (nameN c k)=true:=by
 have h1:=Z15;rw[Z1i]at h1;have l:(nameN c k).length=c*7 % 11+2+min (12-(c*7 % 11+2)) (min (c*5 % 11) 10):=by
  have h2:=Z1u;rw[Z1i]at h2;rw[Z1i,Z16];have m:c*7 % 11<=10:=Nat.le_of_lt_succ (Nat.mod_lt _ (by decide));rw[length_append,length_append,List.length_take,List.length_take,List.length_take,h1,h2,Nat.min_eq_left m,Nat.add_assoc];rfl
 have o:okS (nameN c k)=true:=by
  refine Z5s ?_;intro x hx;rw[Z16]at hx;simp only[List.mem_append,List.mem_cons,List.not_mem_nil,or_false]at hx;rcases hx with h|(h|h)|h
  ·exact Z3J x (List.mem_of_mem_take h)
  ·exact Y8y h
  ·exact Y8z hk h
  ·exact Z30 x (List.mem_of_mem_take (List.mem_of_mem_take h))
 have m:c*7 % 11<=10:=Nat.le_of_lt_succ (Nat.mod_lt _ (by decide));unfold isW;rw[o,l];simp only[Bool.and_true,Bool.and_eq_true,decide_eq_true_eq];generalize c*7 % 11=a at m ⊢;generalize min (c*5 % 11) 10=b;exact Y8A m
theorem Z6b(c k:Nat)(hk:k<676):PyData.strOk (nameN c k)=true:=by
 rw[Z1A];intro x hx;rw[Z16]at hx;simp only[List.mem_append,List.mem_cons,List.not_mem_nil,or_false]at hx;rcases hx with h|(h|h)|h
 ·have:=Z3J x (List.mem_of_mem_take h);exact Y8B this
 ·exact Y8C h
 ·exact Y8D hk h
 ·have:=Z30 x (List.mem_of_mem_take (List.mem_of_mem_take h));exact Y8B this
theorem Z4k{c k:Nat}{Q:pV}(hK:C.K=KL C.w.params)(hr:A.depth<recursionLimit)(hh:A.handled=none)(hk:k<676)(hc:c<=1000)(h:Q (.str (nameN c k)) σ):X1 C A (.ref 352) [.int k,.int c] σ Q X:=by
 revert C A σ X c k Q;k_extra "B";intro C A σ X c k Q hK hr hh hk hc h
 k_extra "c";k_extra "n";intro L A' a1 a2 a3;have b0:((k:Int)*7).fmod 26=((k*7 % 26:Nat):Int):=by rw[Int.fmod_eq_emod_of_nonneg _ (by(first|lia|omega))];exact Y8E
 have b1:(k:Int).fdiv 26=((k / 26:Nat):Int):=by rw[Int.fdiv_eq_ediv_of_nonneg _ (by(first|lia|omega))];exact Y8F
 have b2:((c:Int)*7).fmod 11=((c*7 % 11:Nat):Int):=by rw[Int.fmod_eq_emod_of_nonneg _ (by(first|lia|omega))];exact Y8G
 have b3:((c:Int)*5).fmod 11=((c*5 % 11:Nat):Int):=by rw[Int.fmod_eq_emod_of_nonneg _ (by(first|lia|omega))];exact Y8H
 k_extra "M";rw[b0];refine X5.letter (by exact Y8I) (by exact Y8J) ?_;k_extra "M";rw[b1];refine X5.letter (by exact Y8K) (by exact Y8L hk) ?_;refine X9.add_str ?_ (by simp[ZL,sizeLine_eq]);k_extra "M";refine⟨_,rfl,?_⟩;rw[b2];refine Xf.str (by rw[sizeLine_eq,Z15];(first|lia|omega)) ?_;k_extra "M";have l1:(Txt.slice (ofString "zyxwvutsrq") none (some ((c*7 % 11:Nat):Int))).length<=10:=by
  have:=Txt.slice_le aheadS none (some ((c*7 % 11:Nat):Int));rw[Z15]at this;exact this
 have l2:(Txt.slice (ofString "abcdefghij") none (some ((c*5 % 11:Nat):Int))).length<=10:=by
  have:=Txt.slice_le behindS none (some ((c*5 % 11:Nat):Int));rw[Z1u]at this;exact this
 refine X9.add_str ?_ (by rw[Za,ZL,ZL,sizeLine_eq];exact(Np 0x400000321c07160580ac0009) l1);k_extra "M";refine⟨_,rfl,?_⟩;rw[b3];refine Xf.str (by rw[sizeLine_eq,Z1u];(first|lia|omega)) ?_;refine X9.add_str ?_ (by rw[Za,Za,ZL,ZL,sizeLine_eq];exact Y8N l1 l2);k_extra "M";refine⟨_,rfl,?_⟩;refine Xf.str ?_ ?_
 ·simp only[sizeLine_eq,Za,ZL];exact Y8N l1 l2
 k_extra "M";have e5:(((k / 26:Nat):Int)).toNat=k / 26:=by exact Y8O
 have e6:(((k*7 % 26:Nat):Int)).toNat=k*7 % 26:=by exact Y8P
 rw[e5,e6];exact h
noncomputable def Sm(x:Str):Prop:=∀c∈x.cps.toList,97<=c/\c<123
theorem Sm.cat{x y:Str}(h1:Sm x)(h2:Sm y):Sm (x++y):=fun c hc=>by
 rw[ZV]at hc;rcases List.mem_append.mp hc with hc|hc
 ·exact h1 c hc
 ·exact h2 c hc
theorem Sm.slice{x:Str}(h:Sm x)(l u:Option Int):Sm (Txt.slice x l u):=fun c hc=>h c (by
 unfold Txt.slice at hc
 split at hc
 ·exact hc
 simp only[List.mem_filterMap]at hc;obtain⟨i,_,e⟩:=hc;rw[<-Array.getElem?_toList]at e;exact List.mem_of_getElem? e)
theorem Sm.letter{j:Nat}(h:j<26):Sm (letS j):=fun c hc=>by
 have:c=97+j:=by simpa [letS] using hc
 exact(Nq 0x1ef210840000000187203800000000187360893ac0029) h this
theorem Z4l:∀ts:List Str,(∀t∈ts,Sm t/\t.length=1)->Sm (Str.join Str.empty ts)/\(Str.join Str.empty ts).length=ts.length
 | [],_=>⟨(fun c hc=>by cases hc),rfl⟩
 | [x],h=>h x (.head _)
 | x::y::r,h=>by
  obtain⟨a,b⟩:=Z4l (y::r) fun z hz=>h z (.tail _ hz);have e:Str.join Str.empty (x::y::r)=x++Str.empty++Str.join Str.empty (y::r):=rfl;rw[e];refine⟨((h x (.head _)).1.cat fun c hc=>by cases hc).cat a,?_⟩;rw[Za,Za,b,(h x (.head _)).2];have:Str.empty.length=0:=rfl;simp only[length_cons];exact(Nq 0x380e036b0701b0038b5840c0049) this
theorem Sm.word{x:Str}(h:Sm x)(h1:1<=x.length)(h2:x.length<=12):isW x=true/\PyData.strOk x=true/\x.length<=1000:=by
 refine⟨?_,?_,by exact Y7q h2⟩
 ·unfold isW;rw[Z5s h];simp[h1,h2]
 ·rw[Z1A];intro c hc;have:=h c hc;exact Y8B this
theorem Z4m{x y:Str}{k:Nat}(hk:k<x.length)(hy:y.length=1):(Txt.slice x none (some (k:Int))++y++Txt.slice x (some ((k:Int)+1)) none).length=x.length:=by
 have hx:x.cps.toList.length=x.length:=by simp[Str.length]
 have e1:=congrArg List.length (Z2k x k (by exact Yd hk));have e2:=congrArg List.length (Z4y x (k+1) (by exact Y8d hk));have l:∀y:Str,y.length=y.cps.toList.length:=fun y=>by simp[Str.length]
 rw[Za,Za,l (Txt.slice x none _),l (Txt.slice x _ none),e1];have e3:(Txt.slice x (some ((k:Int)+1)) none).cps.toList.length=x.length-(k+1):=by
  have:((k+1:Nat):Int)=(k:Int)+1:=by exact(Np 0x700e583805b85)
  rw[<-this,e2,List.length_drop,hx]
 rw[e3,List.length_take,hx,hy];exact Y8T hk
theorem Z2e{b k:Int}{Q:pV}(hK:C.K=KL C.w.params)(hr:A.depth<recursionLimit)(hh:A.handled=none)(h:∀w σ',X6 σ σ'->isW w=true->PyData.strOk w=true->w.length<=1000->Q (.str w) σ'):X1 C A (.ref 345) [.int b,.int k] σ Q X:=by
 revert C A σ X b k Q;k_extra "B";intro C A σ X b k Q hK hr hh h
 k_extra "c";k_extra "n";intro L A' a1 a2 a3;have hh':A'.handled=none:=a1.trans hh;have m0:0<=(b.fdiv 26).fmod 12:=Int.fmod_nonneg_of_pos _ (by(first|lia|omega));have m1:(b.fdiv 26).fmod 12<12:=Int.fmod_lt_of_pos _ (by(first|lia|omega));refine Z1C ?_ (show ∃n:Nat,1+(b.fdiv 26).fmod 12=n from⟨(1+(b.fdiv 26).fmod 12).toNat,by exact Y89 m0⟩);k_extra "r";intro n hn;have hn0:(0:Int)<(n:Int):=by exact Y8U m0 hn
 have t0:0<=(b.fdiv 312).fmod n:=Int.fmod_nonneg_of_pos _ hn0;have t1:(b.fdiv 312).fmod n<n:=Int.fmod_lt_of_pos _ hn0;refine Z1C ?_ (show ∃a:Nat,(b.fdiv 312).fmod n=a from⟨((b.fdiv 312).fmod n).toNat,by exact Y84 t0⟩);k_extra "r";intro a ha;k_extra "M";rw[hn];k_extra "M";refine X9.fmod_int (by exact Y8V t0 t1) ?_;rw[ha];k_extra "M";refine⟨_,_,ItV.rng hh' (by(first|lia|omega)) (by(first|lia|omega)) (by exact Y8a) (by exact Y8W m1 hn),?_⟩;k_extra "r";intro L';refine Xa.pure (fun z=>true) (fun y=>match y with|.int i=>.str (letS ((b+3*i).fmod 26).toNat)|_=>.none) trivial _ _ ?_ ?_ (by simp[Zv,sizeLine_eq];exact Y8X m1 hn) ?_
 ·intro y hy Q hQ;k_extra "M";exact hQ
 ·intro y hy _ Q hQ;obtain⟨i,hi,rfl⟩:=List.mem_map.mp hy;k_extra "M";exact X5.letter (Int.fmod_nonneg_of_pos _ (by(first|lia|omega))) (Int.fmod_lt_of_pos _ (by(first|lia|omega))) hQ
 intro x hx;have e1:([]:List V)++List.map (fun y=>match y with|V.int i=>.str (letS ((b+3*i).fmod 26).toNat)|_=>.none) (List.filter (fun z=>true) (Zv 0 (n:Int)))=((List.range n).map fun(i:Nat)=>letS ((b+3*(0+(i:Int))).fmod 26).toNat).map V.str:=by
  rw[nil_append,List.filter_eq_self.mpr (fun z z=>rfl),Zv,map_map,map_map,Int.sub_zero,Int.toNat_natCast];rfl
 rw[e1];have hts:∀y∈(List.range n).map fun(i:Nat)=>letS ((b+3*(0+(i:Int))).fmod 26).toNat,Sm y/\y.length=1:=fun y hy=>by
  obtain⟨i,_,rfl⟩:=List.mem_map.mp hy;refine⟨Sm.letter ?_,rfl⟩;have:=Int.fmod_nonneg_of_pos (b+3*(0+(i:Int))) (show(0:Int)<26 by(first|lia|omega));have:=Int.fmod_lt_of_pos (b+3*(0+(i:Int))) (show(0:Int)<26 by(first|lia|omega));exact Y8q this
 have hlen:((List.range n).map fun(i:Nat)=>letS ((b+3*(0+(i:Int))).fmod 26).toNat).length=n:=by simp
 generalize ((List.range n).map fun(i:Nat)=>letS ((b+3*(0+(i:Int))).fmod 26).toNat)=ts at hts hlen ⊢;have g1:=X6.rfl'.fresh (σ:=σ) (o:=.list (ts.map V.str)) hx;have f1:(σ.upd x (.list (ts.map V.str))) x=some (.list (ts.map V.str)):=X0.hit;generalize X0.upd σ x _=σ1 at g1 f1 ⊢;obtain⟨s1,s2⟩:=Z4l ts hts;rw[<-StrLaws.glued_eq_join]at s1 s2;rw[hlen]at s2;k_extra "M";refine X1.join (.inl f1) (Z4V (B:=1) (fun y hy=>Nat.le_of_eq (hts y hy).2) (by exact Y8Y m1 hn hlen)) ?_;have s1:Sm (Txt.join (ofString "") ts):=s1;have s2:(Txt.join (ofString "") ts).length=n:=s2;generalize Txt.join (ofString "") ts=text at s1 s2 ⊢;k_extra "M";refine X5.letter (Int.fmod_nonneg_of_pos _ (by(first|lia|omega))) (Int.fmod_lt_of_pos _ (by(first|lia|omega))) ?_;have q1:=Int.fmod_lt_of_pos (b+5*k) (show(0:Int)<26 by(first|lia|omega));have s3:Sm (letS ((b+5*k).fmod 26).toNat):=Sm.letter (by exact Y8q q1);have s4:(letS ((b+5*k).fmod 26).toNat).length=1:=rfl;generalize letS ((b+5*k).fmod 26).toNat=lt at s3 s4 ⊢;have l1:=Txt.slice_le text none (some (a:Int));have l2:=Txt.slice_le text (some ((a:Int)+1)) none;k_extra "M";refine⟨_,rfl,?_⟩;refine Xf.str (by rw[sizeLine_eq];exact Y8Z m1 hn s2) ?_;k_extra "M";refine X9.add_str ?_ (by rw[sizeLine_eq];exact Y90 m1 hn s2 s4 l1);k_extra "M";refine⟨_,rfl,?_⟩;k_extra "M";refine Xf.str (by rw[sizeLine_eq];exact Y8Z m1 hn s2) ?_;refine X9.add_str ?_ (by rw[Za,sizeLine_eq];exact Y91 m1 hn s2 s4 l1 l2);k_extra "M";obtain⟨w1,w2,w3⟩:=(((s1.slice none (some (a:Int))).cat s3).cat (s1.slice (some ((a:Int)+1)) none)).word (by rw[Z4m (by exact Y92 t1 ha s2) s4];exact Y93 t1 ha s2) (by rw[Z4m (by exact Y92 t1 ha s2) s4];exact Y94 m1 hn s2);exact h _ _ g1 w1 w2 w3
structure NmOk(nm:Nat->Str)(c:Nat):Prop where
 w:∀i,i<c->isW (nm i)=true
 ok:∀i,i<c->PyData.strOk (nm i)=true
 inj:∀i,i<c->∀j,j<c->nm i=nm j->i=j
noncomputable def DG(nm:Nat->Str)(c:Nat)(d:Deed):Prop:=d.Good/\d.Ok/\∀n,(d=.join n\/d=.leave n)->∃i,i<c/\n=nm i
structure HG(nm:Nat->Str)(c i:Nat)(hn:Hn):Prop where
 name:hn.name=nm i
 hears:hn.hears=ofString "" \/isW hn.hears=true
 hok:PyData.strOk hn.hears=true
 len:hn.ds.length<=30
 ds:∀d∈hn.ds,DG nm c d
noncomputable def AtG(nm:Nat->Str)(σ:X0)(fl:Addr)(c:Nat)(hs:List (Hn×V)):Prop:=∀(i:Nat) (h:i<hs.length),HG nm c i hs[i].1/\∃l,hs[i].2=.ref l/\l≠fl/\σ l=some (.list (hs[i].1.ds.map Deed.v))
section
variable {nm:Nat->Str} {σ σ':X0} {fl l:Addr} {c:Nat} {hs:List (Hn×V)}
theorem AtG.snoc{hn:Hn}(h:AtG nm σ fl c hs)(k:∀x o,x≠fl->σ x=some o->σ' x=some o)(H:HG nm c hs.length hn)(hl:l≠fl)(e:σ' l=some (.list (hn.ds.map Deed.v))):AtG nm σ' fl c (hs++[(hn,.ref l)]):=by
 revert nm σ σ' fl l c hs hn;k_extra "R";intro nm σ σ' fl l c hs hn h k H hl e
 intro i hi
 by_cases q:i<hs.length
 ·rw[List.getElem_append_left q];obtain⟨a,l',b,c',d⟩:=h i q;exact⟨a,l',b,c',k _ _ c' d⟩
 ·have e4:i=hs.length:=by simp at hi;exact(Nq 0x4020e03600521004c9) q hi
  subst e4;rw[List.getElem_append_right (Nat.le_refl _)];simp only[Nat.sub_self,List.getElem_cons_zero];exact⟨H,l,rfl,hl,e⟩
theorem AtG.names(h:AtG nm σ fl c hs):hs.map (fun x=>x.1.name)=(List.range hs.length).map nm:=by
 refine List.ext_getElem (by simp) fun i h1 h2=>?_;have hi:i<hs.length:=by simpa using h1
 rw[getElem_map,getElem_map,List.getElem_range];exact(h i hi).1.name
theorem NmOk.nd(N:NmOk nm c):((List.range c).map nm).Nodup:=by
 unfold List.Nodup;rw[List.pairwise_map];exact List.nodup_range.imp_of_mem fun{a b} ha hb hne e=>hne (N.inj a (List.mem_range.mp ha) b (List.mem_range.mp hb) e)
theorem AtG.mem(h:AtG nm σ fl c hs){p:Hn×V}(hp:p∈hs):∃i,i<hs.length/\HG nm c i p.1/\∃l,p.2=.ref l/\σ l=some (.list (p.1.ds.map Deed.v)):=by
 obtain⟨i,hi,rfl⟩:=List.getElem_of_mem hp;obtain⟨a,l,b,_,d⟩:=h i hi;exact⟨i,hi,a,l,b,d⟩
theorem AtG.told(N:NmOk nm c)(h:AtG nm σ fl c hs)(hl:hs.length=c)(hc:c<=40):Told σ hs:=by
 refine⟨fun p hp=>?_,fun p hp=>?_,?_,by exact Y95 hl hc,fun p hp d hd n z=>?_⟩
 ·obtain⟨i,hi,H,l,b,d⟩:=h.mem hp;exact⟨l,b,d⟩
 ·obtain⟨i,hi,H,_⟩:=h.mem hp;exact⟨by rw[H.name];exact N.w i (by exact Y5q hl hi),H.hears,H.len,fun d hd=>(H.ds d hd).1⟩
 ·rw[h.names,hl];exact N.nd
 ·obtain⟨i,hi,H,_⟩:=h.mem hp;obtain⟨j,hj,rfl⟩:=(H.ds d hd).2.2 n z;rw[h.names];exact mem_map_of_mem (List.mem_range.mpr (by exact Y5K hl hj))
theorem AtG.cast(N:NmOk nm c)(h:AtG nm σ fl c hs)(hl:hs.length=c)(hc:c<=40):Xg (hs.map (fun x=>x.1)):=by
 have en:(hs.map (fun x=>x.1)).map (fun x=>x.name)=hs.map (fun x=>x.1.name):=by rw[map_map];rfl
 have get:∀x∈hs.map (fun x=>x.1),∃i,i<hs.length/\HG nm c i x:=fun x hx=>by
  obtain⟨p,hp,rfl⟩:=List.mem_map.mp hx;obtain⟨i,hi,H,_⟩:=h.mem hp;exact⟨i,hi,H⟩
 refine⟨⟨by rw[en,h.names,hl];exact N.nd,by rw[length_map];exact(Nq 0x1e64000000000028c840908049) hl hc,fun x hx=>?_,fun x hx=>?_⟩,by rw[length_map];exact Y95 hl hc,fun x hx=>?_,fun x hx d hd=>?_⟩
 ·obtain⟨i,hi,H⟩:=get x hx;exact H.hok
 ·obtain⟨i,hi,H⟩:=get x hx;rw[H.name];exact N.ok i (by exact Y5q hl hi)
 ·obtain⟨i,hi,H⟩:=get x hx;exact H.len
 ·obtain⟨i,hi,H⟩:=get x hx;refine⟨(H.ds d hd).2.1,fun n z=>?_⟩;obtain⟨j,hj,rfl⟩:=(H.ds d hd).2.2 n z;rw[en,h.names];exact mem_map_of_mem (List.mem_range.mpr (by exact Y5K hl hj))
end
theorem DG.now{nm:Nat->Str}{c:Nat}{w:Str}(h:isW w=true)(k:PyData.strOk w=true):DG nm c (.now w):=⟨h,k,fun n z=>by rcases z with e|e<;>cases e⟩
theorem DG.soon{nm:Nat->Str}{c:Nat}{w:Str}(h:isW w=true)(k:PyData.strOk w=true):DG nm c (.soon w):=⟨h,k,fun n z=>by rcases z with e|e<;>cases e⟩
theorem DG.cancel{nm:Nat->Str}{c:Nat}{w:Str}(h:isW w=true)(k:PyData.strOk w=true):DG nm c (.cancel w):=⟨h,k,fun n z=>by rcases z with e|e<;>cases e⟩
theorem DG.wait{nm:Nat->Str}{c:Nat}{w:Str}{t:Int}(h0:0<=t)(h1:t<=1000000000)(h:isW w=true)(k:PyData.strOk w=true):DG nm c (.wait t w):=⟨⟨h0,h1,h⟩,k,fun n z=>by rcases z with e|e<;>cases e⟩
theorem DG.hush{nm:Nat->Str}{c:Nat}:DG nm c .hush:=⟨trivial,trivial,fun n z=>by rcases z with e|e<;>cases e⟩
theorem DG.join{nm:Nat->Str}{c i:Nat}(N:NmOk nm c)(hi:i<c):DG nm c (.join (nm i)):=⟨N.w i hi,trivial,fun n z=>⟨i,hi,by rcases z with e|e<;>cases e;rfl⟩⟩
theorem DG.leave{nm:Nat->Str}{c i:Nat}(N:NmOk nm c)(hi:i<c):DG nm c (.leave (nm i)):=⟨N.w i hi,trivial,fun n z=>⟨i,hi,by rcases z with e|e<;>cases e;rfl⟩⟩
theorem LS.step_idle:∀{ct1:List Hn}{s:LS}(h:s.step ct1=none),s.fresh=none/\s.frames=[]/\s.near=[]/\minP s.far=none:=by
 k_extra "n";intro ct1 s h;unfold LS.step at h
 cases h0:s.fresh with
 | some n=>rw[h0]at h;cases h
 | none=>
  rw[h0]at h
  cases hf:s.frames with
  | cons r fr=>rw[hf]at h;cases h
  | nil=>
   rw[hf]at h
   cases hn:s.near with
   | cons n ns=>rw[hn]at h;cases h
   | nil=>
    rw[hn]at h
    cases hm:minP s.far with
    | none=>exact⟨rfl,rfl,rfl,rfl⟩
    | some p=>rw[hm]at h;cases h
theorem Z5w:∀l:List (Int×Int),l≠[]->∃p∈l,∀q∈l,lexlt q p=false
 | [x],_=>⟨x,.head _,fun q hq=>by rw[List.mem_singleton.mp hq,lexlt_false];(first|lia|omega)⟩
 | x::y::l,_=>by
  obtain⟨p,hp,hm⟩:=Z5w (y::l) (by simp)
  cases c:lexlt x p with
  | false=>
   refine⟨p,.tail _ hp,fun q hq=>?_⟩;rcases List.mem_cons.mp hq with rfl|hq
   ·exact c
   ·exact hm q hq
  | true=>
   refine⟨x,.head _,fun q hq=>?_⟩;rcases List.mem_cons.mp hq with rfl|hq
   ·rw[lexlt_false];(first|lia|omega)
   ·have h1:=lexlt_false.mp (hm q hq);have h2:=lexlt_iff.mp c;rw[lexlt_false];(first|lia|omega)
theorem Z5x{l:List (Int×Int)}(h:minP l=none):l=[]:=by
 cases e:l with
 | nil=>rfl
 | cons x r=>
  obtain⟨p,hp,hm⟩:=Z5w l (by rw[e];simp);rw[Z4j hp hm]at h;cases h
inductive Mv(ct1:List Hn)(s:LS):Row->LS->Prop
 | send (w:Str) (hw:PyData.strOk w=true):Mv ct1 s (.send s.events.length) (s.send w)
 | born (n:Int) (h:s.fresh=some n):Mv ct1 s (.beg n s.time) (LS.begins ct1 { s with fresh:=none } n)
 | near (n:Int) (ns:List Int) (h0:s.fresh=none) (hf:s.frames=[]) (hn:s.near=n::ns):Mv ct1 s (.beg n s.time) (LS.begins ct1 { s with near:=ns } n)
 | far (p:Int×Int) (h0:s.fresh=none) (hf:s.frames=[]) (hn:s.near=[]) (hp:minP s.far=some p):Mv ct1 s (.beg p.2 (max s.time p.1)) (LS.begins ct1 { s with far:=s.far.erase p,time:=max s.time p.1 } p.2)
 | make (f:Frm) (fr:List Frm) (d:Deed) (ds:List Deed) (h0:s.fresh=none) (hf:s.frames=f::fr) (hd:f.deeds=d::ds) (w:Str) (k:d=.now w\/d=.soon w\/∃t,d=.wait t w):Mv ct1 s (.make f.num s.events.length) (LS.deed { s with frames:={ f with deeds:=ds }::fr } f.num d)
 | cancel (f:Frm) (fr:List Frm) (ds:List Deed) (w:Str) (h0:s.fresh=none) (hf:s.frames=f::fr) (hd:f.deeds=.cancel w::ds):Mv ct1 s (.cancel f.num (Zz ((s.near++s.far.map (fun x=>x.2)).filter fun x=>s.wordOf x==w))) (LS.cancel { s with frames:={ f with deeds:=ds }::fr } f.num w)
 | join (f:Frm) (fr:List Frm) (ds:List Deed) (n:Str) (h0:s.fresh=none) (hf:s.frames=f::fr) (hd:f.deeds=.join n::ds):Mv ct1 s (.join f.num n) (LS.deed { s with frames:={ f with deeds:=ds }::fr } f.num (.join n))
 | leave (f:Frm) (fr:List Frm) (ds:List Deed) (n:Str) (h0:s.fresh=none) (hf:s.frames=f::fr) (hd:f.deeds=.leave n::ds):Mv ct1 s (.leave f.num n) (LS.deed { s with frames:={ f with deeds:=ds }::fr } f.num (.leave n))
 | hush (f:Frm) (fr:List Frm) (ds:List Deed) (h0:s.fresh=none) (hf:s.frames=f::fr) (hd:f.deeds=.hush::ds):Mv ct1 s (.hush f.num) (LS.deed { s with frames:={ f with deeds:=ds }::fr } f.num .hush)
 | call (f:Frm) (fr:List Frm) (h:Hn) (cs:List Str) (h0:s.fresh=none) (hf:s.frames=f::fr) (hd:f.deeds=[]) (hc:f.calls=h.name::cs) (hh:h∈ct1):Mv ct1 s (.call f.num h.name) (LS.callIn { s with frames:={ f with calls:=cs }::fr } f.num h)
 | fin (f:Frm) (fr:List Frm) (h0:s.fresh=none) (hf:s.frames=f::fr) (hd:f.deeds=[]) (hc:f.calls=[]):Mv ct1 s (.fin f.num) { s with frames:=fr,log:=s.log++[.fin f.num] }
theorem LS.step_mv:∀{ct1:List Hn}{s s':LS}(K:Xg ct1)(W:s.Wf ct1)(h:s.step ct1=some s'),∃r,Mv ct1 s r s'/\∀n,r≠.send n:=by
 k_extra "A";intro ct1 s s' K W h;unfold LS.step at h
 cases h0:s.fresh with
 | some n=>rw[h0]at h;cases h;exact⟨_,.born n h0,fun z e=>by cases e⟩
 | none=>
  rw[h0]at h
  cases hf:s.frames with
  | cons f fr=>
   rw[hf]at h
   cases h
   unfold LS.goOn;rw[hf];dsimp only
   cases hd:f.deeds with
   | cons d ds=>
    cases d with
    | now w=>exact⟨_,.make f fr _ ds h0 hf hd w (.inl rfl),fun z e=>by cases e⟩
    | soon w=>exact⟨_,.make f fr _ ds h0 hf hd w (.inr (.inl rfl)),fun z e=>by cases e⟩
    | wait t w=>exact⟨_,.make f fr _ ds h0 hf hd w (.inr (.inr ⟨t,rfl⟩)),fun z e=>by cases e⟩
    | cancel w=>exact⟨_,.cancel f fr ds w h0 hf hd,fun z e=>by cases e⟩
    | join n=>exact⟨_,.join f fr ds n h0 hf hd,fun z e=>by cases e⟩
    | leave n=>exact⟨_,.leave f fr ds n h0 hf hd,fun z e=>by cases e⟩
    | hush=>exact⟨_,.hush f fr ds h0 hf hd,fun z e=>by cases e⟩
   | nil=>
    dsimp only
    cases hc:f.calls with
    | cons n cs=>
     obtain⟨x,hx,rfl⟩:=List.mem_map.mp ((W.fm f (by rw[hf];exact .head _)).cn n (by rw[hc];exact .head _));dsimp only;rw[Z14 K.K hx];exact⟨_,.call f fr x cs h0 hf hd hc hx,fun z e=>by cases e⟩
    | nil=>exact⟨_,.fin f fr h0 hf hd hc,fun z e=>by cases e⟩
  | nil=>
   rw[hf]at h
   cases hn:s.near with
   | cons n ns=>
    rw[hn]at h
    cases h
    have q:=Mv.near (ct1:=ct1) n ns h0 hf hn;rw[hf,h0]at q;exact⟨_,q,fun z e=>by cases e⟩
   | nil=>
    rw[hn]at h
    cases hm:minP s.far with
    | none=>rw[hm]at h;cases h
    | some p=>
     rw[hm]at h
     cases h
     have q:=Mv.far (ct1:=ct1) p h0 hf hn hm;rw[hf,h0,hn]at q;exact⟨_,q,fun z e=>by cases e⟩
noncomputable def Row.nok:Row->Prop
 | .call _ h|.join _ h|.leave _ h=>PyData.strOk h=true
 | _=>True
noncomputable def rowD:Row->PyData
 | .send n=>.tuple [.str (ofString "send"),.int n]
 | .beg n t=>.tuple [.str (ofString "begin"),.int n,.int t]
 | .fin n=>.tuple [.str (ofString "end"),.int n]
 | .call n h=>.tuple [.str (ofString "call"),.int n,.str h]
 | .cancel n ns=>.tuple [.str (ofString "cancel"),.int n,.tuple (ns.map PyData.int)]
 | .join n h=>.tuple [.str (ofString "join"),.int n,.str h]
 | .leave n h=>.tuple [.str (ofString "leave"),.int n,.str h]
 | .hush n=>.tuple [.str (ofString "hush"),.int n]
 | .make m n=>.tuple [.str (ofString "make"),.int m,.int n]
theorem Z5y(r:Row):DR C σ r.v (rowD r):=by
 cases r with
 | cancel n ns=>exact .tup (.cons (.str _) (.cons (.int _) (.cons (.tup (DRs.map fun z z=>.int _)) .nil)))
 | send n=>exact .tup (.cons (.str _) (.cons (.int _) .nil))
 | fin n=>exact .tup (.cons (.str _) (.cons (.int _) .nil))
 | hush n=>exact .tup (.cons (.str _) (.cons (.int _) .nil))
 | beg n t=>exact .tup (.cons (.str _) (.cons (.int _) (.cons (.int _) .nil)))
 | make n t=>exact .tup (.cons (.str _) (.cons (.int _) (.cons (.int _) .nil)))
 | call n t=>exact .tup (.cons (.str _) (.cons (.int _) (.cons (.str _) .nil)))
 | join n t=>exact .tup (.cons (.str _) (.cons (.int _) (.cons (.str _) .nil)))
 | leave n t=>exact .tup (.cons (.str _) (.cons (.int _) (.cons (.str _) .nil)))
theorem Z4n{r:Row}(h:r.nok):(rowD r).canLay0=true/\(rowD r).depth<=4:=by
 have s:=Z0
 cases r with
 | cancel n ns=>
  have a:=Z5 (g:=PyData.int) (xs:=ns) fun z z=>by simp[PyData.canLay0]
  have b:=ZE (k:=1) (g:=PyData.int) (xs:=ns) (fun z z=>by simp[PyData.depth]);refine⟨by simp[rowD,PyData.canLay0,PyData.canLayAll0,s,a],?_⟩;simp only[rowD,PyData.depth,PyData.depthAll];exact Y8g b
 | call n t=>exact⟨by simp[rowD,PyData.canLay0,PyData.canLayAll0,s,show PyData.strOk t=true from h],by simp[rowD,PyData.depth,PyData.depthAll]⟩
 | join n t=>exact⟨by simp[rowD,PyData.canLay0,PyData.canLayAll0,s,show PyData.strOk t=true from h],by simp[rowD,PyData.depth,PyData.depthAll]⟩
 | leave n t=>exact⟨by simp[rowD,PyData.canLay0,PyData.canLayAll0,s,show PyData.strOk t=true from h],by simp[rowD,PyData.depth,PyData.depthAll]⟩
 | _=>exact⟨by simp[rowD,PyData.canLay0,PyData.canLayAll0,s],by simp[rowD,PyData.depth,PyData.depthAll]⟩
theorem Z6P{l m:Addr}{rs:List Row}{Q:pV}(hu:A.units<9000)(h1:σ l=some (.list (rs.map Row.v)))(h2:σ m=some (.list (rs.map Row.v)))(hn:∀r∈rs,r.nok)(h:Q (.bool true) σ):X4 C A .Eq (.ref l) (.ref m) σ Q X:=by
 refine X4.eqSame (d:=.list (rs.map rowD)) (.list (.inl h1) (DRs.map fun r z=>Z5y r)) (.list (.inl h2) (DRs.map fun r z=>Z5y r)) ?_ ?_ h
 ·simp only[PyData.canLay0];exact Z5 fun r hr=>(Z4n (hn r hr)).1
 ·have:=ZE (k:=4) (g:=rowD) (xs:=rs) fun r hr=>(Z4n (hn r hr)).2;simp only[PyData.depth,cLine];exact Y8h hu this
noncomputable def optD:Option Int->PyData
 | none=>.none
 | some n=>.int n
noncomputable def evD(e:Evt):PyData:=.tuple [.str e.word,optD e.maker,.str e.road,.int e.due]
theorem Z6t(e:Evt):DR C σ e.v (evD e):=by
 cases e with
 | mk w m r d=>cases m with
  | none=>exact .tup (.cons (.str _) (.cons .none (.cons (.str _) (.cons (.int _) .nil))))
  | some n=>exact .tup (.cons (.str _) (.cons (.int _) (.cons (.str _) (.cons (.int _) .nil))))
theorem Z5z{e:Evt}(h1:PyData.strOk e.word=true)(h2:PyData.strOk e.road=true):(evD e).canLay0=true/\(evD e).depth<=4:=by
 cases e with
 | mk w m r d=>cases m<;>exact⟨by simp[evD,optD,PyData.canLay0,PyData.canLayAll0,show PyData.strOk w=true from h1,show PyData.strOk r=true from h2],by simp[evD,optD,PyData.depth,PyData.depthAll]⟩
theorem Z7i{l m:Addr}{rs:List Evt}{Q:pV}(hu:A.units<9000)(h1:σ l=some (.list (rs.map Evt.v)))(h2:σ m=some (.list (rs.map Evt.v)))(hn:∀e∈rs,PyData.strOk e.word=true/\PyData.strOk e.road=true)(h:Q (.bool true) σ):X4 C A .Eq (.ref l) (.ref m) σ Q X:=by
 refine X4.eqSame (d:=.list (rs.map evD)) (.list (.inl h1) (DRs.map fun r z=>Z6t r)) (.list (.inl h2) (DRs.map fun r z=>Z6t r)) ?_ ?_ h
 ·simp only[PyData.canLay0];exact Z5 fun r hr=>(Z5z (hn r hr).1 (hn r hr).2).1
 ·have:=ZE (k:=4) (g:=evD) (xs:=rs) fun r hr=>(Z5z (hn r hr).1 (hn r hr).2).2;simp only[PyData.depth,cLine];exact Y8h hu this
structure LS.Lay(s:LS):Prop where
 rows:∀r∈s.log,r.nok
 evs:∀e∈s.events,PyData.strOk e.word=true/\PyData.strOk e.road=true
theorem LS.Lay.more{s s1:LS}{r:Row}(Y:s.Lay)(es:List Evt)(e1:s1.log=s.log++[r])(hr:r.nok)(e2:s1.events=s.events++es)(he:∀e∈es,PyData.strOk e.word=true/\PyData.strOk e.road=true):s1.Lay:=by
 refine⟨fun q hq=>?_,fun e h=>?_⟩
 ·rw[e1]at hq;rcases List.mem_append.mp hq with hq|hq
  ·exact Y.rows q hq
  ·rw[List.mem_singleton.mp hq];exact hr
 ·rw[e2]at h;rcases List.mem_append.mp h with h|h
  ·exact Y.evs e h
  ·exact he e h
theorem LS.Lay.none{s s1:LS}{r:Row}(Y:s.Lay)(e1:s1.log=s.log++[r])(hr:r.nok)(e2:s1.events=s.events):s1.Lay:=
 Y.more [] e1 hr (e2.trans (append_nil _).symm) (fun u z=>by cases z)
theorem LS.Lay.one{s s1:LS}{r:Row}{w:Str}{m:Option Int}{road:String}{t:Int}(Y:s.Lay)(e1:s1.log=s.log++[r])(hr:r.nok)(e2:s1.events=s.events++[⟨w,m,ofString road,t⟩])(hw:PyData.strOk w=true):s1.Lay:=
 Y.more [_] e1 hr e2 fun e he=>by rw[List.mem_singleton.mp he];exact⟨hw,Z0 _⟩
theorem LS.Lay.new(ns:List Str):(LS.new ns).Lay:=⟨(fun u z=>by cases z),(fun u z=>by cases z)⟩
theorem LS.Lay.send{s:LS}{w:Str}(Y:s.Lay)(hw:PyData.strOk w=true):(s.send w).Lay:=Y.one (r:=.send s.events.length) (w:=w) rfl trivial rfl hw
theorem LS.Lay.deed{ct1:List Hn}{s:LS}{n:Int}{d:Deed}(Y:s.Lay)(K:Xg ct1)(hd:DOk ct1 d):(s.deed n d).Lay:=by
 have nm:∀m∈ct1.map (fun x=>x.name),PyData.strOk m=true:=fun m hm=>by
  obtain⟨h,hh,rfl⟩:=List.mem_map.mp hm;exact K.K.name h hh
 cases d with
 | now w=>exact Y.one (r:=.make n s.events.length) rfl trivial rfl hd.1
 | soon w=>exact Y.one (r:=.make n s.events.length) rfl trivial rfl hd.1
 | wait t w=>exact Y.one (r:=.make n s.events.length) rfl trivial rfl hd.1
 | cancel w=>exact Y.none (r:=.cancel n _) rfl trivial rfl
 | join h=>exact Y.none (r:=.join n h) rfl (nm h (hd.2 h (.inl rfl))) rfl
 | leave h=>exact Y.none (r:=.leave n h) rfl (nm h (hd.2 h (.inr rfl))) rfl
 | hush=>exact Y.none (r:=.hush n) rfl trivial (by simp only[LS.deed,LS.setCalls];split<;>rfl)
theorem LS.Lay.goOn:∀{ct1:List Hn}{s:LS}{r:Frm}{fr:List Frm}(Y:s.Lay)(K:Xg ct1)(W:s.Wf ct1)(hf:s.frames=r::fr),(s.goOn ct1).Lay:=by
 k_extra "J";intro ct1 s r fr Y K W hf;have F:=W.fm r (by rw[hf];exact .head _);unfold LS.goOn;rw[hf];dsimp only
 cases hd:r.deeds with
 | cons d ds=>exact LS.Lay.deed (s:={ s with frames:={ r with deeds:=ds }::fr }) ⟨Y.rows,Y.evs⟩ K (F.ds d (by rw[hd];exact .head _))
 | nil=>
  dsimp only
  cases hc:r.calls with
  | cons n cs=>
   have F2:=F.cn;rw[hc]at F2;obtain⟨x,hx,rfl⟩:=List.mem_map.mp (F2 n (.head _));dsimp only;rw[Z14 K.K hx];refine Y.none (r:=.call r.num x.name) rfl (K.K.name x hx) ?_;simp only[LS.callIn,LS.got]
   split<;>rfl
  | nil=>exact Y.none (r:=.fin r.num) rfl trivial rfl
theorem LS.Lay.step:∀{ct1:List Hn}{s s':LS}(Y:s.Lay)(K:Xg ct1)(W:s.Wf ct1)(h:s.step ct1=some s'),s'.Lay:=by
 k_extra "A";intro ct1 s s' Y K W h;unfold LS.step at h
 cases h0:s.fresh with
 | some n=>rw[h0]at h;cases h;exact Y.none (r:=.beg n s.time) rfl trivial rfl
 | none=>
  rw[h0]at h
  cases hf:s.frames with
  | cons r fr=>rw[hf]at h;cases h;exact Y.goOn K W hf
  | nil=>
   rw[hf]at h
   cases hn:s.near with
   | cons n ns=>rw[hn]at h;cases h;exact Y.none (r:=.beg n s.time) rfl trivial rfl
   | nil=>
    rw[hn]at h
    cases hm:minP s.far with
    | none=>rw[hm]at h;cases h
    | some p=>rw[hm]at h;cases h;exact Y.none (r:=.beg p.2 (max s.time p.1)) rfl trivial rfl
noncomputable def getS(d:List (Str×Int))(k:Str):Option Int:=(d.find? fun p=>decide (p.1=k)).map (fun x=>x.2)
noncomputable def ok11(st:List (Str×Int))(e:Str×Int):Bool:=getS st e.1==some e.2
noncomputable def vnames(st L:List (Str×Int)):List Str:=(L.filter (ok11 st)).map (fun x=>x.1)
inductive Xy{α β:Type}(R:α->β->Prop):List α->List β->Prop
 | nil:Xy R [] []
 | cons {a:α} {b:β} {as:List α} {bs:List β}:R a b->Xy R as bs->Xy R (a::as) (b::bs)
structure F11(st:List (Str×Int))(p:Int)(f:Frm)(L:List (Str×Int)):Prop where
 calls:f.calls=vnames st L
 nd:(L.map (fun x=>x.1)).Nodup
 lt:∀e∈L,e.2<p
structure I11(s:LS)(st:List (Str×Int))(frs:List (List (Str×Int)))(p:Int):Prop where
 keys:st.map (fun x=>x.1)=s.posts
 lt:∀e∈st,e.2<p
 fr:Xy (F11 st p) s.frames frs
theorem Z1I{d:List (Str×Int)}{k:Str}(h:k∉d.map (fun x=>x.1)):getS d k=none:=by
 unfold getS;rw[List.find?_eq_none.mpr fun p hp=>by simpa using fun e=>h (List.mem_map.mpr ⟨p,hp,e⟩)];rfl
theorem ZT{d:List (Str×Int)}{k:Str}(h:k∈d.map (fun x=>x.1)):∃m,getS d k=some m/\(k,m)∈d:=by
 obtain⟨p,hp,rfl⟩:=List.mem_map.mp h;unfold getS
 cases e:d.find? (fun q=>decide (q.1=p.1)) with
 | none=>exact absurd (List.find?_eq_none.mp e p hp) (by simp)
 | some q=>
  have h1:=List.find?_some e;simp only[decide_eq_true_eq]at h1;exact⟨q.2,rfl,by rw[<-h1];exact List.mem_of_find?_eq_some e⟩
noncomputable def Zu(d:List (Str×Int))(k:Str):List (Str×Int):=d.filter fun p=>!decide (p.1=k)
theorem Z6c(d:List (Str×Int))(k x:Str):getS (Zu d k) x=if x=k then none else getS d x:=by
 by_cases q:x=k
 ·subst q;rw[if_pos rfl];refine Z1I fun z=>?_;obtain⟨p,hp,e⟩:=List.mem_map.mp z;have:=(List.mem_filter.mp hp).2;simp[e]at this
 ·rw[if_neg q];unfold getS Zu;rw[List.find?_filter]
  congr 2
  funext p
  by_cases z:p.1=x
  ·simp[z,q]
  ·simp[z]
theorem Z6d(d:List (Str×Int))(k x:Str)(p:Int)(h:k∉d.map (fun x=>x.1)):getS (d++[(k,p)]) x=if x=k then some p else getS d x:=by
 unfold getS;rw[List.find?_append]
 by_cases q:x=k
 ·subst q;rw[if_pos rfl,List.find?_eq_none.mpr fun p hp=>by simpa using fun e=>h (List.mem_map.mpr ⟨p,hp,e⟩)];simp
 ·rw[if_neg q];have:[(k,p)].find? (fun p=>decide (p.1=x))=none:=by simp[Ne.symm q]
  rw[this];simp
theorem Z5A{st L:List (Str×Int)}(h:(L.map (fun x=>x.1)).Nodup):(vnames st L).Nodup:=(List.filter_sublist.map _).nodup h
theorem Z4I{st L:List (Str×Int)}(h:(L.map (fun x=>x.1)).Nodup)(n:Str):vnames (Zu st n) L=(vnames st L).erase n:=by
 rw[(Z5A h).erase_eq_filter];unfold vnames;rw[filter_map,List.filter_filter]
 congr 1
 refine List.filter_congr fun e z=>?_;unfold ok11;rw[Z6c]
 by_cases q:e.1=n
 ·simp[q]
 ·simp[q]
theorem Z4J{st L:List (Str×Int)}{n:Str}{p:Int}(h:n∉st.map (fun x=>x.1))(lt:∀e∈L,e.2<p):vnames (st++[(n,p)]) L=vnames st L:=by
 unfold vnames
 congr 1
 refine List.filter_congr fun e he=>?_;unfold ok11;rw[Z6d st n e.1 p h]
 by_cases q:e.1=n
 ·rw[if_pos q,q,Z1I h];have:=lt e he;have:p≠e.2:=by exact(Jq 0x4a608089) this
  simp[this]
 ·rw[if_neg q]
noncomputable def left11(st L:List (Str×Int)):List (Str×Int):=L.dropWhile fun e=>!ok11 st e
theorem Z23(st:List (Str×Int)):∀L,vnames st (left11 st L)=vnames st L
 | []=>rfl
 | e::L=>by
  unfold left11
  cases q:ok11 st e with
  | true=>rw[List.dropWhile_cons_of_neg (by simp[q])]
  | false=>
   rw[List.dropWhile_cons_of_pos (by simp[q])];have ih:=Z23 st L;unfold left11 at ih;rw[ih];unfold vnames;rw[List.filter_cons_of_neg (by simp[q])]
theorem Z2B{st:List (Str×Int)}:∀{L:List (Str×Int)},vnames st L=[]->left11 st L=[]
 | [],_=>rfl
 | e::L,h=>by
  unfold vnames at h
  cases q:ok11 st e with
  | true=>rw[List.filter_cons_of_pos q]at h;cases h
  | false=>
   rw[List.filter_cons_of_neg (by simp[q])]at h;unfold left11;rw[List.dropWhile_cons_of_pos (by simp[q])];exact Z2B (L:=L) h
theorem Z3T:∀{st L:List (Str×Int)}{n:Str}{cs:List Str}(h:vnames st L=n::cs),∃q L2,left11 st L=(n,q)::L2/\vnames st L2=cs:=by
 k_extra "J";intro st L n cs h;rw[<-Z23]at h
 cases e:left11 st L with
 | nil=>rw[e]at h;cases h
 | cons x L2=>
  have hx:ok11 st x=true:=by
   have:=List.head?_dropWhile_not (fun e=>!ok11 st e) L;unfold left11 at e;rw[e]at this;simpa using this
  rw[e]at h;unfold vnames at h;rw[List.filter_cons_of_pos hx,map_cons]at h;obtain⟨h1,h2⟩:=List.cons.inj h;exact⟨x.2,L2,by rw[<-h1],h2⟩
theorem Z2C(st L:List (Str×Int)):(left11 st L).Sublist L:=List.dropWhile_sublist _
theorem F11.up{st:List (Str×Int)}{p:Int}{f:Frm}{L:List (Str×Int)}(F:F11 st p f L):F11 st (p+1) f L:=⟨F.calls,F.nd,fun e he=>by have:=F.lt e he;exact Y9H this⟩
theorem I11.tick{s s1:LS}{st:List (Str×Int)}{frs:List (List (Str×Int))}{p:Int}(I:I11 s st frs p)(e1:s1.posts=s.posts)(e2:s1.frames.map (fun x=>x.calls)=s.frames.map (fun x=>x.calls)):I11 s1 st frs (p+1):=by
 refine⟨by rw[e1];exact I.keys,fun e he=>by have:=I.lt e he;exact Y9H this,?_⟩;have key:∀(a b:List Frm) (c:List (List (Str×Int))),Xy (F11 st p) a c->b.map (fun x=>x.calls)=a.map (fun x=>x.calls)->Xy (F11 st (p+1)) b c:=by
  intro a b c h
  induction h generalizing b with
  | nil=>intro e;rw[List.map_eq_nil_iff.mp e];exact .nil
  | cons x _ ih=>
   intro e
   cases b with
   | nil=>cases e
   | cons y b=>
    obtain⟨e3,e4⟩:=List.cons.inj (show y.calls::b.map (fun x=>x.calls)=_::_ from e);exact .cons ⟨e3.trans x.calls,x.nd,x.up.lt⟩ (ih b e4)
 exact key _ _ _ I.fr e2
theorem I11.away{s:LS}{st:List (Str×Int)}{frs:List (List (Str×Int))}{p:Int}{n:Str}(I:I11 s st frs p)(nd:s.posts.Nodup):I11 (s.away n) (Zu st n) frs p:=by
 refine⟨?_,fun e he=>I.lt e (List.mem_filter.mp he).1,?_⟩
 ·show _=s.posts.erase n;rw[nd.erase_eq_filter,<-I.keys,filter_map];unfold Zu
  congr 1
 ·show Xy _ (s.frames.map (Frm.away n)) _;have h:=I.fr;clear I;generalize s.frames=fs at h ⊢
  induction h with
  | nil=>exact .nil
  | cons x _ ih=>exact .cons ⟨by show List.erase _ _=_;rw[x.calls,Z4I x.nd],x.nd,x.lt⟩ ih
theorem I11.join{s:LS}{st:List (Str×Int)}{frs:List (List (Str×Int))}{p:Int}{n:Str}(I:I11 s st frs p)(hn:n∉s.posts):I11 { s with posts:=s.posts++[n] } (st++[(n,p)]) frs (p+1):=by
 have hk:n∉st.map (fun x=>x.1):=by rw[I.keys];exact hn
 refine⟨by rw[map_append,I.keys];rfl,fun e he=>?_,?_⟩
 ·rcases List.mem_append.mp he with he|he
  ·have:=I.lt e he;exact Y9H this
  ·rw[List.mem_singleton.mp he];dsimp only;exact(Jp 58742788)
 ·have h:=I.fr;show Xy _ s.frames _;clear I;generalize s.frames=fs at h ⊢
  induction h with
  | nil=>exact .nil
  | cons x _ ih=>exact .cons ⟨by rw[Z4J hk x.lt];exact x.calls,x.nd,x.up.lt⟩ ih
theorem I11.top:∀{s:LS}{st:List (Str×Int)}{f f':Frm}{fr:List Frm}{L L':List (Str×Int)}{frs:List (List (Str×Int))}{p:Int}(I:I11 s st (L::frs) p)(hf:s.frames=f::fr)(hs:L'.Sublist L)(hc:f'.calls=vnames st L'),I11 { s with frames:=f'::fr } st (L'::frs) p:=by
 k_extra "F";intro s st f f' fr L L' frs p I hf hs hc;have h:=I.fr;rw[hf]at h
 cases h with
 | cons a b=>exact⟨I.keys,I.lt,.cons ⟨hc,(hs.map _).nodup a.nd,fun e he=>a.lt e (hs.subset he)⟩ b⟩
noncomputable def opens11(st:List (Str×Int))(ns:List Str):List (Str×Int):=ns.map fun n=>(n,(getS st n).getD 0)
theorem I11.begin{s:LS}{st:List (Str×Int)}{frs:List (List (Str×Int))}{p:Int}{n:Int}{out:List Str}(I:I11 s st frs p)(hm:∀n∈out,n∈s.posts)(nd:out.Nodup):I11 (s.begin n out) st (opens11 st out::frs) (p+1):=by
 have I2:=I.tick (s1:=s) rfl rfl;have hg:∀n∈out,∃m,getS st n=some m/\(n,m)∈st:=fun n hn=>ZT (by rw[I.keys];exact hm n hn);refine⟨I2.keys,I2.lt,.cons ⟨?_,?_,?_⟩ I2.fr⟩
 ·show out=_;unfold vnames opens11;rw[List.filter_eq_self.mpr fun e he=>?_,map_map]
  ·exact(map_id _).symm
  ·obtain⟨n,hn,rfl⟩:=List.mem_map.mp he;obtain⟨m,e1,_⟩:=hg n hn;simp[ok11,e1]
 ·unfold opens11;rw[map_map];exact(map_id out).symm▸nd
 ·intro e he;obtain⟨n,hn,rfl⟩:=List.mem_map.mp he;obtain⟨m,e1,e2⟩:=hg n hn;have:=I.lt _ e2;simp only[e1,Option.getD_some]at this ⊢;exact Y9H this
theorem Z4o{T:List Tri}(h3:T.Pairwise (fun a b=>a.2.1<b.2.1)):∀p∈T,∀q∈T,ab p=ab q->p=q:=by
 induction h3 with
 | nil=>intro p hp;cases hp
 | cons h _ ih=>
  intro p hp q hq e;have e2:p.2.1=q.2.1:=congrArg Prod.snd e;rcases List.mem_cons.mp hp with z|z
  ·rcases List.mem_cons.mp hq with y|y
   ·rw[z,y]
   ·have:=h q y;rw[z]at e2;exact Y9J e2 this
  ·rcases List.mem_cons.mp hq with y|y
   ·have:=h p z;rw[y]at e2;exact Y9K e2 this
   ·exact ih p z q y e
theorem Z5B:∀{ct1:List Hn}{ps:List Str}{w:Str}{T ps':List Tri}(h1:T.map (fun x=>x.2.2)=Z8 (ct1.map Hn.hd) ps w)(h2:∀t∈T,t.1=rk (ct1.map Hn.hd) t.2.2)(h3:T.Pairwise (fun a b=>a.2.1<b.2.1))(hp:ps'.Perm T)(hs:ps'.Pairwise (fun p q=>lexlt (ab q) (ab p)=false)),ps'.map (fun x=>x.2.2)=Zg ct1 ps w:=by
 k_extra "K";intro ct1 ps w T ps' h1 h2 h3 hp hs;obtain⟨p,a1,a2,a3⟩:=Z2A ct1 ps w;have hl:(Z8 (ct1.map Hn.hd) ps w).length=T.length:=by rw[<-h1,length_map]
 rw[hl]at a1;have hlt:∀i∈p,i<T.length:=fun i hi=>List.mem_range.mp (a1.mem_iff.mp hi);have hf:∀i (h:i<T.length),(Z8 (ct1.map Hn.hd) ps w).getD i Str.empty=T[i].2.2:=fun i h=>by rw[<-h1];simp[h]
 have hg:∀i (h:i<T.length),T.getD i (0,0,Str.empty)=T[i]:=fun i h=>by simp[h]
 have p1:(p.map fun i=>T.getD i (0,0,Str.empty)).Perm T:=by
  have:=a1.map fun i=>T.getD i (0,0,Str.empty);refine this.trans (List.Perm.of_eq (List.ext_getElem (by simp) fun i x y=>?_));simp[y]
 have p2:(p.map fun i=>T.getD i (0,0,Str.empty)).Pairwise (fun p q=>lexlt (ab q) (ab p)=false):=by
  rw[List.pairwise_map];refine a2.imp_of_mem fun{i j} hi hj z=>?_;have li:=hlt i hi;have lj:=hlt j hj;unfold slt at z;simp only[decide_eq_true_eq,decide_eq_false_iff_not]at z;rw[hf i li,hf j lj,<-h2 _ (List.getElem_mem li),<-h2 _ (List.getElem_mem lj)]at z;rw[hg i li,hg j lj,lexlt_false];show T[i].1<T[j].1\/(T[i].1=T[j].1/\T[i].2.1<=T[j].2.1);rcases z with z|⟨z,ij⟩
  ·exact .inl z
  ·have:=List.pairwise_iff_getElem.mp h3 i j li lj ij;exact(Js 0x18860094e00910311121010c9) z this
 have e:ps'=p.map fun i=>T.getD i (0,0,Str.empty):=by
  refine List.Perm.eq_of_pairwise (le:=fun p q=>lexlt (ab q) (ab p)=false) (fun a b ha hb x y=>?_) hs p2 (hp.trans p1.symm);exact Z4o h3 a (hp.mem_iff.mp ha) b (p1.mem_iff.mp hb) (Z1r y x)
 rw[e,map_map,a3];refine List.map_congr_left fun i hi=>?_;show(T.getD i _).2.2=_;rw[hg i (hlt i hi),hf i (hlt i hi)]
structure F12 where
 num:Int
 called:List (Str×Int)
 deeds:List Deed
structure O12 where
 time:Int
 events:List Evt
 log:List Row
 frames:List F12
 line:List T3
 born:Option Int
 stood:Int
 st:List (Str×Int)
theorem Z7Y:Nonempty F12:=⟨⟨0,[],[]⟩⟩
theorem Z7Z:Nonempty O12:=⟨⟨0,[],[],[],[],none,0,[]⟩⟩
noncomputable def O12.wordOf(o:O12)(n:Int):Str:=((o.events[n.toNat]?).map (fun x=>x.word)).getD Str.empty
noncomputable def O12.come(o:O12)(n:Str):O12:=if n∈o.st.map (fun x=>x.1) then o else{ o with stood:=o.stood+1,st:=o.st++[(n,o.stood+1)] }
noncomputable def O12.begin(ct1:List Hn)(o:O12)(n:Int)(w:Str):O12:={ o with frames:=⟨n,opens11 o.st (Zg ct1 (o.st.map (fun x=>x.1)) w),[]⟩::o.frames,log:=o.log++[.beg n o.time] }
noncomputable def Z1J(st:List (Str×Int))(h:Hn):List (Str×Int):=if h.once then Zu st h.name else st
noncomputable def O12.deed(o:O12)(m:Int):Deed->O12
 | .now w=>{ o with events:=o.events++[⟨w,some m,ofString "now",o.time⟩],born:=some o.events.length,log:=o.log++[.make m o.events.length] }
 | .soon w=>{ o with events:=o.events++[⟨w,some m,ofString "soon",o.time⟩],line:=o.line++[(0,0,(o.events.length:Int))],log:=o.log++[.make m o.events.length] }
 | .wait t w=>{ o with events:=o.events++[⟨w,some m,ofString "wait",o.time+t⟩],line:=o.line++[(1,o.time+t,(o.events.length:Int))],log:=o.log++[.make m o.events.length] }
 | .cancel w=>{ o with line:=o.line.filter fun t=>!(o.wordOf t.2.2==w),log:=o.log++[.cancel m (Zz ((o.line.filter fun t=>o.wordOf t.2.2==w).map (fun x=>x.2.2)))] }
 | .join n=>{ o.come n with log:=o.log++[.join m n] }
 | .leave n=>{ o with st:=Zu o.st n,log:=o.log++[.leave m n] }
 | .hush=>{ o with frames:=match o.frames with|f::fr=>{ f with called:=[] }::fr|[]=>[],log:=o.log++[.hush m] }
noncomputable def O12.send(o:O12)(w:Str):O12:={ o with events:=o.events++[⟨w,none,ofString "wait",o.time⟩],line:=o.line++[(1,o.time,(o.events.length:Int))],log:=o.log++[.send o.events.length] }
inductive Ow12(ct1:List Hn)(o:O12):O12->Prop
 | born (n:Int) (e:Evt) (h:o.born=some n) (h0:0<=n) (he:o.events[n.toNat]?=some e):Ow12 ct1 o (O12.begin ct1 { o with born:=none } n e.word)
 | line (t:T3) (e:Evt) (h:o.born=none) (hf:o.frames=[]) (hm:t∈o.line) (hmin:∀u∈o.line,tlt u t=false) (h0:0<=t.2.2) (he:o.events[t.2.2.toNat]?=some e):Ow12 ct1 o (O12.begin ct1 { o with line:=o.line.erase t,time:=max o.time t.2.1 } t.2.2 e.word)
 | deed (f:F12) (fr:List F12) (d:Deed) (ds:List Deed) (h:o.born=none) (hf:o.frames=f::fr) (hd:f.deeds=d::ds):Ow12 ct1 o (O12.deed { o with frames:={ f with deeds:=ds }::fr } f.num d)
 | call (f:F12) (fr:List F12) (h:Hn) (q:Int) (L2:List (Str×Int)) (h0:o.born=none) (hf:o.frames=f::fr) (hd:f.deeds=[]) (hl:left11 o.st f.called=(h.name,q)::L2) (hh:h∈ct1) (hq:getS o.st h.name=some q):Ow12 ct1 o { o with frames:={ f with called:=L2,deeds:=h.ds }::fr,log:=o.log++[.call f.num h.name],st:=Z1J o.st h }
 | fin (f:F12) (fr:List F12) (h0:o.born=none) (hf:o.frames=f::fr) (hd:f.deeds=[]) (hl:left11 o.st f.called=[]):Ow12 ct1 o { o with frames:=fr,log:=o.log++[.fin f.num] }
 | idle (h0:o.born=none) (hf:o.frames=[]) (hl:o.line=[]):Ow12 ct1 o o
structure R12(s:LS)(o:O12):Prop where
 time:o.time=s.time
 t0:0<=o.time
 ev:o.events=s.events
 log:o.log=s.log
 born:o.born=s.fresh
 I:I11 s o.st (o.frames.map (fun x=>x.called)) (o.stood+1)
 fr:o.frames.map (fun f=>(f.num,f.deeds))=s.frames.map (fun f=>(f.num,f.deeds))
 near:s.near=(o.line.filter fun t=>t.1==0).map (fun x=>x.2.2)
 far:s.far=(o.line.filter fun t=>t.1==1).map (fun x=>x.2)
 shape:∀t∈o.line,(t.1=0/\t.2.1=0)\/t.1=1
 inc:o.line.Pairwise fun a b=>a.2.2<b.2.2
 lt:∀t∈o.line,0<=t.2.2/\t.2.2<o.events.length
theorem I11.keep{s s1:LS}{st:List (Str×Int)}{frs:List (List (Str×Int))}{p:Int}(I:I11 s st frs p)(e1:s1.posts=s.posts)(e2:s1.frames.map (fun x=>x.calls)=s.frames.map (fun x=>x.calls)):I11 s1 st frs p:=by
 refine⟨by rw[e1];exact I.keys,I.lt,?_⟩;have key:∀(a b:List Frm) (c:List (List (Str×Int))),Xy (F11 st p) a c->b.map (fun x=>x.calls)=a.map (fun x=>x.calls)->Xy (F11 st p) b c:=by
  intro a b c h
  induction h generalizing b with
  | nil=>intro e;rw[List.map_eq_nil_iff.mp e];exact .nil
  | cons x _ ih=>
   intro e
   cases b with
   | nil=>cases e
   | cons y b=>
    obtain⟨e3,e4⟩:=List.cons.inj (show y.calls::b.map (fun x=>x.calls)=_::_ from e);exact .cons ⟨e3.trans x.calls,x.nd,x.lt⟩ (ih b e4)
 exact key _ _ _ I.fr e2
theorem Z4p{l:List T3}(h:l.Pairwise fun a b=>a.2.2<b.2.2):l.Nodup:=h.imp fun z e=>by rw[e]at z;exact Y9M z
theorem Z5C{l:List T3}{n:Int}{ns:List Int}(sh:∀t∈l,(t.1=0/\t.2.1=0)\/t.1=1)(inc:l.Pairwise fun a b=>a.2.2<b.2.2)(h:(l.filter fun t=>t.1==0).map (fun x=>x.2.2)=n::ns) :
  ((0,0,n):T3)∈l/\(∀u∈l,tlt u (0,0,n)=false)/\((l.erase (0,0,n)).filter fun t=>t.1==0).map (fun x=>x.2.2)=ns/\((l.erase (0,0,n)).filter fun t=>t.1==1)=l.filter fun t=>t.1==1:=by
 revert l n ns;k_extra "A";intro l n ns sh inc h
 obtain⟨t,T,eT,e1,e2⟩:=List.map_eq_cons_iff.mp h;have ht:=List.mem_filter.mp (show t∈l.filter fun t=>t.1==0 by rw[eT];exact .head _);have et:t=(0,0,n):=by
  have h0:t.1=0:=by simpa using ht.2
  rcases sh t ht.1 with z|z
  ·exact Prod.ext h0 (Prod.ext z.2 e1)
  ·exact Y9N h0 z
 rw[et]at ht eT;have inc2:=inc.sublist (List.filter_sublist (p:=fun t=>t.1==0));rw[eT]at inc2;have hlt:=(List.pairwise_cons.mp inc2).1;have nd:=Z4p inc;have ee:l.erase (0,0,n)=l.filter (· != (0,0,n)):=nd.erase_eq_filter _;refine⟨ht.1,fun u hu=>?_,?_,?_⟩
 ·rw[ZR];rcases sh u hu with z|z
  ·refine .inr ⟨z.1.symm,?_⟩;have hm:u∈l.filter fun t=>t.1==0:=List.mem_filter.mpr ⟨hu,by simp[z.1]⟩;rw[eT]at hm;rw[lexlt_false];refine .inr ⟨z.2.symm,?_⟩;rcases List.mem_cons.mp hm with y|y
   ·rw[y];exact Int.le_refl _
   ·have:=hlt u y;show n<=u.2.2;exact Int.le_of_lt this
  ·left;rw[z];show(0:Int)<1;decide
 ·rw[ee,List.filter_filter];have:(l.filter fun t=>(t.1==0)&&(t != (0,0,n)))=(l.filter fun t=>t.1==0).filter (· != (0,0,n)):=by
   rw[List.filter_filter];refine List.filter_congr fun a w=>Bool.and_comm _ _
  rw[this,eT,List.filter_cons_of_neg (by simp),List.filter_eq_self.mpr fun a ha=>?_,e2];have:=hlt a ha;simp only[bne_iff_ne,ne_eq];intro e;rw[e]at this;exact Int.lt_irrefl _ this
 ·rw[ee,List.filter_filter];refine List.filter_congr fun a w=>?_
  cases q:a.1==1 with
  | false=>simp
  | true=>
   have:a.1=1:=by simpa using q
   simp only[Bool.true_and,bne_iff_ne,ne_eq];intro e;rw[e]at this;cases this
theorem Z6e{l:List T3}{p:Int×Int}(sh:∀t∈l,(t.1=0/\t.2.1=0)\/t.1=1)(inc:l.Pairwise fun a b=>a.2.2<b.2.2)(h0:(l.filter fun t=>t.1==0).map (fun x=>x.2.2)=[])(hp:minP ((l.filter fun t=>t.1==1).map (fun x=>x.2))=some p) :
  ((1,p):T3)∈l/\(∀u∈l,tlt u (1,p)=false)/\((l.erase (1,p)).filter fun t=>t.1==0).map (fun x=>x.2.2)=[]/\((l.erase (1,p)).filter fun t=>t.1==1).map (fun x=>x.2)=((l.filter fun t=>t.1==1).map (fun x=>x.2)).erase p:=by
 revert l p;k_extra "n";intro l p sh inc h0 hp
 have e0:l.filter (fun t=>t.1==0)=[]:=List.map_eq_nil_iff.mp h0;have one:∀t∈l,t.1=1:=fun t ht=>by
  rcases sh t ht with z|z
  ·have:=List.filter_eq_nil_iff.mp e0 t ht;simp[z.1]at this
  ·exact z
 have ef:l.filter (fun t=>t.1==1)=l:=List.filter_eq_self.mpr fun t ht=>by simp[one t ht]
 rw[ef]at hp ⊢;have hp1:=List.mem_of_find?_eq_some hp;have hp2:=List.find?_some hp;obtain⟨t,ht,et⟩:=List.mem_map.mp hp1;have eq:t=(1,p):=Prod.ext (one t ht) et;rw[eq]at ht;have sub:∀u∈l.erase (1,p),u∈l:=fun u hu=>List.mem_of_mem_erase hu;refine⟨ht,fun u hu=>?_,?_,?_⟩
 ·rw[ZR];refine .inr ⟨(one u hu).symm,?_⟩;have:=List.all_eq_true.mp hp2 u.2 (mem_map_of_mem hu);simpa using this
 ·rw[List.filter_eq_nil_iff.mpr fun u hu=>by simp[one u (sub u hu)]];rfl
 ·rw[List.filter_eq_self.mpr fun u hu=>by simp[one u (sub u hu)]];have ndp:(l.map (fun x=>x.2)).Nodup:=by
   unfold List.Nodup;rw[List.pairwise_map];exact inc.imp fun z e=>by rw[e]at z;exact Y9M z
  rw[ndp.erase_eq_filter,(Z4p inc).erase_eq_filter,filter_map]
  congr 1
  refine List.filter_congr fun a ha=>?_;rw[Bool.eq_iff_iff];simp only[bne_iff_ne,ne_eq,Function.comp];constructor
  ·exact fun z e=>z (Prod.ext (one a ha) e)
  ·exact fun z e=>z (congrArg _ e)
theorem Z6f{ct1:List Hn}{ps:List Str}{w:Str}(h:ps.Nodup):(Zg ct1 ps w).Nodup:=(Z1t ct1 ps w).nodup_iff.mpr (h.sublist List.filter_sublist)
theorem Xy.cons_inv{α β:Type}{R:α->β->Prop}{a:α}{as:List α}{bs:List β}(h:Xy R (a::as) bs):∃b bs',bs=b::bs'/\R a b/\Xy R as bs':=by
 cases h with
 | cons x y=>exact⟨_,_,rfl,x,y⟩
theorem O12.word_eq{o:O12}{s:LS}(e:o.events=s.events)(n:Int):o.wordOf n=s.wordOf n:=by unfold O12.wordOf LS.wordOf;rw[e]
theorem R12.begins{ct1:List Hn}{s s1:LS}{o o1:O12}{n:Int}(W:s.Wf ct1)(R:R12 s o)(hn:n∈s.line)(R1:R12 s1 o1)(e1:s1.posts=s.posts)(e2:s1.events=s.events) :
  ∃e,0<=n/\o1.events[n.toNat]?=some e/\R12 (LS.begins ct1 s1 n) (O12.begin ct1 o1 n e.word):=by
 revert ct1 s s1 o o1 n;k_extra "O";intro ct1 s s1 o o1 n W R hn R1 e1 e2
 obtain⟨h0,h1⟩:=W.nums n hn;have hlt:n.toNat<s.events.length:=by exact Y6a h0 h1
 have ee:o1.events=s.events:=R1.ev.trans e2;refine⟨s.events[n.toNat],h0,by rw[ee,List.getElem?_eq_getElem hlt],?_⟩;have ew:s1.wordOf n=s.events[n.toNat].word:=by unfold LS.wordOf;rw[e2,List.getElem?_eq_getElem hlt];rfl
 unfold LS.begins O12.begin;rw[ew,R1.I.keys];have J:=R1.I.begin (n:=n) (out:=Zg ct1 s1.posts s.events[n.toNat].word) (fun m hm=>Z1G hm) (Z6f (by rw[e1];exact W.pn));have key:∀{q q':Int} {S:LS} {st:List (Str×Int)} {frs:List (List (Str×Int))},I11 S st frs q->(∀e∈st,e.2<q')->(∀L∈frs,∀e∈L,e.2<q')->I11 S st frs q':=by
  intro q q' S st frs I a b;refine⟨I.keys,a,?_⟩;have h:=I.fr;generalize S.frames=fs at h;clear I
  induction h with
  | nil=>exact .nil
  | cons x _ ih=>exact .cons ⟨x.calls,x.nd,b _ (.head _)⟩ (ih fun L hL=>b L (.tail _ hL))
 refine⟨R1.time,R1.t0,R1.ev,by show o1.log++_=s1.log++_;rw[R1.log,R1.time],R1.born,?_,?_,R1.near,R1.far,R1.shape,R1.inc,R1.lt⟩
 ·refine key J R1.I.lt fun L hL e he=>?_;rcases List.mem_cons.mp hL with rfl|hL
  ·obtain⟨m,hm,rfl⟩:=List.mem_map.mp he;obtain⟨v,e3,e4⟩:=ZT (show m∈o1.st.map (fun x=>x.1) by rw[R1.I.keys];exact Z1G hm);rw[e3];exact R1.I.lt _ e4
  ·have h:=R1.I.fr;generalize s1.frames=fs at h;generalize o1.frames.map (fun x=>x.called)=cs at h hL;clear J
   induction h with
   | nil=>cases hL
   | cons x _ ih=>
    rcases List.mem_cons.mp hL with rfl|z
    ·exact x.lt e he
    ·exact ih z
 ·show _::_=_::_;rw[R1.fr]
theorem R12.frames:∀{s:LS}{o:O12}{f:Frm}{fr:List Frm}(R:R12 s o)(hf:s.frames=f::fr),∃L gr,o.frames=⟨f.num,L,f.deeds⟩::gr/\gr.map (fun f=>(f.num,f.deeds))=fr.map (fun f=>(f.num,f.deeds))/\F11 o.st (o.stood+1) f L/\Xy (F11 o.st (o.stood+1)) fr (gr.map (fun x=>x.called)):=by
 k_extra "J";intro s o f fr R hf;have h:=R.fr;have h2:=R.I.fr;rw[hf]at h h2
 cases e:o.frames with
 | nil=>rw[e]at h;cases h
 | cons g gr=>
  rw[e]at h h2;obtain⟨h3,h4⟩:=List.cons.inj h;obtain⟨b,bs,e1,a,c⟩:=Xy.cons_inv h2;obtain⟨e5,e6⟩:=List.cons.inj e1;rw[<-e5]at a;rw[<-e6]at c;obtain⟨n,L,ds⟩:=g;have e7:n=f.num:=congrArg Prod.fst h3;have e8:ds=f.deeds:=congrArg Prod.snd h3;exact⟨L,gr,by rw[e7,e8],h4,a,c⟩
theorem R12.snoc{s s1:LS}{o o1:O12}{t:Option T3}{e:Evt}(R:R12 s o)(ee:o1.events=o.events++[e])(es:s1.events=s.events++[e])(hl:o1.log=s1.log)(et:o1.time=o.time)(et2:s1.time=s.time)(hb:o1.born=s1.fresh)(hI:I11 s1 o1.st (o1.frames.map (fun x=>x.called)) (o1.stood+1))(hf:o1.frames.map (fun f=>(f.num,f.deeds))=s1.frames.map (fun f=>(f.num,f.deeds)))(hline:o1.line=o.line++t.toList)(hn:s1.near=s.near++((t.toList.filter fun t=>t.1==0).map (fun x=>x.2.2)))(hfa:s1.far=s.far++((t.toList.filter fun t=>t.1==1).map (fun x=>x.2)))(hsh:∀u∈t.toList,((u.1=0/\u.2.1=0)\/u.1=1)/\u.2.2=o.events.length):R12 s1 o1:=by
 refine⟨by rw[et,et2,R.time],by rw[et];exact R.t0,by rw[ee,es,R.ev],hl,hb,hI,hf,?_,?_,fun u hu=>?_,?_,fun u hu=>?_⟩
 ·rw[hn,hline,List.filter_append,map_append,R.near]
 ·rw[hfa,hline,List.filter_append,map_append,R.far]
 ·rw[hline]at hu;rcases List.mem_append.mp hu with z|z
  ·exact R.shape u z
  ·exact(hsh u z).1
 ·rw[hline,List.pairwise_append];refine⟨R.inc,?_,fun a ha b hb=>?_⟩
  ·cases t with
   | none=>exact .nil
   | some t=>exact List.pairwise_singleton _ _
  ·have:=R.lt a ha;rw[(hsh b hb).2];exact this.2
 ·rw[hline]at hu;rw[ee,length_append,length_singleton];rcases List.mem_append.mp hu with z|z
  ·have:=R.lt u z;exact Y7S this
  ·have:=(hsh u z).2;exact Yaj this
theorem R12.sent{s:LS}{o:O12}{w:Str}(R:R12 s o):R12 (s.send w) (o.send w):=
 R.snoc (e:=⟨w,none,ofString "wait",o.time⟩) (t:=some (1,o.time,(o.events.length:Int))) rfl (by show s.events++[_]=_;rw[R.time]) (by show o.log++[_]=s.log++[_];rw[R.log,R.ev]) rfl rfl R.born (R.I.keep rfl rfl) R.fr rfl (by simp[LS.send]) (by show s.far++[_]=_;rw[R.time,R.ev];rfl) (fun u hu=>by
  obtain rfl:=Option.mem_toList.mp hu |> Option.mem_some.mp
  exact⟨.inr rfl,rfl⟩)
theorem Z39{a b:List Int}(h:a.Perm b):Zz a=Zz b:=Z2d ((Z1q a).trans h) (Z10 a)
theorem Z7j{a a':List Row}{m:Int}{b b':List Int}(h1:a=a')(h2:b=b'):a++[Row.cancel m b]=a'++[Row.cancel m b']:=by rw[h1,h2]
theorem Mv.own:∀{ct1:List Hn}{s s':LS}{r:Row}{o:O12}(K:Xg ct1)(W:s.Wf ct1)(R:R12 s o)(hs:∀n,r≠.send n)(m:Mv ct1 s r s'),∃o',Ow12 ct1 o o'/\R12 s' o':=by
 k_extra "K";intro ct1 s s' r o K W R hs m
 induction m with
 | send w hw=>exact absurd rfl (hs _)
 | born n h=>
  have R1:R12 { s with fresh:=none } { o with born:=none }:=⟨R.time,R.t0,R.ev,R.log,rfl,R.I.keep rfl rfl,R.fr,R.near,R.far,R.shape,R.inc,R.lt⟩;obtain⟨e,h0,he,R2⟩:=R.begins (ct1:=ct1) (n:=n) W (by unfold LS.line;rw[h];exact .head _) R1 rfl rfl;exact⟨_,.born n e (R.born.trans h) h0 he,R2⟩
 | near n ns h0 hf hn=>
  obtain⟨l1,l2,l3,l4⟩:=Z5C R.shape R.inc (R.near.symm.trans hn);have R1:R12 { s with near:=ns } { o with line:=o.line.erase (0,0,n),time:=max o.time 0 }:=⟨by show max o.time 0=s.time;rw[<-R.time];have:=R.t0;exact Yak this,by show 0<=max o.time 0;exact Yal,R.ev,R.log,R.born,R.I.keep rfl rfl,R.fr,l3.symm,by show s.far=_;rw[l4];exact R.far,fun t ht=>R.shape t (List.mem_of_mem_erase ht),R.inc.sublist List.erase_sublist,fun t ht=>R.lt t (List.mem_of_mem_erase ht)⟩;obtain⟨e,h1,he,R2⟩:=R.begins (ct1:=ct1) (n:=n) W (by unfold LS.line;rw[hn];simp) R1 rfl rfl;have hof:o.frames=[]:=by have:=R.fr;rw[hf]at this;exact List.map_eq_nil_iff.mp this
  exact⟨_,.line (0,0,n) e (R.born.trans h0) hof l1 l2 h1 he,R2⟩
 | far p h0 hf hn hp=>
  obtain⟨l1,l2,l3,l4⟩:=Z6e R.shape R.inc (R.near.symm.trans hn) (by rw[<-R.far];exact hp);have R1:R12 { s with far:=s.far.erase p,time:=max s.time p.1 } { o with line:=o.line.erase (1,p),time:=max o.time p.1 }:=⟨by show max o.time _=max s.time _;rw[R.time],by show 0<=max o.time p.1;have:=R.t0;exact Yam this,R.ev,R.log,R.born,R.I.keep rfl rfl,R.fr,by show s.near=_;rw[l3];exact hn,by show s.far.erase p=_;rw[l4,R.far],fun t ht=>R.shape t (List.mem_of_mem_erase ht),R.inc.sublist List.erase_sublist,fun t ht=>R.lt t (List.mem_of_mem_erase ht)⟩;obtain⟨e,h1,he,R2⟩:=R.begins (ct1:=ct1) (n:=p.2) W (by unfold LS.line;have:=List.mem_of_find?_eq_some hp;simp;exact .inr (.inr ⟨_,this⟩)) R1 rfl rfl;have hof:o.frames=[]:=by have:=R.fr;rw[hf]at this;exact List.map_eq_nil_iff.mp this
  exact⟨_,.line (1,p) e (R.born.trans h0) hof l1 l2 h1 he,R2⟩
 | make f fr d ds h0 hf hd w k=>
  obtain⟨L,gr,e1,e4,F,G⟩:=R.frames hf;refine⟨_,.deed _ gr d ds (R.born.trans h0) e1 hd,?_⟩;have I1:∀s1:LS,s1.posts=s.posts->s1.frames={ f with deeds:=ds }::fr->I11 s1 o.st (((⟨f.num,L,ds⟩:F12)::gr).map (fun x=>x.called)) (o.stood+1):=fun s1 a b=>by
   have J:=R.I.keep (s1:=s1) a (by rw[b,hf];rfl);rw[e1]at J;exact J
  have fr1:((⟨f.num,L,ds⟩:F12)::gr).map (fun f=>(f.num,f.deeds))=(({ f with deeds:=ds }:Frm)::fr).map (fun f=>(f.num,f.deeds)):=by
   rw[map_cons,map_cons,e4]
  rcases k with rfl|rfl|⟨t,rfl⟩
  ·exact R.snoc (t:=none) (e:=⟨w,some f.num,ofString "now",o.time⟩) rfl (by show s.events++[_]=_;rw[R.time]) (by show o.log++[_]=s.log++[_];rw[R.log,R.ev]) rfl rfl (by show some _=some _;rw[R.ev]) (I1 _ rfl rfl) fr1 (append_nil _).symm (append_nil _).symm (append_nil _).symm (fun u hu=>by cases hu)
  ·exact R.snoc (t:=some (0,0,(o.events.length:Int))) (e:=⟨w,some f.num,ofString "soon",o.time⟩) rfl (by show s.events++[_]=_;rw[R.time]) (by show o.log++[_]=s.log++[_];rw[R.log,R.ev]) rfl rfl (by show o.born=s.fresh;exact R.born) (I1 _ rfl rfl) fr1 rfl (by show s.near++[_]=_;rw[R.ev];rfl) (append_nil _).symm (fun u hu=>by
    obtain rfl:=Option.mem_toList.mp hu |> Option.mem_some.mp
    exact⟨.inl ⟨rfl,rfl⟩,rfl⟩)
  ·exact R.snoc (t:=some (1,o.time+t,(o.events.length:Int))) (e:=⟨w,some f.num,ofString "wait",o.time+t⟩) rfl (by show s.events++[_]=_;rw[R.time]) (by show o.log++[_]=s.log++[_];rw[R.log,R.ev]) rfl rfl (by show o.born=s.fresh;exact R.born) (I1 _ rfl rfl) fr1 rfl (append_nil _).symm (by show s.far++[_]=_;rw[R.time,R.ev];rfl) (fun u hu=>by
    obtain rfl:=Option.mem_toList.mp hu |> Option.mem_some.mp
    exact⟨.inr rfl,rfl⟩)
 | cancel f fr ds w h0 hf hd=>
  obtain⟨L,gr,e1,e4,F,G⟩:=R.frames hf;refine⟨_,.deed _ gr _ ds (R.born.trans h0) e1 hd,?_⟩;have ew:∀n,O12.wordOf { o with frames:=⟨f.num,L,ds⟩::gr } n=s.wordOf n:=fun n=>O12.word_eq R.ev n;have fc:∀(p:T3->Bool) (q:T3->Bool),(o.line.filter p).filter q=(o.line.filter q).filter p:=fun p q=>by
   rw[List.filter_filter,List.filter_filter];exact List.filter_congr fun a y=>Bool.and_comm _ _
  refine⟨R.time,R.t0,R.ev,?_,R.born,?_,?_,?_,?_,fun t ht=>R.shape t (List.mem_filter.mp ht).1,R.inc.sublist List.filter_sublist,fun t ht=>R.lt t (List.mem_filter.mp ht).1⟩
  ·refine Z7j R.log (Z39 ?_);simp only[ew];have hp:(o.line.map (fun x=>x.2.2)).Perm (s.near++s.far.map (fun x=>x.2)):=by
    rw[R.near,R.far,map_map];have h1:=List.filter_append_perm (fun t:T3=>t.1==0) o.line;have h2:o.line.filter (fun t=>!(t.1==0))=o.line.filter fun t=>t.1==1:=List.filter_congr fun t ht=>by
     rcases R.shape t ht with z|z
     ·simp[z.1]
     ·simp[z]
    rw[h2]at h1;have h3:=(h1.map (fun x=>x.2.2)).symm;rw[map_append]at h3;exact h3
   have:=hp.filter fun x=>s.wordOf x==w;rw[filter_map]at this;exact this
  ·have J:=R.I.keep (s1:=LS.cancel { s with frames:={ f with deeds:=ds }::fr } f.num w) rfl (by rw[hf];rfl);rw[e1]at J;exact J
  ·show((⟨f.num,L,ds⟩:F12)::gr).map (fun f=>(f.num,f.deeds))=(({ f with deeds:=ds }:Frm)::fr).map (fun f=>(f.num,f.deeds));rw[map_cons,map_cons,e4]
  ·show s.near.filter _=_;rw[R.near];show _=List.map _ (List.filter _ (List.filter _ o.line));rw[fc,filter_map];simp only[ew];rfl
  ·show s.far.filter _=_;rw[R.far];show _=List.map _ (List.filter _ (List.filter _ o.line));rw[fc,filter_map];simp only[ew];rfl
 | join f fr ds n h0 hf hd=>
  obtain⟨L,gr,e1,e4,F,G⟩:=R.frames hf;refine⟨_,.deed _ gr _ ds (R.born.trans h0) e1 hd,?_⟩;have fr1:((⟨f.num,L,ds⟩:F12)::gr).map (fun f=>(f.num,f.deeds))=(({ f with deeds:=ds }:Frm)::fr).map (fun f=>(f.num,f.deeds)):=by
   rw[map_cons,map_cons,e4]
  have hI:=R.I;rw[e1]at hI
  by_cases c:n∈s.posts
  ·have ec:O12.come { o with frames:=⟨f.num,L,ds⟩::gr } n={ o with frames:=⟨f.num,L,ds⟩::gr }:=by
    unfold O12.come;rw[if_pos (by show n∈o.st.map (fun x=>x.1);rw[R.I.keys];exact c)]
   show R12 _ { O12.come { o with frames:=⟨f.num,L,ds⟩::gr } n with log:=o.log++[.join f.num n] };rw[ec];refine⟨R.time,R.t0,R.ev,by show o.log++[_]=s.log++[_];rw[R.log],R.born,?_,fr1,R.near,R.far,R.shape,R.inc,R.lt⟩;exact hI.keep (if_pos (List.contains_iff_mem.mpr c)) (by rw[hf];rfl)
  ·have ec:O12.come { o with frames:=⟨f.num,L,ds⟩::gr } n={ o with frames:=⟨f.num,L,ds⟩::gr,stood:=o.stood+1,st:=o.st++[(n,o.stood+1)] }:=by
    unfold O12.come;rw[if_neg (by show ¬n∈o.st.map (fun x=>x.1);rw[R.I.keys];exact c)]
   show R12 _ { O12.come { o with frames:=⟨f.num,L,ds⟩::gr } n with log:=o.log++[.join f.num n] };rw[ec];refine⟨R.time,R.t0,R.ev,by show o.log++[_]=s.log++[_];rw[R.log],R.born,?_,fr1,R.near,R.far,R.shape,R.inc,R.lt⟩;exact(hI.join c).keep (if_neg fun z=>c (List.contains_iff_mem.mp z)) (by show _=s.frames.map _;rw[hf];rfl)
 | leave f fr ds n h0 hf hd=>
  obtain⟨L,gr,e1,e4,F,G⟩:=R.frames hf;refine⟨_,.deed _ gr _ ds (R.born.trans h0) e1 hd,?_⟩;have hI:=R.I;rw[e1]at hI;refine⟨R.time,R.t0,R.ev,by show o.log++[_]=s.log++[_];rw[R.log],R.born,?_,?_,R.near,R.far,R.shape,R.inc,R.lt⟩
  ·exact(hI.away (n:=n) W.pn).keep rfl (by simp[LS.deed,LS.away,Frm.away,hf])
  ·show((⟨f.num,L,ds⟩:F12)::gr).map (fun f=>(f.num,f.deeds))=((({ f with deeds:=ds }:Frm)::fr).map (Frm.away n)).map (fun f=>(f.num,f.deeds));rw[map_map,map_cons,map_cons,e4];rfl
 | hush f fr ds h0 hf hd=>
  obtain⟨L,gr,e1,e4,F,G⟩:=R.frames hf;refine⟨_,.deed _ gr _ ds (R.born.trans h0) e1 hd,?_⟩;have hI:=R.I;rw[e1]at hI;have J:=hI.top (f':={ f with calls:=[] }) (L':=[]) hf (List.nil_sublist _) rfl;refine⟨R.time,R.t0,R.ev,by show o.log++[_]=s.log++[_];rw[R.log],R.born,?_,?_,R.near,R.far,R.shape,R.inc,R.lt⟩
  ·exact J.keep rfl rfl
  ·show((⟨f.num,[],ds⟩:F12)::gr).map (fun f=>(f.num,f.deeds))=(({ f with deeds:=ds,calls:=[] }:Frm)::fr).map (fun f=>(f.num,f.deeds));rw[map_cons,map_cons,e4]
 | call f fr h cs h0 hf hd hc hh=>
  obtain⟨L,gr,e1,e4,F,G⟩:=R.frames hf;have hv:vnames o.st L=h.name::cs:=by rw[<-F.calls];exact hc
  obtain⟨q,L2,l1,l2⟩:=Z3T hv;have hq:getS o.st h.name=some q:=by
   have:=List.head?_dropWhile_not (fun e=>!ok11 o.st e) L;unfold left11 at l1;rw[l1]at this;have:ok11 o.st (h.name,q)=true:=by simpa using this
   unfold ok11 at this;exact eq_of_beq this
  refine⟨_,.call _ gr h q L2 (R.born.trans h0) e1 hd l1 hh hq,?_⟩;have hI:=R.I;rw[e1]at hI;have hsu:L2.Sublist L:=(List.sublist_cons_self _ _).trans (l1▸Z2C o.st L);have J:=hI.top (f':={ f with calls:=cs }) (L':=L2) hf hsu l2.symm;refine⟨?_,R.t0,?_,?_,?_,?_,?_,?_,?_,R.shape,R.inc,R.lt⟩
  ·unfold LS.callIn LS.got;split<;>exact R.time
  ·unfold LS.callIn LS.got;split<;>exact R.ev
  ·show o.log++[_]=s.log++[_];rw[R.log]
  ·unfold LS.callIn LS.got;split<;>exact R.born
  ·unfold LS.callIn LS.got Z1J
   by_cases ho:h.once=true
   ·rw[if_pos ho,if_pos ho];exact(J.away (n:=h.name) W.pn).keep rfl (by simp[LS.away,LS.setDeeds,Frm.away])
   ·rw[if_neg ho,if_neg ho];exact J.keep rfl (by simp[LS.setDeeds])
  ·unfold LS.callIn LS.got;show((⟨f.num,L2,h.ds⟩:F12)::gr).map (fun f=>(f.num,f.deeds))=_;rw[map_cons,e4]
   split
   ·simp[LS.away,LS.setDeeds,Frm.away]
   ·simp[LS.setDeeds]
  ·unfold LS.callIn LS.got;split<;>exact R.near
  ·unfold LS.callIn LS.got;split<;>exact R.far
 | fin f fr h0 hf hd hc=>
  obtain⟨L,gr,e1,e4,F,G⟩:=R.frames hf;refine⟨_,.fin _ gr (R.born.trans h0) e1 hd (Z2B (by rw[<-F.calls];exact hc)),?_⟩;exact⟨R.time,R.t0,R.ev,by show o.log++[_]=s.log++[_];rw[R.log],R.born,⟨R.I.keys,R.I.lt,G⟩,e4,R.near,R.far,R.shape,R.inc,R.lt⟩
theorem R12.idle{ct1:List Hn}{s:LS}{o:O12}(R:R12 s o)(h:s.step ct1=none):Ow12 ct1 o o:=by
 obtain⟨h0,hf,hn,hm⟩:=LS.step_idle h;have hfa:=Z5x hm;have hof:o.frames=[]:=by have:=R.fr;rw[hf]at this;exact List.map_eq_nil_iff.mp this
 refine .idle (R.born.trans h0) hof ?_;have e1:=R.near;have e2:=R.far;rw[hn]at e1;rw[hfa]at e2;have e1:=List.filter_eq_nil_iff.mp (List.map_eq_nil_iff.mp e1.symm);have e2:=List.filter_eq_nil_iff.mp (List.map_eq_nil_iff.mp e2.symm);refine List.eq_nil_iff_forall_not_mem.mpr fun t ht=>?_;rcases R.shape t ht with z|z
 ·exact e1 t ht (by simp[z.1])
 ·exact e2 t ht (by simp[z])
noncomputable def cl60(o:O12):Prop:=∀f∈o.frames,f.called.length<=60
theorem Z3U(o:O12)(n:Str):(o.come n).frames=o.frames:=by unfold O12.come;split<;>rfl
theorem Ow12.cl:∀{ct1:List Hn}{o o':O12}(K:Xg ct1)(nd:(o.st.map (fun x=>x.1)).Nodup)(sub:∀n∈o.st.map (fun x=>x.1),n∈ct1.map (fun x=>x.name))(h:Ow12 ct1 o o')(c:cl60 o),cl60 o':=by
 k_extra "A";intro ct1 o o' K nd sub h c;have beg:∀{fr:List F12} {n:Int} {w:Str},(∀f∈fr,f.called.length<=60)->∀f∈(⟨n,opens11 o.st (Zg ct1 (o.st.map (fun x=>x.1)) w),[]⟩:F12)::fr,f.called.length<=60:=fun{fr n w} hh f hf=>by
  rcases List.mem_cons.mp hf with rfl|hf
  ·show(opens11 _ _).length<=60;unfold opens11;rw[length_map];exact Z2Z K nd sub
  ·exact hh f hf
 cases h with
 | born n e h h0 he=>exact beg c
 | line t e h hf hm hmin h0 he=>exact beg c
 | deed f fr d ds h hf hd=>
  have c1:=c f (by rw[hf];exact .head _);have top:∀g∈(({ f with deeds:=ds }:F12)::fr),g.called.length<=60:=fun g hg=>by
   rcases List.mem_cons.mp hg with rfl|hg
   ·exact c1
   ·exact c g (by rw[hf];exact .tail _ hg)
  cases d with
  | join n=>intro g hg;exact top g (by have hg:g∈(O12.come { o with frames:={ f with deeds:=ds }::fr } n).frames:=hg;rw[Z3U]at hg;exact hg)
  | hush=>
   intro g hg;have hg:g∈({ f with deeds:=ds,called:=[] }:F12)::fr:=hg;rcases List.mem_cons.mp hg with rfl|hg
   ·exact Nat.zero_le _
   ·exact c g (by rw[hf];exact .tail _ hg)
  | _=>exact top
 | call f fr h q L2 h0 hf hd hl hh hq=>
  intro g hg;rcases List.mem_cons.mp hg with rfl|hg
  ·have:=(Z2C o.st f.called).length_le;rw[hl,length_cons]at this;have:=c f (by rw[hf];exact .head _);show L2.length<=60
   (first|lia|omega)
  ·exact c g (by rw[hf];exact .tail _ hg)
 | fin f fr h0 hf hd hl=>exact fun g hg=>c g (by rw[hf];exact .tail _ hg)
 | idle h0 hf hl=>exact c
structure Sm12(ct1:List Hn)(o:O12):Prop where
 ev:o.events.length<=9000
 lg:o.log.length<=9000
 fr:o.frames.length<=9000
 li:o.line.length<=9000
 nd:(o.st.map (fun x=>x.1)).Nodup
 sub:∀n∈o.st.map (fun x=>x.1),n∈ct1.map (fun x=>x.name)
 cl:cl60 o
 dl:∀f∈o.frames,f.deeds.length<=30/\∀d∈f.deeds,DOk ct1 d
 word:∀e∈o.events,PyData.strOk e.word=true
 inc:o.line.Pairwise fun a b=>a.2.2<b.2.2
 lt:∀t∈o.line,0<=t.2.2/\t.2.2<o.events.length
theorem R12.sm{ct1:List Hn}{s:LS}{o:O12}(W:s.Wf ct1)(R:R12 s o)(hl:s.log.length<=4000)(c:cl60 o):Sm12 ct1 o:=by
 have h1:=W.ev;have h2:=W.ne;have h3:=W.fa;have h4:=W.fr;have h5:=congrArg List.length R.fr;rw[length_map,length_map]at h5;refine⟨by rw[R.ev];exact(Nq 0x11946420004090000000fa0c8009) hl h1,by rw[R.log];exact(Np 0x119464000000000fa0c8009) hl,by exact(Nr 0x1194644008849004090000000fa0c8009) hl h4 h5,?_,by rw[R.I.keys];exact W.pn,by rw[R.I.keys];exact W.po,c,fun f hf=>?_,by rw[R.ev];exact W.word,R.inc,R.lt⟩
 ·have h6:=congrArg List.length R.near;have h7:=congrArg List.length R.far;rw[length_map]at h6 h7;have h8:=(List.filter_append_perm (fun t:T3=>t.1==0) o.line).length_eq;have h9:o.line.filter (fun t=>!(t.1==0))=o.line.filter fun t=>t.1==1:=List.filter_congr fun t ht=>by
   rcases R.shape t ht with z|z
   ·simp[z.1]
   ·simp[z]
  rw[h9,length_append]at h8;exact Yap hl h2 h3 h6 h7 h8
 ·have hm:(f.num,f.deeds)∈s.frames.map (fun f=>(f.num,f.deeds)):=by rw[<-R.fr];exact mem_map_of_mem (f:=fun f:F12=>(f.num,f.deeds)) hf
  obtain⟨g,hg,e⟩:=List.mem_map.mp hm;have e2:g.deeds=f.deeds:=congrArg Prod.snd e;have F:=W.fm g hg;rw[<-e2];exact⟨F.dl,F.ds⟩
noncomputable def OwN12(ct1:List Hn):Nat->O12->O12->Prop
 | 0,o,o'=>o=o'
 | k+1,o,o'=>∃o1,Sm12 ct1 o/\Ow12 ct1 o o1/\OwN12 ct1 k o1 o'
theorem Z2f{ct1:List Hn}(K:Xg ct1):∀(k:Nat) {s:LS} {o:O12},s.Wf ct1->s.log.length+k<=4000->R12 s o->cl60 o->∃o',OwN12 ct1 k o o'/\R12 (LS.runs ct1 k s).2 o'/\cl60 o'
 | 0,s,o,W,hl,R,c=>⟨o,rfl,R,c⟩
 | k+1,s,o,W,hl,R,c=>by
  have sm:=R.sm W (by exact(Nq 0xfa0c8000000001f4190e03605809) hl) c
  cases h:s.step ct1 with
  | none=>
   have I:=R.idle h;obtain⟨o',h1,h2,h3⟩:=Z2f K k (s:=s) W (by exact(Nq 0x3e832105800000001f4190e03605809) hl) R c;rw[LS.runs_none h]at h2 ⊢;exact⟨o',⟨o,sm,I,h1⟩,h2,h3⟩
  | some s1=>
   obtain⟨W1,l1⟩:=W.step K h;obtain⟨r,m,hr⟩:=LS.step_mv K W h;obtain⟨o1,O1,R1⟩:=m.own K W R hr;have c1:=O1.cl K sm.nd sm.sub c;obtain⟨o',h1,h2,h3⟩:=Z2f K k W1 (by exact(Nr 0x1f41908ac00e01610920000001f4190e03605809) hl l1) R1 c1;rw[LS.runs_some h];exact⟨o',⟨o1,sm,O1,h1⟩,h2,h3⟩
noncomputable def stV(st:List (Str×Int)):List (Str×V):=st.map fun p=>(p.1,V.int p.2)
noncomputable def pr11(e:Str×Int):V:=.tup [.str e.1,.int e.2]
theorem Z1j(st:List (Str×Int))(n:Str):sget (stV st) n=(getS st n).map V.int:=by
 unfold sget stV getS;rw[List.find?_map,Option.map_map,Option.map_map];rfl
theorem Z4q(st:List (Str×Int))(n:Str):sdel (stV st) n=stV (Zu st n):=by
 unfold sdel stV Zu;rw[filter_map];rfl
theorem Z4r{n:Str}{p:Int}:∀{st:List (Str×Int)},n∉st.map (fun x=>x.1)->sput (stV st) n (.int p)=stV (st++[(n,p)])
 | [],_=>rfl
 | x::st,h=>by
  have h:n∉x.1::st.map (fun x=>x.1):=h;rw[List.mem_cons,not_or]at h;show sput ((x.1,V.int x.2)::stV st) n (.int p)=_;unfold sput;rw[if_neg h.1,Z4r h.2];rfl
theorem Z6g(st:List (Str×Int)):(stV st).map (fun p=>V.str p.1)=(st.map (fun x=>x.1)).map V.str:=by unfold stV;rw[map_map,map_map];rfl
theorem Z1V(st:List (Str×Int)):(stV st).length=st.length:=length_map ..
theorem Z7k{α β:Type}{f:α->β}{l:List α}(h:(l.map f).Nodup):∀{a b:α},a∈l->b∈l->f a=f b->a=b:=by
 induction l with
 | nil=>intro a b ha;cases ha
 | cons x l ih=>
  rw[map_cons,List.nodup_cons]at h;intro a b ha hb e;rcases List.mem_cons.mp ha with z1|z1
  ·rcases List.mem_cons.mp hb with z2|z2
   ·rw[z1,z2]
   ·exact(h.1 (List.mem_map.mpr ⟨b,z2,by rw[<-e,z1]⟩)).elim
  ·rcases List.mem_cons.mp hb with z2|z2
   ·exact(h.1 (List.mem_map.mpr ⟨a,z1,by rw[e,z2]⟩)).elim
   ·exact ih h.2 z1 z2 e
theorem Z5D(k:T3):∀w:List T3,k∈w->(w.map t3d).findIdx? (fun y=>PyData.eqv y (t3d k))=some (w.idxOf k)
 | q::l,h=>by
  rw[map_cons,List.findIdx?_cons,List.idxOf_cons,Z3C]
  cases z:q==k with
  | true=>rfl
  | false=>
   have:k∈l:=by
    rcases List.mem_cons.mp h with w|w
    ·rw[w]at z;simp at z
    ·exact w
   simp[Z5D k l this]
theorem X1.removeT3{l:Addr}{w:List T3}{k:T3}{Q:pV}(hl:σ l=some (.list (w.map t3v)))(hu:A.units<8000)(hz:w.length<=9000)(hk:k∈w)(h:Q .none (σ.upd l (.list ((w.erase k).map t3v)))):X1 C A (.builtin "list.remove") [.ref l,t3v k] σ Q X:=by
 refine X1.remove (d:=t3d k) (ds:=w.map t3d) hl (Z3d k) (DRs.map fun z z=>Z3d _) (Z2v k) (Z5 fun z z=>Z2v _) (by have:=Z3D k;simp only[cLine];exact Y9O hu this) (by rw[length_map,sizeLine_eq];exact(Np 0x80000064000000002328c8009) hz) (Z5D k w hk) ?_;have e:List.eraseIdx (w.map t3v) (w.idxOf k)=(w.erase k).map t3v:=by
  rw[List.erase_eq_eraseIdx_of_idxOf rfl,Zy]
 rw[e];exact h
structure B12 where
 f:Addr
 c:Addr
 e:Addr
structure A12 where
 o:Addr
 ev:Addr
 lg:Addr
 fr:Addr
 li:Addr
 st:Addr
 al:Addr
 fs:List B12
theorem Z80:Nonempty B12:=⟨⟨0,0,0⟩⟩
theorem Z81:Nonempty A12:=⟨⟨0,0,0,0,0,0,0,[]⟩⟩
noncomputable def fpG:List B12->List F12->List (Addr×O)
 | f::fs,r::rs=>(f.f,.sd [("number",.int r.num),("called",.ref f.c),("deeds",.ref f.e)])::(f.c,.list (r.called.map pr11))::(f.e,.list (r.deeds.map Deed.v))::fpG fs rs
 | _,_=>[]
@[reducible] noncomputable def dO12(x:O12)(q:A12):O:=.sd [("time",.int x.time),("events",.ref q.ev),("log",.ref q.lg),("frames",.ref q.fr),("line",.ref q.li),("born",optV x.born),("stood",.int x.stood),("stands",.ref q.st),("all",.ref q.al)]
noncomputable def allV(hs:List (Hn×V)):List (Str×V):=hs.map fun p=>(p.1.name,p.1.tv p.2)
noncomputable def fpO(q:A12)(x:O12)(hs:List (Hn×V)):lO:=
 (q.o,dO12 x q)::(q.ev,.list (x.events.map Evt.v))::(q.lg,.list (x.log.map Row.v))::(q.fr,.list ((q.fs.map fun f=>V.ref f.f).reverse))::(q.li,.list (x.line.map t3v))::(q.st,.sd (stV x.st))::(q.al,.sd (allV hs))::fpG q.fs x.frames
structure W12(σ:X0)(x:O12)(q:A12)(hs:List (Hn×V))(rest:lO):Prop where
 led:Led σ (fpO q x hs++rest)
 len:q.fs.length=x.frames.length
section
variable {σ:X0} {x:O12} {q:A12} {hs:List (Hn×V)} {rest:lO}
theorem W12.fo(S:W12 σ x q hs rest):σ q.o=some (dO12 x q):=S.led.get 0 rfl
theorem W12.fe(S:W12 σ x q hs rest):σ q.ev=some (.list (x.events.map Evt.v)):=S.led.get 1 rfl
theorem W12.fg(S:W12 σ x q hs rest):σ q.lg=some (.list (x.log.map Row.v)):=S.led.get 2 rfl
theorem W12.ff(S:W12 σ x q hs rest):σ q.fr=some (.list ((q.fs.map fun f=>V.ref f.f).reverse)):=S.led.get 3 rfl
theorem W12.fl(S:W12 σ x q hs rest):σ q.li=some (.list (x.line.map t3v)):=S.led.get 4 rfl
theorem W12.fs(S:W12 σ x q hs rest):σ q.st=some (.sd (stV x.st)):=S.led.get 5 rfl
theorem W12.fa(S:W12 σ x q hs rest):σ q.al=some (.sd (allV hs)):=S.led.get 6 rfl
theorem W12.grow{σ':X0}(S:W12 σ x q hs rest)(g:X6 σ σ'):W12 σ' x q hs rest:=⟨S.led.grow g,S.len⟩
theorem W12.se(S:W12 σ x q hs rest)(e:Evt):W12 (σ.upd q.ev (.list (x.events.map Evt.v++[Evt.v e]))) { x with events:=x.events++[e] } q hs rest:=by
 have h:W12 (σ.upd q.ev (.list ((x.events++[e]).map Evt.v))) { x with events:=x.events++[e] } q hs rest:=⟨S.led.set 1 _ rfl,S.len⟩;rw[map_append]at h;exact h
theorem W12.sg(S:W12 σ x q hs rest)(r:Row):W12 (σ.upd q.lg (.list (x.log.map Row.v++[Row.v r]))) { x with log:=x.log++[r] } q hs rest:=by
 have h:W12 (σ.upd q.lg (.list ((x.log++[r]).map Row.v))) { x with log:=x.log++[r] } q hs rest:=⟨S.led.set 2 _ rfl,S.len⟩;rw[map_append]at h;exact h
theorem W12.sl(S:W12 σ x q hs rest)(t:T3):W12 (σ.upd q.li (.list (x.line.map t3v++[t3v t]))) { x with line:=x.line++[t] } q hs rest:=by
 have h:W12 (σ.upd q.li (.list ((x.line++[t]).map t3v))) { x with line:=x.line++[t] } q hs rest:=⟨S.led.set 4 _ rfl,S.len⟩;rw[map_append]at h;exact h
theorem W12.sl'(S:W12 σ x q hs rest)(l:List T3):W12 (σ.upd q.li (.list (l.map t3v))) { x with line:=l } q hs rest:=⟨S.led.set 4 _ rfl,S.len⟩
theorem W12.ss(S:W12 σ x q hs rest)(l:List (Str×Int)):W12 (σ.upd q.st (.sd (stV l))) { x with st:=l } q hs rest:=⟨S.led.set 5 _ rfl,S.len⟩
theorem W12.so(S:W12 σ x q hs rest)(t:Int)(b:Option Int)(k:Int):W12 (σ.upd q.o (dO12 { x with time:=t,born:=b,stood:=k } q)) { x with time:=t,born:=b,stood:=k } q hs rest:=⟨S.led.set 0 _ rfl,S.len⟩
end
theorem Xb.b12{x:O12}{q:A12}{hs:List (Hn×V)}{rest:lO}{b:Option Int}{Q:X0->Prop}(S:W12 σ x q hs rest)(h:∀σ',W12 σ' { x with born:=b } q hs rest->Q σ'):Xb C A (.ref q.o) (.str (ofString "born")) (optV b) σ Q X:=by
 refine Xb.sd S.fo (by simp[sizeLine_eq]) ?_;have e:sput [(ofString "time",V.int x.time),(ofString "events",V.ref q.ev),(ofString "log",V.ref q.lg),(ofString "frames",V.ref q.fr),(ofString "line",V.ref q.li),(ofString "born",optV x.born),(ofString "stood",V.int x.stood),(ofString "stands",V.ref q.st),(ofString "all",V.ref q.al)] (ofString "born") (optV b)=[(ofString "time",V.int x.time),(ofString "events",V.ref q.ev),(ofString "log",V.ref q.lg),(ofString "frames",V.ref q.fr),(ofString "line",V.ref q.li),(ofString "born",optV b),(ofString "stood",V.int x.stood),(ofString "stands",V.ref q.st),(ofString "all",V.ref q.al)]:=by k_extra "k"
 rw[e];exact h _ (S.so x.time b x.stood)
theorem Xb.t12{x:O12}{q:A12}{hs:List (Hn×V)}{rest:lO}{t:Int}{Q:X0->Prop}(S:W12 σ x q hs rest)(h:∀σ',W12 σ' { x with time:=t } q hs rest->Q σ'):Xb C A (.ref q.o) (.str (ofString "time")) (.int t) σ Q X:=by
 refine Xb.sd S.fo (by simp[sizeLine_eq]) ?_;have e:sput [(ofString "time",V.int x.time),(ofString "events",V.ref q.ev),(ofString "log",V.ref q.lg),(ofString "frames",V.ref q.fr),(ofString "line",V.ref q.li),(ofString "born",optV x.born),(ofString "stood",V.int x.stood),(ofString "stands",V.ref q.st),(ofString "all",V.ref q.al)] (ofString "time") (.int t)=[(ofString "time",V.int t),(ofString "events",V.ref q.ev),(ofString "log",V.ref q.lg),(ofString "frames",V.ref q.fr),(ofString "line",V.ref q.li),(ofString "born",optV x.born),(ofString "stood",V.int x.stood),(ofString "stands",V.ref q.st),(ofString "all",V.ref q.al)]:=by k_extra "k"
 rw[e];exact h _ (S.so t x.born x.stood)
theorem Xb.k12{x:O12}{q:A12}{hs:List (Hn×V)}{rest:lO}{k:Int}{Q:X0->Prop}(S:W12 σ x q hs rest)(h:∀σ',W12 σ' { x with stood:=k } q hs rest->Q σ'):Xb C A (.ref q.o) (.str (ofString "stood")) (.int k) σ Q X:=by
 refine Xb.sd S.fo (by simp[sizeLine_eq]) ?_;have e:sput [(ofString "time",V.int x.time),(ofString "events",V.ref q.ev),(ofString "log",V.ref q.lg),(ofString "frames",V.ref q.fr),(ofString "line",V.ref q.li),(ofString "born",optV x.born),(ofString "stood",V.int x.stood),(ofString "stands",V.ref q.st),(ofString "all",V.ref q.al)] (ofString "stood") (.int k)=[(ofString "time",V.int x.time),(ofString "events",V.ref q.ev),(ofString "log",V.ref q.lg),(ofString "frames",V.ref q.fr),(ofString "line",V.ref q.li),(ofString "born",optV x.born),(ofString "stood",V.int k),(ofString "stands",V.ref q.st),(ofString "all",V.ref q.al)]:=by k_extra "k"
 rw[e];exact h _ (S.so x.time x.born k)
theorem Z24(st:List (Str×Int))(n:Str):(sget (stV st) n).isSome=decide (n∈st.map (fun x=>x.1)):=by
 rw[Z1j]
 by_cases c:n∈st.map (fun x=>x.1)
 ·obtain⟨m,e,_⟩:=ZT c;rw[e,decide_eq_true c];rfl
 ·rw[Z1I c,decide_eq_false c];rfl
theorem Z5E{st:List (Str×Int)}{n:Str}(h:n∉st.map (fun x=>x.1)):Zu st n=st:=
 List.filter_eq_self.mpr fun p hp=>by simpa using fun e=>h (List.mem_map.mpr ⟨p,hp,e⟩)
theorem Z5F{x:O12}{q:A12}{hs:List (Hn×V)}{rest:lO}{n:Str}{Q:pV}(hK:C.K=KL C.w.params)(hS:Zk C)(hr:A.depth<recursionLimit)(hh:A.handled=none)(S:W12 σ x q hs rest)(hz:x.st.length<=1000)(h:∀σ',W12 σ' (x.come n) q hs rest->Q .none σ'):X1 C A (.ref 371) [.ref q.o,.str n] σ Q X:=by
 revert C A σ X x q hs rest n Q;k_extra "t";intro C A σ X x q hs rest n Q hK hS hr hh S hz h
 have fo:=S.fo;have fs:=S.fs;k_extra "c";intro L A' a1 a2 a3;have hh':A'.handled=none:=a1.trans hh;unfold O12.come at h;k_extra "M";refine X4.notInSd fs hS ?_;rw[Z24]
 by_cases c:n∈x.st.map (fun x=>x.1)
 ·rw[if_pos c]at h;rw[decide_eq_true c];k_extra "M";exact h _ S
 ·rw[if_neg c]at h;rw[decide_eq_false c];k_extra "M";refine Xb.k12 S fun σ1 S1=>?_;have fo1:=S1.fo;have fs1:=S1.fs;k_extra "M";refine Xb.sd fs1 (by rw[Z1V,sizeLine_eq];show x.st.length<=_;exact Y6I hz) ?_;rw[Z4r c];k_extra "M";exact h _ (S1.ss _)
noncomputable def O12.made(x:O12)(w:Str)(mk:Option Int)(road:Str)(due:Int):O12:=
 if road=ofString "now" then{ x with events:=x.events++[⟨w,mk,road,due⟩],born:=some x.events.length } else if road=ofString "soon" then{ x with events:=x.events++[⟨w,mk,road,due⟩],line:=x.line++[(0,0,(x.events.length:Int))] } else{ x with events:=x.events++[⟨w,mk,road,due⟩],line:=x.line++[(1,due,(x.events.length:Int))] }
theorem Z2D{x:O12}{q:A12}{hs:List (Hn×V)}{rest:lO}{w road:Str}{mk:Option Int}{due:Int}{Q:pV}(hK:C.K=KL C.w.params)(hr:A.depth<recursionLimit)(hh:A.handled=none)(S:W12 σ x q hs rest)(hz:x.events.length<=9000)(hz2:x.line.length<=9000)(hroad:road=ofString "now" \/road=ofString "soon" \/road=ofString "wait")(h:∀σ',W12 σ' (x.made w mk road due) q hs rest->Q (.int x.events.length) σ'):X1 C A (.ref 378) [.ref q.o,.str w,optV mk,.str road,.int due] σ Q X:=by
 revert C A σ X x q hs rest w road mk due Q;k_extra "z";intro C A σ X x q hs rest w road mk due Q hK hr hh S hz hz2 hroad h
 have fo:=S.fo;have fe:=S.fe;k_extra "Z";intro L A' a1 a2 a3;have hh':A'.handled=none:=a1.trans hh;unfold O12.made at h;k_extra "M";have S1:=S.se ⟨w,mk,road,due⟩;simp only[Evt.v]at S1;generalize X0.upd σ q.ev _=σ1 at S1 ⊢;have fo1:=S1.fo;have fe1:=S1.fe;have le:((x.events++[(⟨w,mk,road,due⟩:Evt)]).map Evt.v).length=x.events.length+1:=by simp
 have lz:((((x.events++[(⟨w,mk,road,due⟩:Evt)]).map Evt.v).length:Nat):Int)-1=x.events.length:=by exact(Nq 0x781c039728701b0049) le
 k_extra "M";rw[lz];have n1:ofString "soon" ≠ofString "now":=by decide +kernel
 have n2:ofString "wait" ≠ofString "now":=by decide +kernel
 have n3:ofString "wait" ≠ofString "soon":=by decide +kernel
 rcases hroad with rfl|rfl|rfl
 ·rw[if_pos rfl]at h;k_extra "M";refine Xb.b12 (b:=some (x.events.length:Int)) S1 fun σ2 S2=>?_;k_extra "M";exact h _ S2
 ·rw[if_neg n1,if_pos rfl]at h;have fl1:=S1.fl;k_extra "M";refine X1.intB ?_;rw[if_neg (by decide +kernel)];k_extra "M";refine X1.intB ?_;rw[if_neg (by decide +kernel)];k_extra "M";rw[Int.mul_zero];have S2:=S1.sl (0,0,(x.events.length:Int));simp only[t3v]at S2;exact h _ S2
 ·rw[if_neg n2,if_neg n3]at h;have fl1:=S1.fl;k_extra "M";refine X1.intB ?_;rw[if_pos (by decide +kernel)];k_extra "M";refine X1.intB ?_;rw[if_pos (by decide +kernel)];k_extra "M";rw[Int.mul_one];have S2:=S1.sl (1,due,(x.events.length:Int));simp only[t3v]at S2;exact h _ S2
theorem Z3K{hs:List (Hn×V)}{p:Hn×V}(nd:(hs.map (fun x=>x.1.name)).Nodup)(hp:p∈hs):sget (allV hs) p.1.name=some (p.1.tv p.2):=by
 unfold sget allV;rw[List.find?_map];have e:hs.find? ((fun q:Str×V=>decide (q.1=p.1.name))∘fun p:Hn×V=>(p.1.name,p.1.tv p.2))=some p:=by
  cases e:hs.find? ((fun q:Str×V=>decide (q.1=p.1.name))∘fun p:Hn×V=>(p.1.name,p.1.tv p.2)) with
  | none=>exact absurd (List.find?_eq_none.mp e p hp) (by simp)
  | some y=>
   have h1:=List.mem_of_find?_eq_some e;have h2:=List.find?_some e;simp only[Function.comp,decide_eq_true_eq]at h2;rw[Z7k nd h1 hp h2]
 rw[e];rfl
theorem Z82{hs:List (Hn×V)}{p:Hn×V}(nd:(hs.map (fun x=>x.1.name)).Nodup)(hp:p∈hs):hdOf ((hs.map (fun x=>x.1)).map Hn.hd) p.1.name=some p.1.hd:=by
 have:=Z3E (hs:=(hs.map (fun x=>x.1)).map Hn.hd) (h:=p.1.hd) (by rw[map_map,map_map];exact nd) (mem_map_of_mem (mem_map_of_mem hp));exact this
theorem Z7l{α:Type}(e f c:α)(H T:List α):(e::f::c::(H++T)).Perm (H++(f::c::e::T)):=by
 refine(List.Perm.trans ?_ (List.perm_append_comm_assoc [f,c,e] H T));exact(List.perm_middle (l₁:=[f,c]) (a:=e) (l₂:=H++T)).symm
theorem W12.push{σ σ1:X0}{x:O12}{q:A12}{hs:List (Hn×V)}{rest:lO}{f c e:Addr}{n:Int}{L:List (Str×Int)}(S:W12 σ x q hs rest)(g:X6 σ σ1)(hc:σ c=none)(fc:σ1 c=some (.list (L.map pr11)))(hf:σ1 f=none)(he:(σ1.upd f (.sd [])) e=none) :
  W12 ((((σ1.upd f (.sd [])).upd e (.list [])).upd f (.sd [("number",.int n),("called",.ref c),("deeds",.ref e)])).upd q.fr (.list ((q.fs.map fun f=>V.ref f.f).reverse++[V.ref f]))) { x with frames:=⟨n,L,[]⟩::x.frames } { q with fs:=⟨f,c,e⟩::q.fs } hs rest:=by
 revert σ σ1 x q hs rest f c e n L;k_extra "q";intro σ σ1 x q hs rest f c e n L S g hc fc hf he
 have L4:=(((S.led.add g hc fc).new (.sd []) hf).new (.list []) he).set 1 (.sd [("number",.int n),("called",.ref c),("deeds",.ref e)]) rfl;have L5:=L4.perm (Z7l (e,O.list []) (f,O.sd [("number",.int n),("called",.ref c),("deeds",.ref e)]) (c,O.list (L.map pr11)) [(q.o,dO12 x q),(q.ev,.list (x.events.map Evt.v)),(q.lg,.list (x.log.map Row.v)),(q.fr,.list ((q.fs.map fun f=>V.ref f.f).reverse)),(q.li,.list (x.line.map t3v)),(q.st,.sd (stV x.st)),(q.al,.sd (allV hs))] (fpG q.fs x.frames++rest)).symm;have L6:=L5.set 3 (.list ((q.fs.map fun f=>V.ref f.f).reverse++[V.ref f])) rfl;refine⟨?_,by simp[S.len]⟩;show Led _ ((q.o,dO12 x q)::(q.ev,.list (x.events.map Evt.v))::(q.lg,.list (x.log.map Row.v))::(q.fr,.list (((⟨f,c,e⟩::q.fs).map fun f:B12=>V.ref f.f).reverse))::(q.li,.list (x.line.map t3v))::(q.st,.sd (stV x.st))::(q.al,.sd (allV hs))::(f,.sd [("number",.int n),("called",.ref c),("deeds",.ref e)])::(c,.list (L.map pr11))::(e,.list [])::(fpG q.fs x.frames++rest));rw[map_cons,reverse_cons];exact L6
theorem Z31{x:O12}{q:A12}{hs:List (Hn×V)}{rest:lO}{n:Int}{ev:Evt}{Q:pV}(hK:C.K=KL C.w.params)(hS:Zk C)(hr:A.depth<recursionLimit)(hh:A.handled=none)(hu:A.units<7000)(S:W12 σ x q hs rest)(nd:(hs.map (fun x=>x.1.name)).Nodup)(hsub:∀n∈x.st.map (fun x=>x.1),n∈hs.map (fun x=>x.1.name))(hz:x.st.length<=1000)(hok:∀p∈hs,PyData.strOk p.1.hears=true)(z1:x.events.length<=9000)(z2:x.log.length<=9000)(z3:x.frames.length<=9000)(h0:0<=n)(hn:x.events[n.toNat]?=some ev)(hw:PyData.strOk ev.word=true)(h:∀q' σ',q'.o=q.o->W12 σ' (O12.begin (hs.map (fun x=>x.1)) x n ev.word) q' hs rest->Q .none σ'):X1 C A (.ref 383) [.ref q.o,.int n] σ Q X:=by
 revert C A σ X x q hs rest n ev Q;k_extra "q";intro C A σ X x q hs rest n ev Q hK hS hr hh hu S nd hsub hz hok z1 z2 z3 h0 hn hw h
 have fo:=S.fo;have fs:=S.fs;have hlt:=(List.getElem?_eq_some_iff.mp hn).1;k_extra "c";k_extra "n";intro L A' a1 a2 a3;have hh':A'.handled=none:=a1.trans hh;have hu':A'.units<8000:=by exact Y6Q hu a3
 k_extra "M";k_extra "r";intro so hso;have g0:X6 σ (σ.upd so (.list [])):=X6.rfl'.fresh hso;have f0:(σ.upd so (.list [])) so=some (.list []):=X0.hit;generalize X0.upd σ so _=σ0 at g0 f0 ⊢;have fo0:=g0 _ _ fo;k_extra "M";refine X1.listOfSd (g0 _ _ fs) hS hh' (by rw[Z1V,sizeLine_eq];exact Y6I hz) ?_;k_extra "r";intro ll hll;rw[Z6g];have g1:=g0.fresh (o:=.list ((x.st.map (fun x=>x.1)).map V.str)) hll;have t1:(σ0.upd ll (.list ((x.st.map (fun x=>x.1)).map V.str))) ll=some (.list ((x.st.map (fun x=>x.1)).map V.str)):=X0.hit;have t0:=X0.at_fresh (o:=.list ((x.st.map (fun x=>x.1)).map V.str)) hll f0;have nl:ll≠so:=fun e=>by rw[e,f0]at hll;cases hll
 generalize X0.upd σ0 ll _=σ1 at g1 t1 t0 ⊢;k_extra "M";refine⟨_,_,rfl,.inl t1,?_⟩;rw[show ZO ((x.st.map (fun x=>x.1)).map V.str)=((x.st.map (fun x=>x.1)).zipIdx).map (fun p=>V.tup [.int (p.2:Int),.str p.1]) by
  unfold ZO;rw[List.zipIdx_map,map_map];rfl]
 refine Xi.invJ (fun p:Str×Nat=>V.tup [.int (p.2:Int),.str p.1]) (fun rs ρ σ2=>∃(T:List Tri) (done rem:List Str),done++rem=x.st.map (fun x=>x.1)/\rs=rem.zipIdx done.length/\T.map (fun x=>x.2.2)=Z8 ((hs.map (fun x=>x.1)).map Hn.hd) done ev.word/\(∀t∈T,t.1=rk ((hs.map (fun x=>x.1)).map Hn.hd) t.2.2/\t.2.1<done.length)/\T.Pairwise (fun a b=>a.2.1<b.2.1)/\X6 σ σ2/\σ2 so=some (.list (T.map tv))/\σ2 ll=some (.list ((x.st.map (fun x=>x.1)).map V.str))/\ρ.get "_law_own" = some (.ref q.o)/\ρ.get "_law_number" = some (.int n)/\ρ.get "_law_some" = some (.ref so)) ?_ ?_ _ _ _ ⟨[],[],_,rfl,rfl,rfl,(fun u z=>by cases z),.nil,g1,t0,t1,by k_extra "a",by k_extra "a",by k_extra "a"⟩
 ·k_extra "A";intro J p rs hN _ _;k_extra "n";intro ρ σ2;refine Z46 ?_;intro T done rem e1 e2 hT hT2 hP g s1 s2 r1 r2 r3;obtain⟨m,rem,rfl⟩:∃r rest',rem=r::rest':=by
   cases rem with
   | nil=>cases e2
   | cons r rest=>exact⟨r,rest,rfl⟩
  rw[List.zipIdx_cons]at e2;obtain⟨rfl,rfl⟩:=List.cons.inj e2;clear e2;have hm:m∈x.st.map (fun x=>x.1):=by rw[<-e1];simp
  obtain⟨p,hp,en⟩:=List.mem_map.mp (hsub m hm);have hd:=Z82 nd hp;have ha:=Z3K nd hp;rw[en]at hd ha;have eh:hrs ((hs.map (fun x=>x.1)).map Hn.hd) m=p.1.hears:=by unfold hrs;rw[hd];rfl
  have er:rk ((hs.map (fun x=>x.1)).map Hn.hd) m=p.1.rank:=by unfold rk;rw[hd];rfl
  have lT:T.length<=1000:=by
   have q1:=congrArg List.length hT;have q2:=List.length_filter_le (fun n=>(hrs ((hs.map (fun x=>x.1)).map Hn.hd) n==ofString "")||(hrs ((hs.map (fun x=>x.1)).map Hn.hd) n==ev.word)) done;have q3:=congrArg List.length e1;unfold Z8 at q1;simp only[length_map,length_append,length_cons]at q1 q3;exact(Nt 0x3e8c8c000e0961584908c491040900000003e8c8009) hz q2 q1 q3
  have e3:(done++[m])++rem=x.st.map (fun x=>x.1):=by rw[<-e1];simp
  have f3:Z8 ((hs.map (fun x=>x.1)).map Hn.hd) (done++[m]) ev.word=Z8 ((hs.map (fun x=>x.1)).map Hn.hd) done ev.word++(if ((p.1.hears==ofString "")||(p.1.hears==ev.word))=true then [m] else []):=by
   unfold Z8;rw[List.filter_append]
   congr 1
   rw[List.filter_cons,eh];rfl
  have S2:=S.grow g;have fo2:=S2.fo;k_extra "M";refine X5.sd S2.fa ha ?_;simp only[Hn.tv];k_extra "M";refine X5.list (y:=Evt.v ev) (.inl S2.fe) h0 (by exact Y9D z1 hlt) (by rw[List.getElem?_map,hn];rfl) ?_;simp only[Evt.v];k_extra "M";refine X4.inT2 (by exact Y9k hu') (hok p hp) (Z0 _) hw ?_;rw[Z1p (ofString ""),Z1p ev.word];k_extra "M"
  cases c:(p.1.hears==ofString "")||(p.1.hears==ev.word) with
  | true=>
   rw[c,if_pos rfl]at f3;refine Br.t rfl ?_;k_extra "M";refine hN _ _ (.inl (X0.miss nl s2)) ⟨T++[(p.1.rank,((done.length:Nat):Int),m)],done++[m],rem,e3,by simp,by rw[f3,<-hT];simp,fun t ht=>?_,?_,g.upd hso,by rw[X0.hit,map_append];rfl,X0.miss nl s2,by k_extra "a",by k_extra "a",by k_extra "a"⟩
   ·rcases List.mem_append.mp ht with z|z
    ·exact⟨(hT2 t z).1,by rw[length_append,length_singleton];have:=(hT2 t z).2;exact Y9R this⟩
    ·rw[List.mem_singleton.mp z];exact⟨er.symm,by rw[length_append,length_singleton];show((done.length:Nat):Int)<_;exact(Np 0xe016e0384)⟩
   ·rw[List.pairwise_append];refine⟨hP,List.pairwise_singleton _ _,?_⟩;intro a ha b hb;rw[List.mem_singleton.mp hb];exact(hT2 a ha).2
  | false=>
   rw[c,if_neg (by simp),append_nil]at f3;refine Br.f rfl ?_;k_extra "M";refine hN _ _ (.inl s2) ⟨T,done++[m],rem,e3,by simp,by rw[f3,hT],fun t ht=>?_,hP,g,s1,s2,by k_extra "a",by k_extra "a",by k_extra "a"⟩;exact⟨(hT2 t ht).1,by rw[length_append,length_singleton];have:=(hT2 t ht).2;exact Y9R this⟩
 intro ρ σ2;refine Z46 ?_;intro T done rem e1 e2 hT hT2 hP g s1 s2 r1 r2 r3;obtain rfl:rem=[]:=by
  cases rem with
  | nil=>rfl
  | cons r rest=>rw[List.zipIdx_cons]at e2;cases e2
 rw[append_nil]at e1;subst e1;have lT:T.length<=1000:=by
  have q1:=congrArg List.length hT;have q2:=List.length_filter_le (fun n=>(hrs ((hs.map (fun x=>x.1)).map Hn.hd) n==ofString "")||(hrs ((hs.map (fun x=>x.1)).map Hn.hd) n==ev.word)) (x.st.map (fun x=>x.1));unfold Z8 at q1;simp only[length_map]at q1 q2;exact(Nr 0x1f46420008091044900000003e8c8009) hz q1 q2
 k_extra "M";refine X1.sortedTris (.inl s1) (by exact(Np 0xc350640000000003e8c8009) lT) (Z4o hP) ?_;intro sl T' hsl hp hs';have eH:=Z5B hT (fun t ht=>(hT2 t ht).1) hP hp hs';have lT':T'.length<=1000:=by rw[hp.length_eq];exact lT
 have memK:∀t∈T',t.2.2∈x.st.map (fun x=>x.1):=fun t ht=>by
  have z:t.2.2∈T.map (fun x=>x.2.2):=mem_map_of_mem (hp.mem_iff.mp ht);rw[hT]at z;exact(List.mem_filter.mp z).1
 have g2:=g.fresh (o:=.list (T'.map tv)) hsl;have f3:(σ2.upd sl (.list (T'.map tv))) sl=some (.list (T'.map tv)):=X0.hit;generalize X0.upd σ2 sl _=σ3 at g2 f3 ⊢;have S3:=S.grow g2;have fo3:=S3.fo;k_extra "M";refine⟨_,_,ItV.list hh' (.inl f3),?_⟩;intro L';refine Xa.invJ tv (fun ys out σ4=>∃dn:List Tri,dn++ys=T'/\out=(dn.map fun t=>(t.2.2,(getS x.st t.2.2).getD 0)).map pr11/\σ4=σ3) ?_ ?_ _ _ _ ⟨[],rfl,rfl,rfl⟩
 ·intro J2 t ys out hJ σ4;refine Z2o ?_;intro dn e3 eo e4;subst eo e4;have ht:t∈T':=by rw[<-e3];simp
  obtain⟨m,em,_⟩:=ZT (memK t ht);simp only[tv];k_extra "M";refine X5.sd S3.fs (y:=.int m) (by rw[Z1j,em];rfl) ?_;k_extra "M";refine hJ _ _ (by simp[sizeLine_eq];have:=congrArg List.length e3;simp at this;exact(Nr 0x1000000c84000e0560d84900000003e8c8009) lT' this) (.inl f3) ⟨dn++[t],by rw[<-e3];simp,?_,rfl⟩;rw[map_append,map_append,map_cons,map_cons,em];rfl
 intro out σ4;refine Z2o ?_;intro dn e3 eo e4;rw[append_nil]at e3;subst eo e4 e3;intro cl hcl;have eo:(dn.map fun t=>(t.2.2,(getS x.st t.2.2).getD 0))=opens11 x.st (Zg (hs.map (fun x=>x.1)) (x.st.map (fun x=>x.1)) ev.word):=by
  rw[<-eH];unfold opens11;rw[map_map];rfl
 rw[eo];have g3:=g2.fresh (o:=.list ((opens11 x.st (Zg (hs.map (fun x=>x.1)) (x.st.map (fun x=>x.1)) ev.word)).map pr11)) hcl;have fc:(σ4.upd cl (.list ((opens11 x.st (Zg (hs.map (fun x=>x.1)) (x.st.map (fun x=>x.1)) ev.word)).map pr11))) cl=some (.list ((opens11 x.st (Zg (hs.map (fun x=>x.1)) (x.st.map (fun x=>x.1)) ev.word)).map pr11)):=X0.hit;have nc:=g2.none0 hcl;generalize X0.upd σ4 cl _=σ5 at g3 fc ⊢;have S5:=S.grow g3;have fo5:=S5.fo;have ff5:=S5.ff;have lz:=S.len;k_extra "M";intro fd hfd;k_extra "M";intro dl hdl;k_extra "M";refine⟨by k_extra "b",?_⟩;have es:List.foldl (fun e (p:Str×V)=>sput e p.1 p.2) [] [(ofString "number",V.int n),(ofString "called",.ref cl),(ofString "deeds",.ref dl)]=([("number",.int n),("called",.ref cl),("deeds",.ref dl)]:List (Str×V)):=by
  simp only[List.foldl_cons,List.foldl_nil]
  kernel_rfl
 rw[es];have S6:=S.push (n:=n) g3 nc fc hfd hdl;have ff6:((((σ5.upd fd (.sd [])).upd dl (.list [])).upd fd (.sd [("number",.int n),("called",.ref cl),("deeds",.ref dl)])) q.fr)=some (.list ((q.fs.map fun f=>V.ref f.f).reverse)):=by
  have n1:q.fr≠fd:=fun e=>by rw[<-e,ff5]at hfd;cases hfd
  have n2:q.fr≠dl:=fun e=>by rw[<-e,X0.miss n1 ff5]at hdl;cases hdl
  exact X0.miss n1 (X0.miss n2 (X0.miss n1 ff5))
 generalize X0.upd (X0.upd (X0.upd σ5 fd _) dl _) fd _=σ6 at S6 ff6 ⊢;k_extra "M";generalize X0.upd σ6 q.fr _=σ7 at S6 ⊢;have fo7:=S6.fo;have fg7:=S6.fg;k_extra "M";have S7:=S6.sg (.beg n x.time);simp only[Row.v]at S7;exact h _ _ (by rfl) S7
theorem Led.repl{σ:X0}{a b:Addr}{oa ob:O}(H:lO){T:lO}(M:Led σ ((a,oa)::(H++(b,ob)::T))):Led σ (H++(a,oa)::T):=
 (M.sub (((List.Sublist.refl H).append ((List.Sublist.refl T).cons (b,ob))).cons_cons (a,oa))).perm List.perm_middle
section
variable {σ:X0} {x:O12} {q:A12} {hs:List (Hn×V)} {rest:lO}
theorem W12.nl{a:Addr}{l:List T3}(S:W12 σ x q hs rest)(M:Led σ ((a,.list (l.map t3v))::(fpO q x hs++rest))):W12 (σ.upd q.o (dO12 { x with line:=l } { q with li:=a })) { x with line:=l } { q with li:=a } hs rest:=by
 have M2:Led σ ((a,.list (l.map t3v))::([(q.o,dO12 x q),(q.ev,.list (x.events.map Evt.v)),(q.lg,.list (x.log.map Row.v)),(q.fr,.list ((q.fs.map fun f=>V.ref f.f).reverse))]++(q.li,.list (x.line.map t3v))::((q.st,.sd (stV x.st))::(q.al,.sd (allV hs))::fpG q.fs x.frames++rest))):=M;exact⟨M2.repl.set 0 (dO12 { x with line:=l } { q with li:=a }) rfl,S.len⟩
theorem W12.split(S:W12 σ x q hs rest){f:F12}{fr:List F12}(hf:x.frames=f::fr):∃b bs,q={ q with fs:=b::bs }:=by
 obtain⟨o,ev,lg,fr',li,st,al,fs⟩:=q
 cases fs with
 | nil=>have:=S.len;rw[hf]at this;cases this
 | cons b bs=>exact⟨b,bs,rfl⟩
theorem W12.top{b:B12}{bs:List B12}{f:F12}{fr:List F12}(S:W12 σ { x with frames:=f::fr } { q with fs:=b::bs } hs rest):σ b.f=some (.sd [("number",.int f.num),("called",.ref b.c),("deeds",.ref b.e)])/\σ b.c=some (.list (f.called.map pr11))/\σ b.e=some (.list (f.deeds.map Deed.v)):=⟨S.led.get 7 rfl,S.led.get 8 rfl,S.led.get 9 rfl⟩
theorem W12.sc{b:B12}{bs:List B12}{f:F12}{fr:List F12}(S:W12 σ { x with frames:=f::fr } { q with fs:=b::bs } hs rest)(L:List (Str×Int)):W12 (σ.upd b.c (.list (L.map pr11))) { x with frames:={ f with called:=L }::fr } { q with fs:=b::bs } hs rest:=⟨S.led.set 8 _ rfl,S.len⟩
theorem W12.sd{b:B12}{bs:List B12}{f:F12}{fr:List F12}(S:W12 σ { x with frames:=f::fr } { q with fs:=b::bs } hs rest)(ds:List Deed):W12 (σ.upd b.e (.list (ds.map Deed.v))) { x with frames:={ f with deeds:=ds }::fr } { q with fs:=b::bs } hs rest:=⟨S.led.set 9 _ rfl,S.len⟩
theorem W12.nc{a:Addr}{b:B12}{bs:List B12}{f:F12}{fr:List F12}{L:List (Str×Int)}(S:W12 σ { x with frames:=f::fr } { q with fs:=b::bs } hs rest)(M:Led σ ((a,.list (L.map pr11))::(fpO { q with fs:=b::bs } { x with frames:=f::fr } hs++rest))):W12 (σ.upd b.f (.sd [("number",.int f.num),("called",.ref a),("deeds",.ref b.e)])) { x with frames:={ f with called:=L }::fr } { q with fs:={ b with c:=a }::bs } hs rest:=by
 have M2:Led σ ((a,.list (L.map pr11))::([(q.o,dO12 x q),(q.ev,.list (x.events.map Evt.v)),(q.lg,.list (x.log.map Row.v)),(q.fr,.list (((b::bs).map fun f=>V.ref f.f).reverse)),(q.li,.list (x.line.map t3v)),(q.st,.sd (stV x.st)),(q.al,.sd (allV hs)),(b.f,.sd [("number",.int f.num),("called",.ref b.c),("deeds",.ref b.e)])]++(b.c,.list (f.called.map pr11))::((b.e,.list (f.deeds.map Deed.v))::fpG bs fr++rest))):=M;exact⟨M2.repl.set 7 (.sd [("number",.int f.num),("called",.ref a),("deeds",.ref b.e)]) rfl,S.len⟩
theorem W12.nd{a:Addr}{b:B12}{bs:List B12}{f:F12}{fr:List F12}{ds:List Deed}(S:W12 σ { x with frames:=f::fr } { q with fs:=b::bs } hs rest)(M:Led σ ((a,.list (ds.map Deed.v))::(fpO { q with fs:=b::bs } { x with frames:=f::fr } hs++rest))):W12 (σ.upd b.f (.sd [("number",.int f.num),("called",.ref b.c),("deeds",.ref a)])) { x with frames:={ f with deeds:=ds }::fr } { q with fs:={ b with e:=a }::bs } hs rest:=by
 have M2:Led σ ((a,.list (ds.map Deed.v))::([(q.o,dO12 x q),(q.ev,.list (x.events.map Evt.v)),(q.lg,.list (x.log.map Row.v)),(q.fr,.list (((b::bs).map fun f=>V.ref f.f).reverse)),(q.li,.list (x.line.map t3v)),(q.st,.sd (stV x.st)),(q.al,.sd (allV hs)),(b.f,.sd [("number",.int f.num),("called",.ref b.c),("deeds",.ref b.e)]),(b.c,.list (f.called.map pr11))]++(b.e,.list (f.deeds.map Deed.v))::(fpG bs fr++rest))):=M;exact⟨M2.repl.set 7 (.sd [("number",.int f.num),("called",.ref b.c),("deeds",.ref a)]) rfl,S.len⟩
end
theorem Z6h(x:O12)(w:Str)(mk:Option Int)(due:Int):x.made w mk (ofString "now") due={ x with events:=x.events++[⟨w,mk,ofString "now",due⟩],born:=some x.events.length }:=by unfold O12.made;rw[if_pos rfl]
theorem Z5G(x:O12)(w:Str)(mk:Option Int)(due:Int):x.made w mk (ofString "soon") due={ x with events:=x.events++[⟨w,mk,ofString "soon",due⟩],line:=x.line++[(0,0,(x.events.length:Int))] }:=by unfold O12.made;rw[if_neg (by decide +kernel),if_pos rfl]
theorem Z32(x:O12)(w:Str)(mk:Option Int)(due:Int):x.made w mk (ofString "wait") due={ x with events:=x.events++[⟨w,mk,ofString "wait",due⟩],line:=x.line++[(1,due,(x.events.length:Int))] }:=by unfold O12.made;rw[if_neg (by decide +kernel),if_neg (by decide +kernel)]
noncomputable def Z2E:V->Int
 | .tup [_,_,.int k]=>k
 | _=>0
theorem Z2g(t:T3):Z2E (t3v t)=t.2.2:=rfl
theorem Z4K{l:List T3}{p:T3->Bool}{x:T3}(hx:x∈l):(l.filter p).contains x=p x:=by
 rw[Bool.eq_iff_iff];simp[hx]
theorem O12.word_at{x:O12}{t:T3}(h0:0<=t.2.2)(h1:t.2.2<x.events.length):∃e,x.events[t.2.2.toNat]?=some e/\x.wordOf t.2.2=e.word:=by
 have hlt:t.2.2.toNat<x.events.length:=by exact Y6a h0 h1
 exact⟨_,List.getElem?_eq_getElem hlt,by unfold O12.wordOf;rw[List.getElem?_eq_getElem hlt];rfl⟩
theorem Z6i{x:O12}{q:A12}{hs:List (Hn×V)}{rest:lO}{b:B12}{bs:List B12}{f:F12}{fr:List F12}{d:Deed}{Q:pV}(hK:C.K=KL C.w.params)(hS:Zk C)(hr:A.depth+1<recursionLimit)(hh:A.handled=none)(hu:A.units<7000)(S:W12 σ { x with frames:=f::fr } { q with fs:=b::bs } hs rest)(z1:x.events.length<=9000)(z2:x.log.length<=9000)(z3:x.line.length<=9000)(z4:x.st.length<=1000)(hlt:∀t∈x.line,0<=t.2.2/\t.2.2<x.events.length)(h:∀q' σ',q'.o=q.o->W12 σ' (O12.deed { x with frames:=f::fr } f.num d) q' hs rest->Q .none σ'):X1 C A (.ref 388) [.ref q.o,.ref b.f,Deed.v d] σ Q X:=by
 revert C A σ X x q hs rest b bs f fr d Q;k_extra "v";intro C A σ X x q hs rest b bs f fr d Q hK hS hr hh hu S z1 z2 z3 z4 hlt h
 have hr0:A.depth<recursionLimit:=by exact Y37 hr
 obtain⟨t1,t2,t3⟩:=S.top;have fo:=S.fo;k_extra "i";k_extra "n";intro fL A' a1 a2 a3;have hh':A'.handled=none:=a1.trans hh;have hr1:A'.depth<recursionLimit:=by exact Y6L hr a2
 have hu':A'.units<8000:=by exact Y6Q hu a3
 cases d with
 | now w=>
  revert w;k_extra "r";intro w h
  simp only[Deed.v];k_extra "M";refine X4.inTS (ns:=[ofString "now",ofString "soon",ofString "wait"]) (by exact Y9k hu') (Z0 _) (by simp[Z0]) ?_;have fg:=S.fg;k_extra "M";refine Z2D (x:={ x with frames:=f::fr }) (q:={ q with fs:=b::bs }) (mk:=some f.num) hK hr1 hh' S z1 z3 (.inl rfl) ?_;intro σ1 S1;rw[Z6h]at S1;have fg1:=S1.fg;k_extra "M";have S2:=S1.sg (.make f.num x.events.length);simp only[Row.v]at S2;exact h _ _ (by rfl) S2
 | soon w=>
  revert w;k_extra "r";intro w h
  simp only[Deed.v];k_extra "M";refine X4.inTS (ns:=[ofString "now",ofString "soon",ofString "wait"]) (by exact Y9k hu') (Z0 _) (by simp[Z0]) ?_;have fg:=S.fg;k_extra "M";refine Z2D (x:={ x with frames:=f::fr }) (q:={ q with fs:=b::bs }) (mk:=some f.num) hK hr1 hh' S z1 z3 (.inr (.inl rfl)) ?_;intro σ1 S1;rw[Z5G]at S1;have fg1:=S1.fg;k_extra "M";have S2:=S1.sg (.make f.num x.events.length);simp only[Row.v]at S2;exact h _ _ (by rfl) S2
 | wait t w=>
  revert t w;k_extra "n";intro t w h
  simp only[Deed.v];k_extra "M";refine X4.inTS (ns:=[ofString "now",ofString "soon",ofString "wait"]) (by exact Y9k hu') (Z0 _) (by simp[Z0]) ?_;have fg:=S.fg;k_extra "M";refine Z2D (x:={ x with frames:=f::fr }) (q:={ q with fs:=b::bs }) (mk:=some f.num) hK hr1 hh' S z1 z3 (.inr (.inr rfl)) ?_;intro σ1 S1;rw[Z32]at S1;have fg1:=S1.fg;k_extra "M";have S2:=S1.sg (.make f.num x.events.length);simp only[Row.v]at S2;exact h _ _ (by rfl) S2
 | hush=>
  simp only[Deed.v];k_extra "M";refine X4.inTS (ns:=[ofString "now",ofString "soon",ofString "wait"]) (by exact Y9k hu') (Z0 _) (by simp[Z0]) ?_;k_extra "M";k_extra "r";intro a ha;have M:Led (σ.upd a (.list [])) ((a,.list (([]:List (Str×Int)).map pr11))::(fpO { q with fs:=b::bs } { x with frames:=f::fr } hs++rest)):=S.led.new _ ha;have S1:W12 (σ.upd a (.list [])) { x with frames:=f::fr } { q with fs:=b::bs } hs rest:=S.grow (X6.rfl'.fresh ha);generalize X0.upd σ a _=σ1 at M S1 ⊢;have u1:=S1.top.1;k_extra "M";refine Xb.sd u1 (by simp[sizeLine_eq]) ?_;have es:sput [(ofString "number",V.int f.num),(ofString "called",.ref b.c),(ofString "deeds",.ref b.e)] (ofString "called") (.ref a)=[(ofString "number",V.int f.num),(ofString "called",.ref a),(ofString "deeds",.ref b.e)]:=by k_extra "k"
  rw[es];have S2:=S1.nc M;generalize X0.upd σ1 b.f _=σ2 at S2 ⊢;have fo2:=S2.fo;have fg2:=S2.fg;k_extra "M";have S3:=S2.sg (.hush f.num);simp only[Row.v]at S3;exact h _ _ (by rfl) S3
 | join n=>
  revert n;k_extra "r";intro n h
  simp only[Deed.v];k_extra "M";refine X4.inTS (ns:=[ofString "now",ofString "soon",ofString "wait"]) (by exact Y9k hu') (Z0 _) (by simp[Z0]) ?_;k_extra "M";refine Z5F (x:={ x with frames:=f::fr }) (q:={ q with fs:=b::bs }) hK hS hr1 hh' S z4 ?_;intro σ1 S1;have fo1:=S1.fo;have fg1:=S1.fg;have el:(O12.come { x with frames:=f::fr } n).log=x.log:=by unfold O12.come;split<;>rfl
  rw[el]at fg1;k_extra "M";have S2:=S1.sg (.join f.num n);simp only[Row.v]at S2;rw[el]at S2;exact h _ _ (by rfl) S2
 | leave n=>
  revert n;k_extra "r";intro n h
  have fs:=S.fs;simp only[Deed.v];k_extra "M";refine X4.inTS (ns:=[ofString "now",ofString "soon",ofString "wait"]) (by exact Y9k hu') (Z0 _) (by simp[Z0]) ?_;k_extra "M";refine X4.inSd fs hS ?_;rw[Z24]
  by_cases c:n∈x.st.map (fun x=>x.1)
  ·obtain⟨m,em,_⟩:=ZT c;rw[decide_eq_true c];k_extra "M";refine X1.sdpop (y:=.int m) fs (by rw[Z1V,sizeLine_eq];show x.st.length<=_;exact Y6I z4) (by rw[Z1j];show Option.map _ (getS x.st n)=_;rw[em];rfl) ?_;rw[Z4q];have S1:=S.ss (Zu x.st n);generalize X0.upd σ q.st _=σ1 at S1 ⊢;have fo1:=S1.fo;have fg1:=S1.fg;k_extra "M";have S2:=S1.sg (.leave f.num n);simp only[Row.v]at S2;exact h _ _ (by rfl) S2
  ·rw[decide_eq_false c];have fg1:=S.fg;k_extra "M";have S2:=S.sg (.leave f.num n);simp only[Row.v]at S2;refine h { q with fs:=b::bs } _ (by rfl) ?_;show W12 _ { x with frames:=f::fr,st:=Zu x.st n,log:=x.log++[.leave f.num n] } _ _ _;rw[Z5E c];exact S2
 | cancel w=>
  revert w;k_extra "r";intro w h
  have fl:=S.fl;have fe:=S.fe;have ew:∀k,O12.wordOf { x with frames:=f::fr } k=x.wordOf k:=fun z=>rfl;simp only[Deed.v];k_extra "M";refine X4.inTS (ns:=[ofString "now",ofString "soon",ofString "wait"]) (by exact Y9k hu') (Z0 _) (by simp[Z0]) ?_;k_extra "M";refine⟨_,_,ItV.list hh' (.inl fl),?_⟩;intro L';refine Xa.pure (fun y=>x.wordOf (Z2E y)==w) id (.inl fl) _ _ ?_ ?_ (by rw[length_map,sizeLine_eq];show 0+x.line.length<=_;exact Y9V z3) ?_
  ·intro y hy Q hQ;obtain⟨t,ht,rfl⟩:=List.mem_map.mp hy;obtain⟨h0,h1⟩:=hlt t ht;obtain⟨e,he,hwd⟩:=O12.word_at h0 h1;have he2:(x.events.map Evt.v)[t.2.2.toNat]?=some (Evt.v e):=by rw[List.getElem?_map,he];rfl
   rw[Z2g,hwd]at hQ;simp only[t3v];k_extra "M";refine X5.list (y:=Evt.v e) (.inl fe) h0 (by exact Y9W z1 h1) he2 ?_;simp only[Evt.v];k_extra "M";exact hQ
  ·intro y hy _ Q hQ;k_extra "M";exact hQ
  rw[nil_append,map_id,filter_map];intro gl hgl;have S1:W12 (σ.upd gl (.list ((x.line.filter fun t=>x.wordOf t.2.2==w).map t3v))) { x with frames:=f::fr } { q with fs:=b::bs } hs rest:=S.grow (X6.rfl'.fresh hgl);have fg1:(σ.upd gl (.list ((x.line.filter fun t=>x.wordOf t.2.2==w).map t3v))) gl=some (.list ((x.line.filter fun t=>x.wordOf t.2.2==w).map t3v)):=X0.hit;show Asg _ _ _ _ _ _ (σ.upd gl (.list ((x.line.filter fun t=>x.wordOf t.2.2==w).map t3v))) _ _;have M1:=S.led.new (.list ((x.line.filter fun t=>x.wordOf t.2.2==w).map t3v)) hgl;generalize X0.upd σ gl _=σ1 at S1 fg1 M1 ⊢;have fo1:=S1.fo;have fl1:=S1.fl;have lg:(x.line.filter fun t=>x.wordOf t.2.2==w).length<=9000:=Nat.le_trans (List.length_filter_le _ _) z3;k_extra "M";refine⟨_,_,ItV.list hh' (.inl fl1),?_⟩;intro L';refine Xa.pure (fun y=>!(x.wordOf (Z2E y)==w)) id (.inl fl1) _ _ ?_ ?_ (by rw[length_map,sizeLine_eq];show 0+x.line.length<=_;exact Y9V z3) ?_
  ·intro y hy Q hQ;obtain⟨t,ht,rfl⟩:=List.mem_map.mp hy;rw[Z2g]at hQ;k_extra "M";refine X4.notInT3 (.inl fg1) (by exact Y9k hu') ?_;rw[Z4K ht];k_extra "M";exact hQ
  ·intro y hy _ Q hQ;k_extra "M";exact hQ
  rw[nil_append,map_id,filter_map];intro nl hnl;have M2:=M1.new (.list ((x.line.filter fun t=>!(x.wordOf t.2.2==w)).map t3v)) hnl;have S2:W12 (σ1.upd nl (.list ((x.line.filter fun t=>!(x.wordOf t.2.2==w)).map t3v))) { x with frames:=f::fr } { q with fs:=b::bs } hs rest:=S1.grow (X6.rfl'.fresh hnl);show Asg _ _ _ _ _ _ (σ1.upd nl (.list ((x.line.filter fun t=>!(x.wordOf t.2.2==w)).map t3v))) _ _;generalize X0.upd σ1 nl _=σ2 at M2 S2 ⊢;have fo2:=S2.fo;k_extra "M";refine Xb.sd S2.fo (by simp[sizeLine_eq]) ?_;have es:sput [(ofString "time",V.int x.time),(ofString "events",V.ref q.ev),(ofString "log",V.ref q.lg),(ofString "frames",V.ref q.fr),(ofString "line",V.ref q.li),(ofString "born",optV x.born),(ofString "stood",V.int x.stood),(ofString "stands",V.ref q.st),(ofString "all",V.ref q.al)] (ofString "line") (.ref nl)=[(ofString "time",V.int x.time),(ofString "events",V.ref q.ev),(ofString "log",V.ref q.lg),(ofString "frames",V.ref q.fr),(ofString "line",V.ref nl),(ofString "born",optV x.born),(ofString "stood",V.int x.stood),(ofString "stands",V.ref q.st),(ofString "all",V.ref q.al)]:=by k_extra "k"
  rw[es];have S3:=S2.nl (l:=x.line.filter fun t=>!(x.wordOf t.2.2==w)) (M2.sub (.cons_cons _ (.cons _ (List.Sublist.refl _))));have fg3:(σ2.upd q.o (dO12 { x with line:=x.line.filter fun t=>!(x.wordOf t.2.2==w) } { q with li:=nl })) gl=some (.list ((x.line.filter fun t=>x.wordOf t.2.2==w).map t3v)):=X0.miss (fun e=>by have:=M2.get 1 rfl;rw[e,S2.fo]at this;cases this) (M2.get 1 rfl);show Exs _ _ _ _ _ (σ2.upd q.o (dO12 { x with line:=x.line.filter fun t=>!(x.wordOf t.2.2==w) } { q with li:=nl })) _ _;have S3':W12 (σ2.upd q.o (dO12 { x with line:=x.line.filter fun t=>!(x.wordOf t.2.2==w) } { q with li:=nl })) { x with frames:=f::fr,line:=x.line.filter fun t=>!(x.wordOf t.2.2==w) } { q with fs:=b::bs,li:=nl } hs rest:=S3;generalize X0.upd σ2 q.o _=σ3 at S3' fg3 ⊢;clear S3 S2 M2 S1 M1;have fo3:=S3'.fo;have fy3:=S3'.fg;k_extra "M";refine⟨_,_,ItV.list hh' (.inl fg3),?_⟩;intro L';refine Xa.pure (fun z=>true) (fun y=>V.int (Z2E y)) (.inl fg3) _ _ ?_ ?_ (by rw[length_map,sizeLine_eq];show 0+_<=_;exact Y9V lg) ?_
  ·intro y hy Q hQ;k_extra "M";exact hQ
  ·intro y hy _ Q hQ;obtain⟨t,ht,rfl⟩:=List.mem_map.mp hy;rw[Z2g]at hQ;simp only[t3v];k_extra "M";exact hQ
  have e3:([]:List V)++List.map (fun y=>V.int (Z2E y)) (List.filter (fun z=>true) ((x.line.filter fun t=>x.wordOf t.2.2==w).map t3v))=((x.line.filter fun t=>x.wordOf t.2.2==w).map (fun x=>x.2.2)).map V.int:=by
   rw[nil_append,List.filter_eq_self.mpr (fun z z=>rfl),map_map,map_map];rfl
  rw[e3];intro kl hkl;have S4:W12 (σ3.upd kl (.list (((x.line.filter fun t=>x.wordOf t.2.2==w).map (fun x=>x.2.2)).map V.int))) { x with frames:=f::fr,line:=x.line.filter fun t=>!(x.wordOf t.2.2==w) } { q with fs:=b::bs,li:=nl } hs rest:=S3'.grow (X6.rfl'.fresh hkl);have f4:(σ3.upd kl (.list (((x.line.filter fun t=>x.wordOf t.2.2==w).map (fun x=>x.2.2)).map V.int))) kl=some (.list (((x.line.filter fun t=>x.wordOf t.2.2==w).map (fun x=>x.2.2)).map V.int)):=X0.hit;generalize X0.upd σ3 kl _=σ4 at S4 f4 ⊢;k_extra "M";refine X1.sortedInts2 (.inl f4) (by rw[length_map];exact(Np 0xc35064000000002328c8009) lg) ?_;intro sl ns hsl hp hso;have ens:ns=Zz ((x.line.filter fun t=>x.wordOf t.2.2==w).map (fun x=>x.2.2)):=Z2d hp hso;have nlen:=hp.length_eq;rw[length_map]at nlen;have S5:W12 (σ4.upd sl (.list (ns.map V.int))) { x with frames:=f::fr,line:=x.line.filter fun t=>!(x.wordOf t.2.2==w) } { q with fs:=b::bs,li:=nl } hs rest:=S4.grow (X6.rfl'.fresh hsl);have f5:(σ4.upd sl (.list (ns.map V.int))) sl=some (.list (ns.map V.int)):=X0.hit;generalize X0.upd σ4 sl _=σ5 at S5 f5 ⊢;have fo5:=S5.fo;have fg5:=S5.fg;k_extra "M";refine X1.tupOf (.inl f5) (by rw[length_map,sizeLine_eq];exact(Nq 0x8000006420004490000002328c8009) lg nlen) ?_;k_extra "M";have S6:=S5.sg (.cancel f.num ns);simp only[Row.v]at S6;rw[ens]at S6 ⊢;exact h _ _ (by rfl) S6
theorem W12.popF{σ:X0}{x:O12}{q:A12}{hs:List (Hn×V)}{rest:lO}{b:B12}{bs:List B12}{f:F12}{fr:List F12}(S:W12 σ { x with frames:=f::fr } { q with fs:=b::bs } hs rest):W12 (σ.upd q.fr (.list ((bs.map fun f=>V.ref f.f).reverse))) { x with frames:=fr } { q with fs:=bs } hs rest:=by
 have M:=S.led.set 3 (.list ((bs.map fun f=>V.ref f.f).reverse)) rfl;have M2:Led (σ.upd q.fr (.list ((bs.map fun f=>V.ref f.f).reverse))) ([(q.o,dO12 x q),(q.ev,.list (x.events.map Evt.v)),(q.lg,.list (x.log.map Row.v)),(q.fr,.list ((bs.map fun f=>V.ref f.f).reverse)),(q.li,.list (x.line.map t3v)),(q.st,.sd (stV x.st)),(q.al,.sd (allV hs))]++([(b.f,.sd [("number",.int f.num),("called",.ref b.c),("deeds",.ref b.e)]),(b.c,.list (f.called.map pr11)),(b.e,.list (f.deeds.map Deed.v))]++(fpG bs fr++rest))):=M;have M3:Led (σ.upd q.fr (.list ((bs.map fun f=>V.ref f.f).reverse))) ([(q.o,dO12 x q),(q.ev,.list (x.events.map Evt.v)),(q.lg,.list (x.log.map Row.v)),(q.fr,.list ((bs.map fun f=>V.ref f.f).reverse)),(q.li,.list (x.line.map t3v)),(q.st,.sd (stV x.st)),(q.al,.sd (allV hs))]++(fpG bs fr++rest)):=M2.sub ((List.Sublist.refl _).append (List.sublist_append_right _ _));exact⟨M3,by have:=S.len;simpa using this⟩
theorem X4.eqOptI{k:Option Int}{n:Int}{Q:pV}(hu:A.units<9000)(h:Q (.bool (k==some n)) σ):X4 C A .Eq ((k.map V.int).getD .none) (.int n) σ Q X:=by
 cases k with
 | none=>exact X4.eq (d:=.none) (e:=.int n) .none (.int _) rfl rfl (by simp only[PyData.depth,cLine];exact Y6c hu) h
 | some m=>
  refine X4.eq_int ?_;rw[show(m==n)=(some m==some n) by cases e:m==n<;>simp_all];exact h
theorem Z5H{st:List (Str×Int)}{e:Str×Int}{L:List (Str×Int)}:left11 st (e::L)=if ok11 st e=true then e::L else left11 st L:=by
 unfold left11
 cases c:ok11 st e with
 | true=>rw[List.dropWhile_cons_of_neg (by simp[c]),if_pos rfl]
 | false=>rw[List.dropWhile_cons_of_pos (by simp[c]),if_neg (by simp)]
theorem Z33{x x':O12}{q:A12}{hs:List (Hn×V)}{rest:lO}{b:B12}{bs:List B12}{f:F12}{fr:List F12}{Q:pV}(hK:C.K=KL C.w.params)(hS:Zk C)(hr:A.depth+1<recursionLimit)(hh:A.handled=none)(hu:A.units<6900)(nd:(hs.map (fun x=>x.1.name)).Nodup)(hD:∀p∈hs,∃l,p.2=.ref l/\(l,O.list (p.1.ds.map Deed.v))∈rest)(hd30:∀p∈hs,p.1.ds.length<=30)(S:W12 σ { x with frames:=f::fr } { q with fs:=b::bs } hs rest)(z2:x.log.length<=9000)(z4:x.st.length<=1000)(z5:f.called.length<=60)(z6:fr.length<=9000)(hd:f.deeds=[])(hC:∀e L2,left11 x.st f.called=e::L2->∃p∈hs,p.1.name=e.1/\x'={ x with frames:={ f with called:=L2,deeds:=p.1.ds }::fr,log:=x.log++[.call f.num p.1.name],st:=Z1J x.st p.1 })(hE:left11 x.st f.called=[]->x'={ x with frames:=fr,log:=x.log++[.fin f.num] })(h:∀q' σ',q'.o=q.o->W12 σ' x' q' hs rest->Q .none σ'):X1 C A (.ref 395) [.ref q.o,.ref b.f] σ Q X:=by
 revert C A σ X x x' q hs rest b bs f fr Q;k_extra "v";intro C A σ X x x' q hs rest b bs f fr Q hK hS hr hh hu nd hD hd30 S z2 z4 z5 z6 hd hC hE h
 have hr0:A.depth<recursionLimit:=by exact Y37 hr
 obtain⟨t1,t2,t3⟩:=S.top;rw[hd]at t3;replace t3:σ b.e=some (.list []):=t3;k_extra "c";k_extra "n";intro fL A' a1 a2 a3;have hh':A'.handled=none:=a1.trans hh;have hu':A'.units<8000:=by exact(Nq 0x7d032108f00b04490000001af4c8029) hu a3
 repeat ((fail_if_success (with_reducible show Exs _ _ _ (Stmt.While _ _ _ _::_) _ _ _ _));k_extra "m")
 k_extra "m";refine Ex.while (fun n ρ σ1=>∃L':List (Str×Int),n=L'.length/\left11 x.st L'=left11 x.st f.called/\L'.length<=60/\W12 σ1 { x with frames:={ f with called:=L' }::fr } { q with fs:=b::bs } hs rest/\ρ.get "_law_own" = some (.ref q.o)/\ρ.get "_law_frame" = some (.ref b.f)) ?_ f.called.length ⟨f.called,rfl,rfl,z5,S,by k_extra "a",by k_extra "a"⟩;k_extra "A";intro n ρ σ1;refine ZQ ?_;k_extra "r";intro L' en eL z1 S1 r1 r2;obtain⟨u1,u2,u3⟩:=S1.top;dsimp only at u1 u2 u3;have fo1:=S1.fo
 cases L' with
 | nil=>
  obtain rfl:=hE (eL.symm.trans rfl);have ff:=S1.ff;have lz:=S.len;have ff:σ1 q.fr=some (.list ((bs.map fun f=>V.ref f.f).reverse++[V.ref b.f])):=by rw[ff,map_cons,reverse_cons]
  have lz2:bs.length<=9000:=by
   have lz:(b::bs).length=(f::fr).length:=lz;rw[length_cons,length_cons]at lz;exact(Nq 0x4651908038058380d8490000002328c8009) z6 lz
  have S2:=S1.popF
  repeat ((fail_if_success (with_reducible show X1 _ _ (Value.builtin "list.pop") _ _ _ _));k_extra "m")
  k_extra "m";have u1':(σ1.upd q.fr (.list ((bs.map fun f=>V.ref f.f).reverse))) b.f=_:=X0.miss (fun e=>by rw[e,ff]at u1;cases u1) u1;generalize X0.upd σ1 q.fr _=σ2 at S2 u1' ⊢;have fo2:=S2.fo;have fg2:=S2.fg;k_extra "M";have S3:=S2.sg (.fin f.num);simp only[Row.v]at S3;exact h _ _ (by rfl) S3
 | cons e L2=>
  have lz:L2.length<=60:=by simp at z1;exact Y7U z1
  k_extra "M";refine X1.pop_at (j:=0) u2 (by decide) (by rw[seqIndex_of (by(first|lia|omega)) (by simp<;>(first|lia|omega))];rfl) rfl (by rw[length_map,sizeLine_eq];(first|lia|omega)) ?_;rw[show(List.map pr11 (e::L2)).eraseIdx 0=L2.map pr11 from rfl];have S2:=S1.sc L2;dsimp only at S2;generalize X0.upd σ1 b.c _=σ2 at S2 ⊢;obtain⟨v1,v2,v3⟩:=S2.top;dsimp only at v1 v2 v3;have fo2:=S2.fo;have fs2:=S2.fs;simp only[pr11];k_extra "M";refine X1.sdget fs2 hS ?_;rw[Z1j];k_extra "M";refine X4.eqOptI (by exact Y9k hu') ?_;k_extra "M";rw[Z5H]at eL
  cases c:ok11 x.st e with
  | false=>
   rw[c,if_neg (by simp)]at eL;have c':(getS x.st e.1==some e.2)=false:=c;refine Br.f c' ?_;k_extra "M";exact⟨L2.length,by rw[en];simp,L2,rfl,eL,lz,S2,by k_extra "a",by k_extra "a"⟩
  | true=>
   rw[c,if_pos rfl]at eL;have c':(getS x.st e.1==some e.2)=true:=c;obtain⟨p,hp,en2,rfl⟩:=hC e L2 eL.symm;obtain⟨l,el,hl⟩:=hD p hp;have ha:=Z3K nd hp;rw[en2]at ha;have d30:=hd30 p hp;refine Br.t c' ?_;have fg2:=S2.fg;k_extra "M";have S3:=S2.sg (.call f.num p.1.name);simp only[Row.v,en2]at S3;generalize X0.upd σ2 q.lg _=σ3 at S3 ⊢;have fo3:=S3.fo;k_extra "M";refine X5.sd S3.fa ha ?_;have fl3:σ3 l=some (.list (p.1.ds.map Deed.v)):=S3.led.at_ _ (mem_append_right _ hl);simp only[Hn.tv,el];k_extra "M";intro nl hnl;have M:=S3.led.new (.list (p.1.ds.map Deed.v)) hnl;have S4:=S3.grow (X6.rfl'.fresh (o:=.list (p.1.ds.map Deed.v)) hnl);generalize X0.upd σ3 nl _=σ4 at M S4 ⊢;have w1:=(W12.top (x:={ x with log:=x.log++[.call f.num e.1] }) (q:=q) S4).1;dsimp only at w1;k_extra "M";refine Xb.sd w1 (by simp[sizeLine_eq]) ?_;have es:sput [(ofString "number",V.int f.num),(ofString "called",.ref b.c),(ofString "deeds",.ref b.e)] (ofString "deeds") (.ref nl)=[(ofString "number",V.int f.num),(ofString "called",.ref b.c),(ofString "deeds",.ref nl)]:=by k_extra "k"
   rw[es];have S5:=W12.nd (x:={ x with log:=x.log++[.call f.num e.1] }) (q:=q) S4 M;dsimp only at S5;generalize X0.upd σ4 b.f _=σ5 at S5 ⊢;have fo5:=S5.fo;have fs5:=S5.fs;k_extra "M";refine X5.sd S5.fa ha ?_;simp only[Hn.tv];k_extra "M";unfold Z1J at h
   cases ho:p.1.once with
   | true=>
    rw[ho,if_pos rfl]at h;refine Br.t rfl ?_;k_extra "M";refine X1.sdpop (y:=.int e.2) fs5 (by rw[Z1V,sizeLine_eq];show x.st.length<=_;exact Y6I z4) (by rw[Z1j];show Option.map _ (getS x.st e.1)=_;rw[eq_of_beq c'];rfl) ?_;rw[Z4q];have S6:=S5.ss (Zu x.st e.1);rw[<-en2]at S6 ⊢;k_extra "M";exact h _ _ (by rfl) S6
   | false=>
    rw[ho,if_neg (by simp)]at h;rw[<-en2]at S5;refine Br.f rfl ?_;k_extra "M";exact h _ _ (by rfl) S5
theorem Z5I{x:O12}{q:A12}{hs:List (Hn×V)}{rest:lO}{b:B12}{bs:List B12}{f:F12}{fr:List F12}{d:Deed}{ds:List Deed}{Q:pV}(hK:C.K=KL C.w.params)(hS:Zk C)(hr:A.depth+2<recursionLimit)(hh:A.handled=none)(hu:A.units<5900)(S:W12 σ { x with frames:=f::fr } { q with fs:=b::bs } hs rest)(z1:x.events.length<=9000)(z2:x.log.length<=9000)(z3:x.line.length<=9000)(z4:x.st.length<=1000)(hlt:∀t∈x.line,0<=t.2.2/\t.2.2<x.events.length)(hd:f.deeds=d::ds)(hdl:f.deeds.length<=30)(h:∀q' σ',q'.o=q.o->W12 σ' (O12.deed { x with frames:={ f with deeds:=ds }::fr } f.num d) q' hs rest->Q .none σ'):X1 C A (.ref 395) [.ref q.o,.ref b.f] σ Q X:=by
 revert C A σ X x q hs rest b bs f fr d ds Q;k_extra "l";intro C A σ X x q hs rest b bs f fr d ds Q hK hS hr hh hu S z1 z2 z3 z4 hlt hd hdl h
 have hr0:A.depth<recursionLimit:=by exact Y6M hr
 obtain⟨t1,t2,t3⟩:=S.top;rw[hd]at t3;rw[hd]at hdl;k_extra "c";k_extra "n";intro fL A' a1 a2 a3;have hh':A'.handled=none:=a1.trans hh;have hr1:A'.depth+1<recursionLimit:=by exact Y6N hr a2
 have hu':A'.units<7000:=by exact(Nq 0x6d632108f00b0449000000170cc8029) hu a3
 k_extra "M";refine X1.pop_at (j:=0) t3 (by decide) (by rw[seqIndex_of (by(first|lia|omega)) (by simp<;>(first|lia|omega))];rfl) rfl (by rw[length_map,sizeLine_eq];(first|lia|omega)) ?_;rw[show(List.map Deed.v (d::ds)).eraseIdx 0=ds.map Deed.v from rfl];have S1:=S.sd ds;generalize X0.upd σ b.e _=σ1 at S1 ⊢;k_extra "M";refine Z6i hK hS hr1 hh' hu' S1 z1 z2 z3 z4 hlt ?_;k_extra "n";intro q' σ2 eq S2;k_extra "M";exact h q' σ2 eq S2
theorem Z6j:∀{a b:T3}(h1:tlt a b=false)(h2:tlt b a=false),a=b:=by
 k_extra "n";intro a b h1 h2;rw[ZR]at h1 h2;rcases h1 with z|⟨z,w⟩
 ·rcases h2 with y|⟨y,v⟩<;>(first|lia|omega)
 ·rcases h2 with y|⟨y,v⟩
  ·exact Y9K z y
  ·exact Prod.ext y (Z1r w v)
theorem Z6k{x x':O12}{q:A12}{hs:List (Hn×V)}{rest:lO}{Q:pV}(hK:C.K=KL C.w.params)(hS:Zk C)(hr:A.depth+3<recursionLimit)(hh:A.handled=none)(hu:A.units<4900)(nd:(hs.map (fun x=>x.1.name)).Nodup)(hD:∀p∈hs,∃l,p.2=.ref l/\(l,O.list (p.1.ds.map Deed.v))∈rest)(hd30:∀p∈hs,p.1.ds.length<=30)(hok:∀p∈hs,PyData.strOk p.1.hears=true)(h40:hs.length<=40)(S:W12 σ x q hs rest)(M:Sm12 (hs.map (fun x=>x.1)) x)(hO:Ow12 (hs.map (fun x=>x.1)) x x')(h:∀q' σ',q'.o=q.o->W12 σ' x' q' hs rest->Q .none σ'):X1 C A (.ref 402) [.ref q.o] σ Q X:=by
 revert C A σ X x x' q hs rest Q;k_extra "t";intro C A σ X x x' q hs rest Q hK hS hr hh hu nd hD hd30 hok h40 S M hO h
 have hr0:A.depth<recursionLimit:=by exact Y6Z hr
 have fo:=S.fo;have z1:=M.ev;have z2:=M.lg;have z3:=M.fr;have z5:=M.li;have sub:∀n∈x.st.map (fun x=>x.1),n∈hs.map (fun x=>x.1.name):=fun m hm=>by have:=M.sub m hm;rw[map_map]at this;exact this
 have z4:x.st.length<=1000:=by
  have:=Z1H M.nd M.sub;rw[length_map,length_map,length_map]at this;exact(Nq 0x1f46420004090000000028c8009) h40 this
 k_extra "f";k_extra "n";intro fL A' a1 a2 a3;have hh':A'.handled=none:=a1.trans hh;have hr1:A'.depth+2<recursionLimit:=by exact Y71 hr a2
 have hr2:A'.depth<recursionLimit:=by exact Y6M hr1
 have hu':A'.units<5900:=by exact(Nq 0x5c332108f00b04490000001324c8029) hu a3
 induction hO with
 | born n e hb h0 he=>
  simp only[dO12,hb,optV]at fo;k_extra "M";refine Xb.b12 (b:=none) S ?_;intro σ1 S1;k_extra "M";refine Z31 hK hS hr2 hh' (by exact Ya3 hu') S1 nd sub z4 hok z1 z2 z3 h0 he (M.word e (List.mem_of_getElem? he)) ?_;intro q' σ2 eq S2;k_extra "M";exact h q' σ2 eq S2
 | line t e hb hf hm hmin h0 he=>
  have ff:=S.ff;have fl:=S.fl;have el:q.fs=[]:=by have:=S.len;rw[hf]at this;exact List.length_eq_zero_iff.mp this
  rw[el]at ff;replace ff:σ q.fr=some (.list []):=ff;have lz:0<x.line.length:=List.length_pos_of_mem hm;simp only[dO12,hb,optV]at fo
  repeat ((fail_if_success (with_reducible show Xh _ _ (V.ref q.li) _ _ _));k_extra "m")
  refine Xh.list (.inl fl) (by rw[length_map];exact Ya4 z5) ?_;rw[show(!(x.line.map t3v).isEmpty)=true by cases e:x.line with|nil=>rw[e]at lz;cases lz|cons a l=>rfl];k_extra "M";refine X1.minT3 hh' (by simp only[cLine];exact(Np 0x9ab321c02c1000000170cc8029) hu') (.inl fl) lz ?_;k_extra "r";intro p hp hpm;obtain rfl:p=t:=Z6j (hmin p hp) (hpm t hm);k_extra "M";refine X1.removeT3 fl (by exact(Np 0xfa06401000000170cc8029) hu') z5 hm ?_;have S1:=S.sl' (x.line.erase p);generalize X0.upd σ q.li _=σ1 at S1 ⊢;have fo1:=S1.fo;simp only[dO12,hb,optV]at fo1;simp only[t3v];k_extra "M";refine Xb.t12 S1 ?_;k_extra "r";intro σ2 S2;k_extra "M";refine Z31 hK hS hr2 hh' (by exact Ya3 hu') S2 nd sub z4 hok z1 z2 z3 h0 he (M.word e (List.mem_of_getElem? he)) ?_;intro q' σ3 eq S3;k_extra "M";exact h q' σ3 eq S3
 | idle hb hf hl=>
  have ff:=S.ff;have fl:=S.fl;have el:q.fs=[]:=by have:=S.len;rw[hf]at this;exact List.length_eq_zero_iff.mp this
  rw[el]at ff;replace ff:σ q.fr=some (.list []):=ff;rw[hl]at fl;replace fl:σ q.li=some (.list []):=fl;simp only[dO12,hb,optV]at fo;k_extra "M";exact h q σ rfl S
 | deed f fr d ds hb hf hd=>
  obtain⟨b,bs,eq⟩:=S.split hf;obtain⟨tm,ev,lg,frs,li,bo,sd,st⟩:=x;obtain⟨qo,qe,qg,qf,ql,qs,qa,qfs⟩:=q;have hf:frs=_:=hf;have hb:bo=none:=hb;replace eq:qfs=b::bs:=congrArg A12.fs eq;subst hf hb eq;have ff:=S.ff;have ff:σ qf=some (.list ((bs.map fun f=>V.ref f.f).reverse++[V.ref b.f])):=by rw[ff,map_cons,reverse_cons]
  have lz:=S.len;have dl:=(M.dl f (.head _)).1;simp only[dO12,optV]at fo;k_extra "M";refine Z5I hK hS hr1 hh' hu' (x:=⟨tm,ev,lg,f::fr,li,none,sd,st⟩) (q:=⟨qo,qe,qg,qf,ql,qs,qa,b::bs⟩) S z1 z2 z5 z4 M.lt hd dl ?_;intro q' σ2 eq S2;k_extra "M";exact h q' σ2 eq S2
 | call f fr hn k L2 hb hf hd hl hm hq=>
  obtain⟨b,bs,eq⟩:=S.split hf;obtain⟨tm,ev,lg,frs,li,bo,sd,st⟩:=x;obtain⟨qo,qe,qg,qf,ql,qs,qa,qfs⟩:=q;have hf:frs=_:=hf;have hb:bo=none:=hb;replace eq:qfs=b::bs:=congrArg A12.fs eq;subst hf hb eq;have ff:=S.ff;have ff:σ qf=some (.list ((bs.map fun f=>V.ref f.f).reverse++[V.ref b.f])):=by rw[ff,map_cons,reverse_cons]
  have lz:=S.len;obtain⟨p,hp,rfl⟩:=List.mem_map.mp hm;simp only[dO12,optV]at fo;k_extra "M";refine Z33 hK hS (by exact Y6Y hr1) hh' (by exact Ya7 hu') nd hD hd30 (x':=⟨tm,ev,lg++[.call f.num p.1.name],{ f with called:=L2,deeds:=p.1.ds }::fr,li,none,sd,Z1J st p.1⟩) (x:=⟨tm,ev,lg,f::fr,li,none,sd,st⟩) (q:=⟨qo,qe,qg,qf,ql,qs,qa,b::bs⟩) S z2 z4 (M.cl f (.head _)) (by simp at z3;exact Y7f z3) hd (fun e L3 e1=>?_) (fun e1=>?_) ?_
  ·rw[show left11 st f.called=_ from hl]at e1;obtain⟨rfl,rfl⟩:=List.cons.inj e1;exact⟨p,hp,rfl,rfl⟩
  ·rw[show left11 st f.called=_ from hl]at e1;cases e1
  intro q' σ2 eq S2;k_extra "M";exact h q' σ2 eq S2
 | fin f fr hb hf hd hl=>
  obtain⟨b,bs,eq⟩:=S.split hf;obtain⟨tm,ev,lg,frs,li,bo,sd,st⟩:=x;obtain⟨qo,qe,qg,qf,ql,qs,qa,qfs⟩:=q;have hf:frs=_:=hf;have hb:bo=none:=hb;replace eq:qfs=b::bs:=congrArg A12.fs eq;subst hf hb eq;have ff:=S.ff;have ff:σ qf=some (.list ((bs.map fun f=>V.ref f.f).reverse++[V.ref b.f])):=by rw[ff,map_cons,reverse_cons]
  have lz:=S.len;simp only[dO12,optV]at fo;k_extra "M";refine Z33 hK hS (by exact Y6Y hr1) hh' (by exact Ya7 hu') nd hD hd30 (x':=⟨tm,ev,lg++[.fin f.num],fr,li,none,sd,st⟩) (x:=⟨tm,ev,lg,f::fr,li,none,sd,st⟩) (q:=⟨qo,qe,qg,qf,ql,qs,qa,b::bs⟩) S z2 z4 (M.cl f (.head _)) (by simp at z3;exact Y7f z3) hd (fun e L3 e1=>?_) (fun e1=>rfl) ?_
  ·rw[show left11 st f.called=_ from hl]at e1;cases e1
  intro q' σ2 eq S2;k_extra "M";exact h q' σ2 eq S2
noncomputable def all12(t:Int)(w n:Str):List Deed:=[.now w,.soon w,.wait t w,.join n,.wait t w,.cancel w,.join n,.leave n,.hush]
theorem Z6l{nm:Nat->Str}{c i:Nat}{t:Int}{w:Str}(N:NmOk nm c)(hi:i<c)(w1:isW w=true)(w2:PyData.strOk w=true)(h0:0<=t)(h1:t<=1000000000):∀d∈all12 t w (nm i),DG nm c d:=by
 unfold all12;simp only[List.forall_mem_cons];exact⟨.now w1 w2,.soon w1 w2,.wait h0 h1 w1 w2,.join N hi,.wait h0 h1 w1 w2,.cancel w1 w2,.join N hi,.leave N hi,.hush,fun u z=>by cases z⟩
theorem nmOk(c:Nat)(hc:c<=40):NmOk (nameN c) c:=⟨fun i hi=>Z5v c i (by exact Y97 hc hi),fun i hi=>Z6b c i (by exact Y97 hc hi),fun i hi j hj=>Z5u (by exact Y98 hc hi) (by exact Y98 hc hj)⟩
theorem Z4L{cell k b:Int}{c:Nat}{Q:pV}(hK:C.K=KL C.w.params)(hr:A.depth+1<recursionLimit)(hh:A.handled=none)(h1:1<=c)(hc:c<=40)(h:∀d σ',X6 σ σ'->DG (nameN c) c d->Q (Deed.v d) σ'):X1 C A (.ref 359) [.int cell,.int k,.int b,.int (c:Int)] σ Q X:=by
 revert C A σ X cell k b c Q;k_extra "F";intro C A σ X cell k b c Q hK hr hh h1 hc h
 have hr0:A.depth<recursionLimit:=by exact Y37 hr
 refine Z1C ?_ (show ∃f,f=nameN c from⟨_,rfl⟩);k_extra "r";intro nmc en;have N:=nmOk c hc;rw[<-en]at h N;k_extra "Y";k_extra "n";intro L A' a1 a2 a3;have hh':A'.handled=none:=a1.trans hh;have hr':A'.depth<recursionLimit:=by exact Y6L hr a2
 k_extra "M";refine Ze hK hr' hh' (by(first|lia|omega)) ?_;k_extra "n";intro r1 σ1 g1 r10 r11;k_extra "M";refine Z2e hK hr' hh' ?_;k_extra "n";intro w σ2 g2 w1 w2 w3;k_extra "M";refine Ze hK hr' hh' (by exact(Np 0x1c060800e009) h1) ?_;intro r2 σ3 g3 r20 r21;refine Z1C ?_ (show ∃i:Nat,r2=i from⟨r2.toNat,by exact Y84 r20⟩);intro i ei;subst ei;have hi:i<c:=by exact Y77 r21
 k_extra "M";refine Z4k hK hr' hh' (by exact Y97 hc hi) (by exact Y99 hc) ?_;rw[<-en];have hall:∀t:Int,0<=t->t<=1000000000->∀d∈all12 t w (nmc i),DG nmc c d:=fun t t0 t1=>Z6l N hi w1 w2 t0 t1;clear en;generalize nmc i=nm at hall ⊢;have g4:=(g1.trans g2).trans g3;clear g1 g2 g3 N;k_extra "M";refine Ze hK hr' hh' (by(first|lia|omega)) ?_;intro tk σ4 g5 t0 t1
 repeat ((fail_if_success (with_reducible show Exs _ _ _ (Stmt.If _ _ _ _::_) _ _ _ _));k_extra "m")
 with_reducible refine Exs.cutJ (fun ρ' σ'=>∃t:Int,0<=t/\t<=1000000000/\X6 σ σ'/\ρ'.get "_law_ticks" = some (.int t)/\ρ'.get "_law_cell" = some (.int cell)/\ρ'.get "_law_k" = some (.int k)/\ρ'.get "_law_word" = some (.str w)/\ρ'.get "_law_name" = some (.str nm)) ?_ ?_
 ·k_extra "r";intro J hN _;k_extra "M";refine Ze hK hr' hh' (by(first|lia|omega)) ?_;intro r σ5 g6 q0 q1;have g7:=(g4.trans g5).trans g6;k_extra "M"
  by_cases c1:r=0
  ·refine Br.t (by simpa using c1) ?_;have m0:0<=cell.fmod 1000000001:=Int.fmod_nonneg_of_pos _ (by(first|lia|omega));have m1:cell.fmod 1000000001<1000000001:=Int.fmod_lt_of_pos _ (by(first|lia|omega));k_extra "M";exact hN _ _ ⟨cell.fmod 1000000001,m0,by exact(Jp 0x1dcd65006403003b9aca01c8089) m1,g7,by k_extra "a",by k_extra "a",by k_extra "a",by k_extra "a",by k_extra "a"⟩
  ·refine Br.f (by simpa using c1) ?_;k_extra "M";exact hN _ _ ⟨tk,t0,by exact(Jp 0x3b9aca00c8064c0089) t1,g7,by k_extra "a",by k_extra "a",by k_extra "a",by k_extra "a",by k_extra "a"⟩
 intro ρ2 σ5;refine Z6W ?_;intro t b0 b1 g7 q1 q2 q3 q4 q5;replace hall:=hall t b0 b1;clear g4 g5;k_extra "M";intro x hx;k_extra "M";intro y hy;k_extra "M";refine X9.cat (xs:=(all12 t w nm).take 5 |>.map Deed.v) (ys:=(all12 t w nm).drop 5 |>.map Deed.v) (.inl (X0.at_fresh hy X0.hit)) (.inl X0.hit) (show 9<=sizeLine by decide) ?_;intro z hz;have g8:X6 σ (((σ5.upd x (.list ((all12 t w nm).take 5 |>.map Deed.v))).upd y (.list ((all12 t w nm).drop 5 |>.map Deed.v))).upd z (.list ((all12 t w nm).map Deed.v))):=((g7.fresh hx).fresh hy).fresh hz;have f8:(((σ5.upd x (.list ((all12 t w nm).take 5 |>.map Deed.v))).upd y (.list ((all12 t w nm).drop 5 |>.map Deed.v))).upd z (.list ((all12 t w nm).map Deed.v))) z=some (.list ((all12 t w nm).map Deed.v)):=X0.hit;show Exs _ _ _ _ _ (((σ5.upd x (.list ((all12 t w nm).take 5 |>.map Deed.v))).upd y (.list ((all12 t w nm).drop 5 |>.map Deed.v))).upd z (.list ((all12 t w nm).map Deed.v))) _ _;have l9:(all12 t w nm).length=9:=rfl;generalize all12 t w nm=ds at hall g8 f8 l9 ⊢;generalize X0.upd _ z _=σ6 at g8 f8 ⊢;k_extra "M";refine Ze hK hr' hh' (by(first|lia|omega)) ?_;intro r3 σ7 g9 r30 r31;have hx3:r3.toNat<ds.length:=by exact Y86 l9 r31
 refine X5.list (y:=Deed.v ds[r3.toNat]) (.inl (g9 _ _ f8)) r30 (by exact Y87 r31) (by rw[List.getElem?_map,List.getElem?_eq_getElem hx3];rfl) ?_;k_extra "M";exact h _ _ (g8.trans g9) (hall _ (List.getElem_mem hx3))
noncomputable def adr:V->Addr
 | .ref l=>l
 | _=>0
noncomputable def dsL(hs:List (Hn×V)):lO:=hs.map fun p=>(adr p.2,.list (p.1.ds.map Deed.v))
theorem er0(n:Nat):Zv 0 (n:Int)=(List.range' 0 n).map fun(i:Nat)=>V.int (i:Int):=by
 unfold Zv;rw[List.range_eq_range'];simp
theorem Z2F{α:Type}{c i:Nat}{is:List Nat}{xs:List α}(e:i::is=List.range' xs.length (c-xs.length)):xs.length<c/\i=xs.length/\is=List.range' (xs.length+1) (c-(xs.length+1)):=by
 have hlt:xs.length<c:=by
  cases z:c-xs.length with
  | zero=>rw[z]at e;cases e
  | succ m=>exact Y5Q z
 rw[show c-xs.length=(c-(xs.length+1))+1 by exact(Nq 0x1c0700b06f6006e208029) hlt,List.range'_succ]at e;obtain⟨e1,e2⟩:=List.cons.inj e;exact⟨hlt,e1,e2⟩
theorem HG.mk2{nm:Nat->Str}{c i:Nat}{w:Str}{ds:List Deed}(h1:w=ofString "" \/isW w=true)(h2:PyData.strOk w=true)(h3:ds.length<=30)(h4:∀d∈ds,DG nm c d)(rk:Int)(o:Bool):HG nm c i ⟨nm i,rk,w,o,ds⟩:=⟨rfl,h1,h2,h3,h4⟩
theorem Z7m{l0:Addr}{cs:List Int}{b:Int}{Q:pV}{rest0:lO}(hK:C.K=KL C.w.params)(hr:A.depth+4<recursionLimit)(hh:A.handled=none)(hl0:Z3b C l0 (cs.map V.int))(hcs:cs.length<=1000)(M:Led σ rest0)(h:∀c hs fl σ',c<=40->hs.length=c->AtG (nameN c) σ' fl c hs->Led σ' ((fl,.list (hs.map fun p=>p.1.tv p.2))::(dsL hs++rest0))->X6 σ σ'->Q (.ref fl) σ'):X1 C A (.ref 364) [.ref l0,.int b] σ Q X:=by
 revert C A σ X l0 cs b Q rest0;k_extra "F";intro C A σ X l0 cs b Q rest0 hK hr hh hl0 hcs M h
 have hr0:A.depth<recursionLimit:=by exact Y78 hr
 k_extra "c";k_extra "n";intro L A' a1 a2 a3;have hh':A'.handled=none:=a1.trans hh;have hr1:A'.depth<recursionLimit:=by exact Y7d hr a2
 have b0:0<=b.fmod 5:=Int.fmod_nonneg_of_pos _ (by(first|lia|omega));have b1:b.fmod 5<5:=Int.fmod_lt_of_pos _ (by(first|lia|omega))
 repeat ((fail_if_success (with_reducible show Exs _ _ _ (Stmt.If _ _ _ _::_) _ _ _ _));k_extra "m")
 with_reducible refine Exs.cutJ (fun ρ' σ'=>∃c:Nat,1<=c/\c<=40/\σ'=σ/\ρ'.get "_law_count" = some (.int (c:Int))/\ρ'.get "_law_script" = some (.ref l0)/\ρ'.get "_law_base" = some (.int b)) ?_ ?_
 ·k_extra "r";intro J hN _;k_extra "M"
  by_cases c1:(b.fdiv 5).fmod 16=1
  ·refine Br.t (by simpa using c1) ?_;k_extra "M";exact hN _ _ ⟨40,by(first|lia|omega),by(first|lia|omega),rfl,by rw[show((40:Nat):Int)=40 from rfl];k_extra "a",by k_extra "a",by k_extra "a"⟩
  ·refine Br.f (by simpa using c1) ?_;k_extra "M";exact hN _ _ ⟨(1+b.fmod 5).toNat,by exact Y9b b0,by exact Y9C b1,rfl,by rw[Int.toNat_of_nonneg (by exact(Jp 0x7160606006069) b0)];k_extra "a",by k_extra "a",by k_extra "a"⟩
 k_extra "n";intro ρ1 σ';refine ZQ ?_;k_extra "r";intro c c1 c40 e q1 q2 q3;subst e;k_extra "M";intro fl hfl;have g0:X6 σ' (σ'.upd fl (.list [])):=X6.rfl'.fresh hfl;have f0:(σ'.upd fl (.list [])) fl=some (.list []):=X0.hit;have M00:=M.new (.list []) hfl;generalize X0.upd σ' fl _=σ0 at g0 f0 M00 ⊢;k_extra "M";refine⟨_,_,ItV.rng hh' (by(first|lia|omega)) (by(first|lia|omega)) (by exact Y8a) (by exact Y9d c40),?_⟩;rw[er0];refine Xi.invJ (fun(i:Nat)=>V.int (i:Int)) (fun is ρ σ1=>∃hs:List (Hn×V),is=List.range' hs.length (c - hs.length)/\hs.length<=c/\X6 σ' σ1/\AtG (nameN c) σ1 fl c hs/\Led σ1 ((fl,.list (hs.map fun p=>p.1.tv p.2))::(dsL hs++rest0))/\ρ.get "_law_script" = some (.ref l0)/\ρ.get "_law_count" = some (.int (c:Int))/\ρ.get "_law_found" = some (.ref fl)/\ρ.get "_law_base" = some (.int b)) ?_ ?_ _ _ _ ⟨[],by simp,by simp,g0,(fun i h=>absurd h (Nat.not_lt_zero i)),M00,by k_extra "a",by k_extra "a",by k_extra "a",by k_extra "a"⟩
 ·intro J i is hN _ _ ρ σ1;refine Z2p ?_;intro hs e hlen g1 At M1 r1 r2 r3 r4;have f1:=M1.get 0 rfl;obtain⟨hlt,rfl,rfl⟩:=Z2F e;clear e;k_extra "M";have e3:(1:Int)+(hs.length:Int)=((1+hs.length:Nat):Int):=by exact(Np 0x38b701c0e2c5)
  rw[e3];refine Z5r hK hr1 hh' (.inr hl0) hcs (by exact(Nq 0xfa3210e2c0004290000000028c8009) c40 hlt) ?_;generalize cs.getD (1+hs.length) 0=cell0;k_extra "M";generalize cell0+11*(hs.length:Int)=cell;refine Ze hK hr1 hh' (by(first|lia|omega)) ?_;intro m σ2 g2 m0 m5
  repeat ((fail_if_success (with_reducible show Exs _ _ _ (Stmt.If _ _ _ _::_) _ _ _ _));k_extra "m")
  with_reducible refine Exs.cutJ (fun ρ' σ'=>∃m:Nat,m<=30/\X6 σ1 σ'/\ρ'.get "_law_size" = some (.int (m:Int))/\ρ'.get "_law_cell" = some (.int cell)/\ρ'.get "_law_k" = some (.int (hs.length:Int))/\ρ'.get "_law_script" = some (.ref l0)/\ρ'.get "_law_count" = some (.int (c:Int))/\ρ'.get "_law_found" = some (.ref fl)/\ρ'.get "_law_base" = some (.int b)) ?_ ?_
  ·intro J2 hN2 _;k_extra "M";refine Ze hK hr1 hh' (by(first|lia|omega)) ?_;intro r σ3 g3 p0 p1;k_extra "M"
   by_cases c2:r=0
   ·refine Br.t (by simpa using c2) ?_;k_extra "M";exact hN2 _ _ ⟨30,by(first|lia|omega),g2.trans g3,by rw[show((30:Nat):Int)=30 from rfl];k_extra "a",by k_extra "a",by k_extra "a",by k_extra "a",by k_extra "a",by k_extra "a",by k_extra "a"⟩
   ·refine Br.f (by simpa using c2) ?_;k_extra "M";exact hN2 _ _ ⟨m.toNat,by exact Y9f m5,g2.trans g3,by rw[Int.toNat_of_nonneg m0];k_extra "a",by k_extra "a",by k_extra "a",by k_extra "a",by k_extra "a",by k_extra "a",by k_extra "a"⟩
  clear r1 r2 r3 r4 g2 m0 m5 m;intro ρ2 σ2;refine Z2p ?_;intro m m30 g2 r1 r5 r6 r2 r3 r4 r7
  repeat ((fail_if_success (with_reducible show Exs _ _ _ (Stmt.If _ _ _ _::_) _ _ _ _));k_extra "m")
  refine Ze hK hr1 hh' (by(first|lia|omega)) ?_;intro rk0 σ20 g20 _ _;replace g2:=g2.trans g20
  repeat ((fail_if_success (with_reducible show Exs _ _ _ (Stmt.If _ _ _ _::_) _ _ _ _));k_extra "m")
  with_reducible refine Exs.cutJ (fun ρ' σ'=>∃rk:Int,X6 σ1 σ'/\ρ'.get "_law_rank" = some (.int rk)/\ρ'.get "_law_size" = some (.int (m:Int))/\ρ'.get "_law_cell" = some (.int cell)/\ρ'.get "_law_k" = some (.int (hs.length:Int))/\ρ'.get "_law_script" = some (.ref l0)/\ρ'.get "_law_count" = some (.int (c:Int))/\ρ'.get "_law_found" = some (.ref fl)/\ρ'.get "_law_base" = some (.int b)) ?_ ?_
  ·intro J2 hN2 _;k_extra "M";refine Ze hK hr1 hh' (by(first|lia|omega)) ?_;intro r σ3 g3 p0 p1;k_extra "M"
   by_cases c2:r=0
   ·refine Br.t (by simpa using c2) ?_;k_extra "M";exact hN2 _ _ ⟨cell,g2.trans g3,by k_extra "a",by k_extra "a",by k_extra "a",by k_extra "a",by k_extra "a",by k_extra "a",by k_extra "a",by k_extra "a"⟩
   ·refine Br.f (by simpa using c2) ?_;k_extra "M";exact hN2 _ _ ⟨rk0-1,g2.trans g3,by k_extra "a",by k_extra "a",by k_extra "a",by k_extra "a",by k_extra "a",by k_extra "a",by k_extra "a",by k_extra "a"⟩
  clear r1 r2 r3 r4 r5 r6 r7 g2;intro ρ2' σ2';refine Z2p ?_;intro rk g2 r8 r1 r5 r6 r2 r3 r4 r7
  repeat ((fail_if_success (with_reducible show Exs _ _ _ (Stmt.If _ _ _ _::_) _ _ _ _));k_extra "m")
  with_reducible refine Exs.cutJ (fun ρ' σ'=>∃w:Str,((w=ofString "" \/isW w=true)/\PyData.strOk w=true)/\X6 σ1 σ'/\ρ'.get "_law_hears" = some (.str w)/\ρ'.get "_law_rank" = some (.int rk)/\ρ'.get "_law_size" = some (.int (m:Int))/\ρ'.get "_law_cell" = some (.int cell)/\ρ'.get "_law_k" = some (.int (hs.length:Int))/\ρ'.get "_law_script" = some (.ref l0)/\ρ'.get "_law_count" = some (.int (c:Int))/\ρ'.get "_law_found" = some (.ref fl)/\ρ'.get "_law_base" = some (.int b)) ?_ ?_
  ·intro J2 hN2 _;k_extra "M";refine Ze hK hr1 hh' (by(first|lia|omega)) ?_;intro r σ3 g3 p0 p1;k_extra "M"
   by_cases c2:0<r
   ·refine Br.t (by simpa using c2) ?_;k_extra "M";refine Ze hK hr1 hh' (by(first|lia|omega)) ?_;intro r' σ4 g4 _ _;k_extra "M";refine Z2e hK hr1 hh' ?_;intro w σ5 g5 w1 w2 w3;k_extra "M";exact hN2 _ _ ⟨w,⟨.inr w1,w2⟩,((g2.trans g3).trans g4).trans g5,by k_extra "a",by k_extra "a",by k_extra "a",by k_extra "a",by k_extra "a",by k_extra "a",by k_extra "a",by k_extra "a",by k_extra "a"⟩
   ·refine Br.f (by simpa using c2) ?_;k_extra "M";exact hN2 _ _ ⟨ofString "",⟨.inl rfl,Z0 _⟩,g2.trans g3,by k_extra "a",by k_extra "a",by k_extra "a",by k_extra "a",by k_extra "a",by k_extra "a",by k_extra "a",by k_extra "a",by k_extra "a"⟩
  clear r1 r2 r3 r4 r5 r6 r7 r8 g2;intro ρ3 σ3;refine Z6A ?_;intro w w12 g2 r0 r8 r1 r5 r6 r2 r3 r4 r7;obtain⟨w1,w2⟩:=w12;k_extra "M";refine⟨_,_,ItV.rng hh' (by(first|lia|omega)) (by(first|lia|omega)) (by exact Y8a) (by exact Y9g m30),?_⟩;intro L';rw[er0];refine Xa.invJ (fun(i:Nat)=>V.int (i:Int)) (fun ys out σ4=>∃ds:List Deed,ys=List.range' ds.length (m - ds.length)/\ds.length<=m/\X6 σ1 σ4/\(∀d∈ds,DG (nameN c) c d)/\out=ds.map Deed.v) ?_ ?_ _ _ _ ⟨[],by simp,by simp,g2,(fun u z=>by cases z),rfl⟩
  ·intro J2 i ys out hJ σ4;refine Z52 ?_;intro ds e2 hl2 g3 hd eo;subst eo;obtain⟨hlt2,rfl,rfl⟩:=Z2F e2;clear e2;k_extra "M";refine Z4L hK (by exact(Nr 0x8702b0438058424849805829) hr a2) hh' c1 c40 ?_;intro d σ5 g4 hd4;refine hJ _ _ (by rw[length_map,sizeLine_eq];exact(Nq 0x1000000c84000853ec0009) m30 hlt2) trivial ⟨ds++[d],by simp,by simp;exact Y8d hlt2,g3.trans g4,fun d' hd'=>?_,by simp⟩;rcases List.mem_append.mp hd' with z|z
   ·exact hd d' z
   ·rw[List.mem_singleton.mp z];exact hd4
  intro out σ4;refine Z52 ?_;intro ds e2 hl2 g3 hd eo;subst eo;clear e2 g2;intro dl hdl;have M4:=(M1.grow g3).new (.list (ds.map Deed.v)) hdl;have g4:=g3.fresh (o:=.list (ds.map Deed.v)) hdl;have fd:(σ4.upd dl (.list (ds.map Deed.v))) dl=some (.list (ds.map Deed.v)):=X0.hit;have nd:dl≠fl:=fun q=>by rw[q,g3 _ _ f1]at hdl;cases hdl
  generalize X0.upd σ4 dl _=σ5 at g4 fd M4 ⊢;have f5:=g4 _ _ f1;k_extra "M";refine Z4k (c:=c) (k:=hs.length) hK hr1 hh' (by exact Y97 c40 hlt) (by exact Y99 c40) ?_;have H:∀rk o,HG (nameN c) c hs.length ⟨nameN c hs.length,rk,w,o,ds⟩:=HG.mk2 w1 w2 (by exact(Nq 0x1ec04000813ec0009) m30 hl2) hd;generalize nameN c hs.length=nm at H ⊢;k_extra "M";refine Ze hK hr1 hh' (by(first|lia|omega)) ?_;intro ro σ9 g9 o0 o4;have gA:=g4.trans g9;have f9:=gA _ _ f1;have M9:=M4.grow g9;k_extra "M";refine hN _ _ trivial ⟨hs++[(⟨nm,rk,w,ro==0,ds⟩,.ref dl)],by simp,by simp;exact Y8d hlt,(g1.trans gA).upd hfl,At.snoc (fun x o hx e=>X0.miss hx (gA _ _ e)) (H _ _) nd (X0.miss nd (g9 _ _ fd)),?_,by k_extra "a",by k_extra "a",by k_extra "a",by k_extra "a"⟩;have M10:=M9.set 1 (.list ((hs++[((⟨nm,rk,w,ro==0,ds⟩:Hn),V.ref dl)]).map fun p:Hn×V=>p.1.tv p.2)) rfl;have es:dsL (hs++[((⟨nm,rk,w,ro==0,ds⟩:Hn),V.ref dl)])++rest0=dsL hs++(dl,.list (ds.map Deed.v))::rest0:=by unfold dsL;rw[map_append,append_assoc];rfl
  rw[es];rw[map_append]at M10 ⊢;exact M10.perm (List.perm_middle (l₁:=(fl,_)::dsL hs))
 intro ρ σ1;refine Z2p ?_;intro hs e hlen g1 At M1 r1 r2 r3 r4;have hlc:hs.length=c:=by
  have:=congrArg List.length e;simp at this;exact(Nq 0x20100370604908009) hlen this
 k_extra "M";exact h c hs fl σ1 c40 hlc At M1 g1
noncomputable def Zr:V->Prop
 | .int _|.str _|.none|.tup _=>True
 | _=>False
theorem Z5J{y:V}{Q:pV}(hy:Zr y)(h:Q (.bool false) σ):X1 C A (.builtin "isinstance") [y,.typ "bool"] σ Q X:=by
 cases y with
 | int i=>exact Z1m (b:=false) (by k_extra "s") (by decide) (by rfl) h
 | str i=>exact Z1m (b:=false) (by k_extra "s") (by decide) (by rfl) h
 | none=>exact Z1m (b:=false) (by k_extra "s") (by decide) (by rfl) h
 | tup i=>exact Z1m (b:=false) (by k_extra "s") (by decide) (by rfl) h
 | _=>exact hy.elim
theorem Z4s{l:Addr}{tss:List (Str×List V)}{Q:pV}(hK:C.K=KL C.w.params)(hr:A.depth<recursionLimit)(hh:A.handled=none)(hl:σ l=some (.list (tss.map fun p=>V.tup (.str p.1::p.2))))(hz:tss.length<=9000)(hp:∀p∈tss,(∀v∈p.2,Zr v)/\p.2.length<=10)(h:∀σ',X6 σ σ'->Q (.bool true) σ'):X1 C A (.ref 407) [.ref l] σ Q X:=by
 revert C A σ X l tss Q;k_extra "B";intro C A σ X l tss Q hK hr hh hl hz hp h
 k_extra "f";intro fL A' a1 a2 a3;have hh':A'.handled=none:=a1.trans hh;k_extra "M";refine⟨_,_,ItV.list hh' (.inl hl),?_⟩;refine Xi.inv (fun p:Str×List V=>V.tup (.str p.1::p.2)) (fun rest ρ σ1=>(∀p∈rest,p∈tss)/\X6 σ σ1) ?_ ?_ _ _ _ ⟨fun p hp=>hp,X6.rfl'⟩
 ·rintro⟨k,vs⟩ rest ρ σ1 ⟨hm,g1⟩;obtain⟨hv,hvl⟩:=hp _ (hm _ (.head _));dsimp only at hv hvl;k_extra "M";refine⟨_,_,ItV.tup hh',fun L'=>?_⟩;refine Xa.pure (fun z=>true) (fun z=>.bool false) trivial _ _ ?_ ?_ (by simp[sizeLine_eq];(first|lia|omega)) ?_
  ·intro y hy Q hQ;k_extra "M";exact hQ
  ·intro y hy _ Q hQ;have hy':Zr y:=by
    rcases List.mem_cons.mp hy with rfl|hy
    ·trivial
    ·exact hv y hy
   k_extra "M";refine Z5J hy' ?_;k_extra "M";exact hQ
  intro c hc;have e:([]:List V)++List.map (fun z=>V.bool false) (List.filter (fun z=>true) (V.str k::vs))=((V.str k::vs).map fun z=>false).map V.bool:=by
   rw[nil_append,List.filter_eq_self.mpr (fun z z=>rfl),map_map];rfl
  rw[e];k_extra "M";refine X1.any hh' (.inl X0.hit) ?_;have e2:(((V.str k::vs).map fun z=>false).any id)=false:=by simp
  rw[e2];k_extra "M";exact⟨.inl (X0.at_fresh hc (g1 _ _ hl)),fun p hp=>hm p (.tail _ hp),g1.fresh hc⟩
 ·rintro ρ σ1 ⟨_,g1⟩;k_extra "M";exact h σ1 g1
noncomputable def rowK:Row->Str×List V
 | .send n=>(ofString "send",[.int n])
 | .beg n t=>(ofString "begin",[.int n,.int t])
 | .fin n=>(ofString "end",[.int n])
 | .call n h=>(ofString "call",[.int n,.str h])
 | .cancel n ns=>(ofString "cancel",[.int n,.tup (ns.map V.int)])
 | .join n h=>(ofString "join",[.int n,.str h])
 | .leave n h=>(ofString "leave",[.int n,.str h])
 | .hush n=>(ofString "hush",[.int n])
 | .make m n=>(ofString "make",[.int m,.int n])
theorem Z7n(r:Row):Row.v r=V.tup (.str (rowK r).1::(rowK r).2):=by cases r<;>rfl
theorem Z4M(r:Row):(∀v∈(rowK r).2,Zr v)/\(rowK r).2.length<=10:=by
 have h1:∀{a:V},Zr a->∀v∈[a],Zr v:=fun h v hv=>by rw[List.mem_singleton.mp hv];exact h
 have h2:∀{a b:V},Zr a->Zr b->∀v∈[a,b],Zr v:=fun h k v hv=>by
  rcases List.mem_cons.mp hv with rfl|hv
  ·exact h
  ·exact h1 k v hv
 cases r with
 | send n=>exact⟨h1 trivial,Nat.le_of_ble_eq_true rfl⟩
 | fin n=>exact⟨h1 trivial,Nat.le_of_ble_eq_true rfl⟩
 | hush n=>exact⟨h1 trivial,Nat.le_of_ble_eq_true rfl⟩
 | _=>exact⟨h2 trivial trivial,Nat.le_of_ble_eq_true rfl⟩
theorem Z4N(l:List Row):l.map Row.v=(l.map rowK).map fun p=>V.tup (.str p.1::p.2):=by
 rw[map_map];exact List.map_congr_left fun r z=>Z7n r
noncomputable def evK(e:Evt):Str×List V:=(e.word,[optV e.maker,.str e.road,.int e.due])
theorem Z5K(l:List Evt):l.map Evt.v=(l.map evK).map fun p=>V.tup (.str p.1::p.2):=by
 rw[map_map];rfl
theorem Z5L(e:Evt):(∀v∈(evK e).2,Zr v)/\(evK e).2.length<=10:=by
 refine⟨?_,by simp[evK]⟩
 cases e with
 | mk w m r d=>cases m<;>simp[evK,Zr,optV]
structure S12(ca:List Hn)(s:LS)(o:O12)(n:Nat):Prop where
 W:s.Wf ca
 R:R12 s o
 c:cl60 o
 Y:s.Lay
 n:s.log.length<=n
noncomputable def st12(ns:List Str):List (Str×Int):=ns.zipIdx.map fun p=>(p.1,(p.2:Int)+1)
noncomputable def o12(ns:List Str):O12:=⟨0,[],[],[],[],none,(ns.length:Int),st12 ns⟩
theorem Z34(ns:List Str):(st12 ns).map (fun x=>x.1)=ns:=by
 unfold st12;rw[map_map];show ns.zipIdx.map (fun x=>x.1)=ns;simp
theorem Z5M(ns:List Str)(n:Str):st12 (ns++[n])=st12 ns++[(n,(ns.length:Int)+1)]:=by
 unfold st12;rw[List.zipIdx_append,map_append];simp
theorem Z6m{ns:List Str}{n:Str}(h:n∉ns):(o12 ns).come n=o12 (ns++[n]):=by
 unfold O12.come;rw[if_neg (by show ¬n∈(st12 ns).map (fun x=>x.1);rw[Z34];exact h)];unfold o12;rw[Z5M,length_append,length_singleton];simp
theorem R12.new(ns:List Str):R12 (LS.new ns) (o12 ns):=by
 refine⟨rfl,Int.le_refl _,rfl,rfl,rfl,⟨Z34 ns,fun e he=>?_,.nil⟩,rfl,rfl,rfl,(fun u z=>by cases z),.nil,(fun u z=>by cases z)⟩;obtain⟨p,hp,rfl⟩:=List.mem_map.mp he;have:=List.snd_lt_of_mem_zipIdx hp;show(p.2:Int)+1<(ns.length:Int)+1;exact(Nq 0x380f2c1c039620301b0029) this
theorem LAt.toW{σ:X0}{a:LA}{fs:List FA}{ct1:List Hn}{s:LS}{q:A12}{x:O12}{hs:List (Hn×V)}{rest:lO}(L:LAt σ a fs ct1 s (fpO q x hs++rest))(hl:q.fs.length=x.frames.length):W12 σ x q hs (tabE::(fp a fs ct1 s++rest)):=
 ⟨L.led.perm (List.perm_append_comm_assoc (fpO q x hs) (tabE::fp a fs ct1 s) rest),hl⟩
theorem W12.toL{σ:X0}{a:LA}{fs:List FA}{ct1:List Hn}{s:LS}{q:A12}{x:O12}{hs:List (Hn×V)}{rest:lO}(S:W12 σ x q hs (tabE::(fp a fs ct1 s++rest)))(hl:fs.length=s.frames.length):LAt σ a fs ct1 s (fpO q x hs++rest):=
 ⟨S.led.perm (List.perm_append_comm_assoc (tabE::fp a fs ct1 s) (fpO q x hs) rest),hl⟩
theorem Z6n{hs:List (Hn×V)}{p:Hn×V}(h:p.1.name∉hs.map (fun x=>x.1.name)):sput (allV hs) p.1.name (p.1.tv p.2)=allV (hs++[p]):=by
 induction hs with
 | nil=>rfl
 | cons x hs ih=>
  rw[map_cons,List.mem_cons,not_or]at h;show sput ((x.1.name,x.1.tv x.2)::allV hs) _ _=_;unfold sput;rw[if_neg h.1,ih h.2];rfl
theorem Z7o(cs:List Int):Zs (cs.map V.int) (some 1) none=(cs.drop 1).map V.int:=by
 cases cs with
 | nil=>rfl
 | cons c cs=>
  rw[show(1:Int)=((1:Nat):Int) from rfl,Z3p _ _ (by simp)];rw[List.map_drop]
theorem c_law{l:Addr}{cs:List Int}(hK:C.K=KL C.w.params)(hS:Zk C)(hB:BMod C)(Cd:CodeHd C.h₀ 142 140)(hl:Z3b C l (cs.map V.int))(hn:cs.length<=63) :
  X1 C callerA (.ref 412) [.ref l] (X0.upd (fun u=>none) 140 (.tab ⟨85,29,85,58⟩ lamQ)) (fun v σ'=>v=.bool true/\∃o,σ' 140=some o/\∃pos' q',o=.tab pos' q') (fun u u=>False):=by
 revert C l cs;k_extra "A";intro C l cs hK hS hB Cd hl hn
 have E:LC C:=⟨hK,hB,Cd⟩;have hr0:callerA.depth<recursionLimit:=by decide
 have M0:Led (X0.upd (fun u=>none) 140 (.tab ⟨85,29,85,58⟩ lamQ)) [tabE]:=Led.nil.new (.tab ⟨85,29,85,58⟩ lamQ) rfl;generalize X0.upd (fun u=>none) 140 (.tab ⟨85,29,85,58⟩ lamQ)=σ at *;have hhc:callerA.handled=none:=rfl;k_extra "f";k_extra "n";intro fL A' a1 a2 a3;have hh':A'.handled=none:=a1.trans hhc;have hr':A'.depth+20<recursionLimit:=by rw[a2];decide
 have hr1:A'.depth<recursionLimit:=by exact(Nq 0x200869805829) hr'
 have hu:A'.units<4000:=by rw[a3];decide
 have hcs:cs.length<=1000:=by exact(Np 0x1f46400000000003fc8009) hn
 k_extra "M";refine Z5r (i:=0) hK hr1 hh' (.inr hl) hcs (by(first|lia|omega)) ?_;generalize cs.getD 0 0=b;k_extra "M";refine Z7m hK (by exact(Nq 0x1260160869805829) hr') hh' hl hcs M0 ?_;k_extra "J";intro c hs fl σ1 c40 hlc At M1 g1;have f1:=M1.get 0 rfl;have N:=nmOk c c40;have T:=At.told N hlc c40;have KC:=At.cast N hlc c40;have hokn:∀n∈hs.map (fun x=>x.1.name),PyData.strOk n=true:=fun n hn=>by
  rw[At.names]at hn;obtain⟨i,hi,rfl⟩:=List.mem_map.mp hn;exact N.ok i (by have:=List.mem_range.mp hi;exact Y5q hlc this)
 have hlenN:∀p∈hs,p.1.name.length<=1000:=fun p hp=>by
  have:=(T.good p hp).1;unfold isW at this;simp only[Bool.and_eq_true,decide_eq_true_eq]at this;exact Y9m this
 have hokh:∀p∈hs,PyData.strOk p.1.hears=true:=fun p hp=>by
  obtain⟨i,hi,H,_⟩:=At.mem hp;exact H.hok
 have hD:∀p∈hs,∃l,p.2=.ref l/\(l,O.list (p.1.ds.map Deed.v))∈dsL hs:=fun p hp=>by
  obtain⟨l,e1,e2⟩:=T.at_ p hp;refine⟨l,e1,?_⟩;have:(adr p.2,O.list (p.1.ds.map Deed.v))∈dsL hs:=List.mem_map.mpr ⟨p,hp,rfl⟩;rw[e1]at this;exact this
 have hd30:∀p∈hs,p.1.ds.length<=30:=fun p hp=>(T.good p hp).len;clear At N;have hlen2:hs.length<=40:=by exact(Nq 0x146420004490000000028c8009) c40 hlc
 k_extra "M";refine⟨_,_,ItV.list hh' (.inl f1),?_⟩;k_extra "r";intro L';refine Xa.invIf (fun p:Hn×V=>p.1.tv p.2) (fun ys out σ2=>∃(done:List (Hn×V)) (ns:List Str),done++ys=hs/\ns.Sublist (done.map (fun x=>x.1.name))/\out=ns.map V.str/\X6 σ1 σ2) ?_ ?_ _ _ _ ⟨[],[],rfl,.slnil,rfl,X6.rfl'⟩
 ·k_extra "J";intro p ys out σ2;refine Z54 ?_;k_extra "n";intro done ns e1 e2 e3 g2;have hp:p∈hs:=by rw[<-e1];simp
  have hln:=hlenN p hp;have hnl:ns.length<=40:=by
   have:=e2.length_le;rw[<-e1]at hlen2;simp at this hlen2;exact(Nr 0x28c800000000005190e0560d80908009) this hlen2
  subst e3;simp only[Hn.tv];k_extra "M";refine X1.abs ?_;k_extra "M";refine X1.len_str (by exact Y6F hln) ?_;k_extra "M";refine Ze hK hr1 hh' (by(first|lia|omega)) ?_;k_extra "n";intro r σ3 g3 r0 r4;k_extra "M";have f3:=g3 _ _ (g2 _ _ f1);have e4:(done++[p])++ys=hs:=by rw[<-e1];simp
  have e5:(done++[p]).map (fun x=>x.1.name)=done.map (fun x=>x.1.name)++[p.1.name]:=by simp
  by_cases c2:0<r
  ·refine Br.t (by simpa using c2) ?_;k_extra "M";exact⟨by rw[length_map,sizeLine_eq];exact Y9p hnl,.inl f3,done++[p],ns++[p.1.name],e4,by rw[e5];exact e2.append (.refl _),by simp,g2.trans g3⟩
  ·refine Br.f (by simpa using c2) ?_;exact⟨.inl f3,done++[p],ns,e4,by rw[e5];exact e2.trans (List.sublist_append_left _ _),rfl,g2.trans g3⟩
 k_extra "n";intro out σ2;refine Z54 ?_;k_extra "n";intro done ns e1 e2 e3 g2;rw[append_nil]at e1;subst e1 e3;intro nl hnl;have hsub:∀n∈ns,n∈done.map (fun x=>x.1.name):=fun n hn=>e2.subset hn;have hnd:ns.Nodup:=e2.nodup T.nd;have hnl40:ns.length<=40:=by
  have:=e2.length_le;simp at this;exact(Nq 0x146420004090000000028c8009) hlen2 this
 have T2:=(T.grow g2).grow (X6.rfl'.fresh (o:=.list (ns.map V.str)) hnl);have M2:=(M1.grow g2).new (.list (ns.map V.str)) hnl;generalize X0.upd σ2 nl _=σ3 at T2 M2 ⊢;clear f1 g1 g2 hlc M1 e2 hnl;have f2:σ3 nl=some (.list (ns.map V.str)):=M2.get 0 rfl;have f1':σ3 fl=some (.list (done.map fun p=>p.1.tv p.2)):=M2.get 1 rfl;k_extra "M";intro h1 hh1;have T3:=T2.grow (X6.rfl'.fresh (o:=.list (done.map fun p=>p.1.tv p.2)) hh1);have M3:=M2.grow (X6.rfl'.fresh (o:=.list (done.map fun p=>p.1.tv p.2)) hh1);have q1:(σ3.upd h1 (.list (done.map fun p=>p.1.tv p.2))) h1=some (.list (done.map fun p=>p.1.tv p.2)):=X0.hit;have q2:=X0.at_fresh (o:=.list (done.map fun p=>p.1.tv p.2)) hh1 f2;generalize X0.upd σ3 h1 _=σ4 at T3 M3 q1 q2 ⊢;k_extra "M";intro h2 hh2;have T4:=T3.grow (X6.rfl'.fresh (o:=.list (ns.map V.str)) hh2);have M4:=M3.grow (X6.rfl'.fresh (o:=.list (ns.map V.str)) hh2);have q3:(σ4.upd h2 (.list (ns.map V.str))) h2=some (.list (ns.map V.str)):=X0.hit;have q4:=X0.at_fresh (o:=.list (ns.map V.str)) hh2 q1;generalize X0.upd σ4 h2 _=σ5 at T4 M4 q3 q4 ⊢;clear T2 T3 M2 M3 q1 q2 f2 f1' hh1 hh2;k_extra "M";have PM:(tabE::((nl,O.list (ns.map V.str))::(fl,O.list (done.map fun p:Hn×V=>p.1.tv p.2))::dsL done)).Perm ((nl,O.list (ns.map V.str))::(fl,O.list (done.map fun p:Hn×V=>p.1.tv p.2))::(dsL done++[tabE])):=List.perm_append_comm (l₁:=[tabE]);refine Z7g hK hS (by exact(Nq 0x1360160869805829) hr') hh' (by exact(Np 0xd1664010000000fa0c8029) hu) T4 (.inl q4) q3 (by exact Y7F hnl40) hnd hsub hokn (M4.perm PM) ?_;intro A0 σ6 L0 G6 gz;have sub2:∀n∈ns,n∈(done.map (fun x=>x.1)).map (fun x=>x.name):=fun n hn=>by rw[map_map];exact hsub n hn
 have TN:=T4.nd;clear T T4 hlenN q3 q4 G6 M4;clear PM gz a1 a2 a3 hr0 hhc M0 c40
 as_aux_lemma=>
  revert hK hS hB Cd hl hn E hh' hr' hr1 hu hcs KC hokn hokh hD hd30 hlen2 hsub hnd hnl40 L0 sub2 TN
  revert C l cs fL A' b fl done ns nl A0 σ6
  k_extra "x";intro C l cs fL A' b fl done ns nl A0 σ6 hK hS hB Cd hl hn E hh' hr' hr1 hu hcs KC hokn hokh hD hd30 hlen2 hsub hnd hnl40 L0 sub2 TN;generalize hca:done.map (fun x=>x.1)=ct1 at KC L0 sub2;generalize hRW:tabE::(fp A0 [] ct1 (LS.new ns)++((nl,O.list (ns.map V.str))::(fl,O.list (done.map fun p=>p.1.tv p.2))::dsL done))=RW;have N0:Led σ6 RW:=by rw[<-hRW];exact L0.led
  have rnl:∀{l:lO} {τ:X0},Led τ (l++RW)->τ nl=some (.list (ns.map V.str)):=fun{l τ} N=>N.at_ (nl,_) (mem_append_right _ (by rw[<-hRW];exact .tail _ (mem_append_right _ (.head _))));have rfl2:∀{l:lO} {τ:X0},Led τ (l++RW)->τ fl=some (.list (done.map fun p=>p.1.tv p.2)):=fun{l τ} N=>N.at_ (fl,_) (mem_append_right _ (by rw[<-hRW];exact .tail _ (mem_append_right _ (.tail _ (.head _)))));k_extra "M";intro od hod;have N1:=N0.new (.sd []) hod;k_extra "M";intro o1 ho1;have N2:=N1.new (.list []) ho1;k_extra "M";intro o2 ho2;have N3:=N2.new (.list []) ho2;k_extra "M";intro o3 ho3;have N4:=N3.new (.list []) ho3;k_extra "M";intro o4 ho4;have N5:=N4.new (.list []) ho4;k_extra "M";refine⟨by k_extra "b",?_⟩;have es:List.foldl (fun e (p:Str×V)=>sput e p.1 p.2) [] [(ofString "time",V.int 0),(ofString "events",.ref o1),(ofString "log",.ref o2),(ofString "frames",.ref o3),(ofString "line",.ref o4),(ofString "born",.none)]=([("time",.int 0),("events",.ref o1),("log",.ref o2),("frames",.ref o3),("line",.ref o4),("born",.none)]:List (Str×V)):=by
   simp only[List.foldl_cons,List.foldl_nil]
   kernel_rfl
  rw[es];have N6:=N5.set 4 (.sd [("time",.int 0),("events",.ref o1),("log",.ref o2),("frames",.ref o3),("line",.ref o4),("born",.none)]) rfl;generalize X0.upd _ od _=σ7 at N6 ⊢;clear N0 N1 N2 N3 N4 N5 hod ho1 ho2 ho3 ho4;k_extra "M";refine Ev.dict0 ?_;intro o5 ho5;have N7:=N6.new (.sd []) ho5;generalize X0.upd σ7 o5 _=σ8 at N7 ⊢;k_extra "M";refine Ev.dict0 ?_;intro o6 ho6;have N8:=N7.new (.sd []) ho6;generalize X0.upd σ8 o6 _=σ9 at N8 ⊢;clear N6 N7;k_extra "M";refine Xb.sd (N8.get 6 rfl) (by simp[sizeLine_eq]) ?_;have e7:sput ([("time",.int 0),("events",.ref o1),("log",.ref o2),("frames",.ref o3),("line",.ref o4),("born",.none)]:List (Str×V)) (ofString "stood") (.int 0)=([("time",.int 0),("events",.ref o1),("log",.ref o2),("frames",.ref o3),("line",.ref o4),("born",.none),("stood",.int 0)]:List (Str×V)):=by k_extra "k"
  rw[e7];have N9:=N8.set 6 (.sd [("time",.int 0),("events",.ref o1),("log",.ref o2),("frames",.ref o3),("line",.ref o4),("born",.none),("stood",.int 0)]) rfl;generalize X0.upd σ9 od _=σ10 at N9 ⊢;clear N8;k_extra "M";refine Xb.sd (N9.get 6 rfl) (by simp[sizeLine_eq]) ?_;have e8:sput ([("time",.int 0),("events",.ref o1),("log",.ref o2),("frames",.ref o3),("line",.ref o4),("born",.none),("stood",.int 0)]:List (Str×V)) (ofString "stands") (.ref o5)=([("time",.int 0),("events",.ref o1),("log",.ref o2),("frames",.ref o3),("line",.ref o4),("born",.none),("stood",.int 0),("stands",.ref o5)]:List (Str×V)):=by k_extra "k"
  rw[e8];have N10:=N9.set 6 (.sd [("time",.int 0),("events",.ref o1),("log",.ref o2),("frames",.ref o3),("line",.ref o4),("born",.none),("stood",.int 0),("stands",.ref o5)]) rfl;generalize X0.upd σ10 od _=σ11 at N10 ⊢;clear N9;k_extra "M";refine Xb.sd (N10.get 6 rfl) (by simp[sizeLine_eq]) ?_;have e9:sput ([("time",.int 0),("events",.ref o1),("log",.ref o2),("frames",.ref o3),("line",.ref o4),("born",.none),("stood",.int 0),("stands",.ref o5)]:List (Str×V)) (ofString "all") (.ref o6)=([("time",.int 0),("events",.ref o1),("log",.ref o2),("frames",.ref o3),("line",.ref o4),("born",.none),("stood",.int 0),("stands",.ref o5),("all",.ref o6)]:List (Str×V)):=by k_extra "k"
  rw[e9];have N11:=N10.set 6 (.sd [("time",.int 0),("events",.ref o1),("log",.ref o2),("frames",.ref o3),("line",.ref o4),("born",.none),("stood",.int 0),("stands",.ref o5),("all",.ref o6)]) rfl;generalize X0.upd σ11 od _=σ12 at N11 ⊢;clear N10;have S0:W12 σ12 (o12 []) ⟨od,o1,o2,o3,o4,o5,o6,[]⟩ [] RW:=⟨N11.perm ((List.reverse_perm [(o6,O.sd []),(o5,O.sd []),(o4,O.list []),(o3,O.list []),(o2,O.list []),(o1,O.list []),(od,dO12 (o12 []) ⟨od,o1,o2,o3,o4,o5,o6,[]⟩)]).append_right RW),rfl⟩;clear N11 e7 e8 e9 es;generalize hq0:(⟨od,o1,o2,o3,o4,o5,o6,[]⟩:A12)=q0 at S0;have eo:q0.o=od:=by rw[<-hq0]
  k_extra "M";refine⟨_,_,ItV.list hh' (.inl (rfl2 S0.led)),?_⟩;refine Xi.invJ (fun p:Hn×V=>p.1.tv p.2) (fun ys ρ τ=>∃dn:List (Hn×V),dn++ys=done/\W12 τ (o12 []) q0 dn RW/\ρ.get "_law_own" = some (.ref q0.o)/\ρ.get "_law_loom" = some (.ref A0.lo)/\ρ.get "_law_names" = some (.ref nl)/\ρ.get "_law_script" = some (.ref l)/\ρ.get "_law_base" = some (.int b)) ?_ ?_ _ _ _ ⟨[],rfl,S0,by rw[eo];k_extra "a",by k_extra "a",by k_extra "a",by k_extra "a",by k_extra "a"⟩
  ·intro J p ys hN _ _ ρ τ;refine Z53 ?_;intro dn e1 S r1 r2 r3 r4 r5;have fo:=S.fo;have fa:=S.fa;have np:p.1.name∉dn.map (fun x=>x.1.name):=fun z=>by
    rw[<-e1,map_append]at TN;exact(List.nodup_append.mp TN).2.2 _ z _ (.head _) rfl
   have ld:dn.length<=40:=by have:=congrArg List.length e1;simp at this;exact Ya9 hlen2 this
   simp only[Hn.tv];k_extra "M";refine Xb.sd fa (by unfold allV;rw[length_map,sizeLine_eq];exact Y9p ld) ?_;rw[show V.tup [.str p.1.name,.int p.1.rank,.str p.1.hears,.bool p.1.once,p.2]=p.1.tv p.2 from rfl,Z6n np];have S1:W12 (τ.upd q0.al (.sd (allV (dn++[p])))) (o12 []) q0 (dn++[p]) RW:=⟨S.led.set 6 _ rfl,S.len⟩;k_extra "M";exact hN _ _ (.inl (rfl2 S1.led)) ⟨dn++[p],by rw[<-e1];simp,S1,by k_extra "a",by k_extra "a",by k_extra "a",by k_extra "a",by k_extra "a"⟩
  intro ρ1 τ1;refine Z53 ?_;intro dn e1 S1 r1 r2 r3 r4 r5;rw[append_nil]at e1;subst e1;clear S0;k_extra "M";refine⟨_,_,ItV.list hh' (.inl (rnl S1.led)),?_⟩;refine Xi.invJ V.str (fun ys ρ τ=>∃dm:List Str,dm++ys=ns/\W12 τ (o12 dm) q0 dn RW/\ρ.get "_law_own" = some (.ref q0.o)/\ρ.get "_law_loom" = some (.ref A0.lo)/\ρ.get "_law_script" = some (.ref l)/\ρ.get "_law_base" = some (.int b)) ?_ ?_ _ _ _ ⟨[],rfl,S1,by k_extra "a",by k_extra "a",by k_extra "a",by k_extra "a"⟩
  ·intro J n ys hN _ _ ρ τ;refine ZQ ?_;intro dm e1 S r1 r2 r4 r5;have nn:n∉dm:=fun z=>by
    rw[<-e1]at hnd;exact(List.nodup_append.mp hnd).2.2 _ z _ (.head _) rfl
   have ld:dm.length<=40:=by have:=congrArg List.length e1;simp at this;exact Ya9 hnl40 this
   k_extra "M";refine Z5F hK hS hr1 hh' S (by show(st12 dm).length<=_;unfold st12;rw[length_map,List.length_zipIdx];exact Y99 ld) ?_;intro τ2 S2;rw[Z6m nn]at S2;k_extra "M";exact hN _ _ (.inl (rnl S2.led)) ⟨dm++[n],by rw[<-e1];simp,S2,by k_extra "a",by k_extra "a",by k_extra "a",by k_extra "a"⟩
  clear S1;intro ρ2 τ2;refine ZQ ?_;intro dm e1 S2 r1 r2 r4 r5;rw[append_nil]at e1;subst e1;rw[<-hRW]at S2;have L2:=S2.toL rfl;clear S2 hRW rnl rfl2;k_extra "M";intro y1 hy1;have L3:=L2.new (.list [.int 0]) hy1;generalize X0.upd τ2 y1 _=τ3 at L3 ⊢;k_extra "M";refine⟨_,rfl,?_⟩;k_extra "M";refine Xf.list (.inr hl) (by simp[sizeLine_eq];exact Y6I hcs) ?_;intro y2 hy2;rw[Z7o];have L4:=L3.new (.list ((cs.drop 1).map V.int)) hy2;generalize X0.upd τ3 y2 _=τ4 at L4 ⊢;refine X9.cat (xs:=[.int 0]) (ys:=(cs.drop 1).map V.int) (.inl (L4.getR 1 rfl)) (.inl (L4.getR 0 rfl)) (by simp[sizeLine_eq];exact(Np 0x200000190e0170e2c000000003e8c8009) hcs) ?_;intro y3 hy3;rw[show([V.int 0]:List V)++(cs.drop 1).map V.int=(0::cs.drop 1).map V.int from rfl];have L5:=L4.new (.list ((0::cs.drop 1).map V.int)) hy3;generalize X0.upd τ4 y3 _=τ5 at L5 ⊢;have hcl:(0::cs.drop 1).length<=64:=by simp;exact(Np 0x206400000000003fc8009) hn
  generalize (0::cs.drop 1:List Int)=cells at L5 hcl ⊢;have L6:LAt τ5 A0 [] ct1 (LS.new dm) (fpO q0 (o12 dm) dn++(y3,O.list (cells.map V.int))::((nl,O.list (dm.map V.str))::(fl,O.list (dn.map fun p=>p.1.tv p.2))::dsL dn)):=by
   refine LAt.permR (rest:=(y3,O.list (cells.map V.int))::(fpO q0 (o12 dm) dn++((nl,O.list (dm.map V.str))::(fl,O.list (dn.map fun p=>p.1.tv p.2))::dsL dn))) ?_ List.perm_middle;exact⟨L5.led.sub (.cons_cons _ ((List.Sublist.refl _).append (.cons_cons _ (.cons _ (.cons _ (List.Sublist.refl _)))))),L5.len⟩
  generalize hR:((y3,O.list (cells.map V.int))::((nl,O.list (dm.map V.str))::(fl,O.list (dn.map fun p=>p.1.tv p.2))::dsL dn))=R at L6;have hRy:∀{σ':X0} {l':lO},Led σ' (l'++R)->σ' y3=some (.list (cells.map V.int)):=fun{σ' l'} N=>N.at_ (y3,_) (mem_append_right _ (by rw[<-hR];exact .head _));have hD2:∀{X:lO},∀p∈dn,∃l,p.2=.ref l/\(l,O.list (p.1.ds.map Deed.v))∈X++R:=fun{X} p hp=>by
   obtain⟨l,e1,e2⟩:=hD p hp;exact⟨l,e1,mem_append_right _ (by rw[<-hR];exact .tail _ (.tail _ (.tail _ e2)))⟩
  clear L2 L3 L4 L5 hy1 hy2 hy3 L0;k_extra "M";refine⟨_,_,ItV.list hh' (.inl (hRy (l':=tabE::(fp A0 [] ct1 (LS.new dm)++fpO q0 (o12 dm) dn)) (by have:=L6.led;rw[<-append_assoc]at this;exact this))),?_⟩;refine Xi.invJ (fun i:Int=>V.int i) (fun xs ρ τ=>∃(m:Nat) (z:LA×List FA) (s:LS) (y:A12×O12),m+12*xs.length<=800/\z.1.lo=A0.lo/\y.1.o=q0.o/\y.1.fs.length=y.2.frames.length/\LAt τ z.1 z.2 ct1 s (fpO y.1 y.2 dn++R)/\S12 ct1 s y.2 m/\ρ.get "_law_loom" = some (.ref A0.lo)/\ρ.get "_law_own" = some (.ref q0.o)/\ρ.get "_law_base" = some (.int b)) ?_ ?_ _ _ _ ⟨0,(A0,[]),LS.new dm,(q0,o12 dm),by exact(Np 0x320c819a062c00000000040c8009) hcl,rfl,rfl,by rw[<-hq0];rfl,L6,⟨.new hnd sub2,.new dm,(fun u z=>by cases z),.new dm,Nat.le_refl _⟩,by k_extra "a",by k_extra "a",by k_extra "a"⟩
  ·intro J cell xs hN _ _ ρ τ;refine Z3t ?_;intro m z s y hm ea eq ly L SS r1 r2 r3;obtain⟨a,fs⟩:=z;obtain⟨q,o⟩:=y;dsimp only at ea eq ly L SS;have fin:∀(ρ2:Rho) (σ2:X0) (a':LA) (fs':List FA) (s':LS) (q':A12) (o':O12),a'.lo=A0.lo->q'.o=q0.o->fs'.length=s'.frames.length->W12 σ2 o' q' dn (tabE::(fp a' fs' ct1 s'++R))->S12 ct1 s' o' (m+12)->ρ2.get "_law_loom" = some (.ref A0.lo)->ρ2.get "_law_own" = some (.ref q0.o)->ρ2.get "_law_base" = some (.int b)->J .next ρ2 σ2:=fun ρ2 σ2 a' fs' s' q' o' e1 e2 hl2 S2 s12 k1 k2 k3=>
    hN ρ2 σ2 (.inl (hRy (l':=fpO q' o' dn++(tabE::fp a' fs' ct1 s')) (by have:=S2.led;rw[append_assoc];exact this))) ⟨m+12,(a',fs'),s',(q',o'),by simp only[length_cons]at hm;exact(Nq 0x64190b34cc02d60000000019064380d99a05809) hm,e1,e2,S2.len,S2.toL hl2,s12,k1,k2,k3⟩
   simp only[length_cons]at hm;have n0:=SS.n;obtain⟨OA,NA⟩:=SS.W.ok KC (by exact(Nr 0x8ca322000404800000019064380d99a05809) hm n0);have sm:=SS.R.sm SS.W (by exact(Nr 0x3e8322000404800000019064380d99a05809) hm n0) SS.c;rw[<-ea]at r1;k_extra "M"
   by_cases hc:cell.fmod 4=0
   ·refine Br.t (by simpa using hc) ?_;k_extra "M";refine Z2e hK hr1 hh' ?_;intro w τ2 g2 w1 w2 w3;have L2:=L.grow g2;k_extra "M";refine Z7c hK (by exact(Nq 0x1160160869805829) hr') hh' L2 OA.Z w1 w3 ?_;intro τ3 L3;have S3:=L3.toW ly;have fo3:=S3.fo;have fg3:=S3.fg;rw[eq]at fo3;k_extra "M";rw[<-eq];refine Z2D (mk:=none) hK hr1 hh' S3 sm.ev sm.li (.inr (.inr rfl)) ?_;intro τ4 S4;rw[Z32]at S4;have fg4:τ4 q.lg=some (.list (o.log.map Row.v)):=S4.fg;have zl:=sm.lg;k_extra "M";have S5:=S4.sg (.send o.events.length);simp only[Row.v]at S5;exact fin _ _ a fs (s.send w) q (o.send w) ea eq L3.len S5 ⟨SS.W.send w2,SS.R.sent,SS.c,SS.Y.send w2,by show(s.log++[_]).length<=_;rw[length_append,length_singleton];exact(Nq 0xcc06c1c02c008009) n0⟩ (by rw[<-ea];k_extra "a") (by k_extra "a") (by k_extra "a")
   ·refine Br.f (by simpa using hc) ?_;have b0:0<=(cell.fdiv 4).fmod 13:=Int.fmod_nonneg_of_pos _ (by(first|lia|omega));have b1:(cell.fdiv 4).fmod 13<13:=Int.fmod_lt_of_pos _ (by(first|lia|omega));refine Z1C ?_ (show ∃k:Nat,(cell.fdiv 4).fmod 13=k from⟨((cell.fdiv 4).fmod 13).toNat,by exact Y84 b0⟩);intro k hk;k_extra "M";rw[hk];refine Z7V E (by exact(Nq 0x12e0160869805829) hr') hh' (by exact(Np 0xce464010000000fa0c8029) hu) L KC.K (fun h hh=>Nat.le_trans (KC.dl h hh) (by decide)) (fun j s1=>s1.Wf ct1/\s1.Lay/\s1.log.length=s.log.length+j) ⟨SS.W,SS.Y,rfl⟩ (fun j s1 s2 hj P hst=>?_) (fun j s1 hj P=>P.1.ok KC (by have:=P.2.2;exact Yab hm n0 b1 hk hj P)) ?_
    ·obtain⟨W2,l2⟩:=P.1.step KC hst;exact⟨W2,P.2.1.step KC P.1 hst,by rw[l2,P.2.2];exact(Nq 0x1c06c0b070105ac2)⟩
    intro j a' f' s' τ' ea' hj P hrun _ L';obtain⟨o',hO,R',c'⟩:=Z2f KC k SS.W (by exact Yac hm n0 b1 hk) SS.R SS.c;rw[hrun]at R';have S1:=L'.toW ly;k_extra "M";rw[hk];refine⟨_,_,ItV.rng hh' (by(first|lia|omega)) (by(first|lia|omega)) (by exact Y8a) (by exact Yad b1 hk),?_⟩;rw[er0];refine Xi.invJ (fun(i:Nat)=>V.int (i:Int)) (fun is ρ τ=>∃(q1:A12) (o1:O12),q1.o=q0.o/\OwN12 ct1 is.length o1 o'/\W12 τ o1 q1 dn (tabE::(fp a' f' ct1 s'++R))/\ρ.get "_law_loom" = some (.ref A0.lo)/\ρ.get "_law_own" = some (.ref q0.o)/\ρ.get "_law_base" = some (.int b)) ?_ ?_ _ _ _ ⟨q,o,eq,by rw[List.length_range'];exact hO,S1,by rw[<-ea];k_extra "a",by k_extra "a",by k_extra "a"⟩
    ·intro J2 i is hN2 _ _ ρ3 τ3;refine Z2q ?_;intro q1 o1 eq1 hO1 S2 k1 k2 k3;obtain⟨o2,sm2,O2,hO2⟩:=hO1;rw[<-eq1]at k2;k_extra "M";refine Z6k (rest:=tabE::(fp a' f' ct1 s'++R)) hK hS (by exact(Nq 0x11e0160869805829) hr') hh' (by exact(Np 0x99264010000000fa0c8029) hu) TN (hD2 (X:=tabE::fp a' f' ct1 s')) hd30 hokh (by exact(Np 0x1464000000000028c8009) hlen2) S2 (by rw[hca];exact sm2) (by rw[hca];exact O2) ?_;intro q2 τ4 eq2 S3;k_extra "M";exact hN2 _ _ trivial ⟨q2,o2,eq2.trans eq1,hO2,S3,by k_extra "a",by rw[<-eq1];k_extra "a",by k_extra "a"⟩
    intro ρ3 τ3;refine Z2q ?_;intro q1 o1 eq1 hO1 S2 k1 k2 k3;have e3:o1=o':=hO1;subst e3;k_extra "M";exact fin _ _ a' f' s' q1 o1 (ea'.trans ea) eq1 L'.len S2 ⟨P.1,R',c',P.2.1,by have:=P.2.2;exact Yag n0 b1 hk hj P⟩ (by k_extra "a") (by k_extra "a") (by k_extra "a")
  clear L6;intro ρ3 τ6;refine Z3t ?_;intro m z s y hm ea eq ly L SS r1 r2 r3;obtain⟨a,fs⟩:=z;obtain⟨q,o⟩:=y;dsimp only at ea eq ly L SS;have n0:=SS.n;obtain⟨OA,NA⟩:=SS.W.ok KC (by simp at hm;exact(Nq 0x11946420004090000000320c8009) hm n0);rw[<-ea]at r1;rw[<-eq]at r2;have z1:=OA.Z.lg;have z2:=OA.Z.ev;k_extra "M";refine Z4s hK hr1 hh' (tss:=s.log.map rowK) (by rw[<-Z4N];exact L.g6) (by simp;exact Yah z1) (fun p hp=>?_) ?_
  ·obtain⟨r,_,rfl⟩:=List.mem_map.mp hp;exact Z4M r
  intro τ7 G7;have L7:=L.grow G7;k_extra "M";refine Z4s hK hr1 hh' (tss:=s.events.map evK) (by rw[<-Z5K];exact L7.g5) (by simp;exact Yah z2) (fun p hp=>?_) ?_
  ·obtain⟨r,_,rfl⟩:=List.mem_map.mp hp;exact Z5L r
  intro τ8 G8;have L8:=L7.grow G8;have S8:=L8.toW ly;have fo8:=S8.fo;k_extra "M";refine Z6P (by exact Yai hu) L8.g6 (by rw[<-SS.R.log];exact S8.fg) SS.Y.rows ?_;k_extra "M";refine Z7i (by exact Yai hu) L8.g5 (by rw[<-SS.R.ev];exact S8.fe) SS.Y.evs ?_;k_extra "M";rw[show(s.time==o.time)=true by rw[SS.R.time];simp];exact⟨rfl,_,L8.led.get 0 rfl,_,_,rfl⟩
end Mine.Internal
theorem PySem.Challenge.cw_uf030038_12_holds : PySem.Challenge.rw_uf030038_12.Holds := by
 refine Mine.Internal.hd ?_;intro w s₀ s₁ mg mb G Y fa o pm cd doc dV kV ho hd hcd hD hmg hg args vals as hpre hlay hrd hwl hlo;have KX:=km_in_of Y;have hP:=km_tabs_of Y 140 (by simp);have hC:CodeHd s₁.heap 142 140:=codeHd_of_K KX (by kernel_rfl);refine Ground.open G ?_;intro T B D TE TW;clear ho hd hcd hD
 wrow_args hpre hlay hrd hwl hlo
 rename IntsAre _ _=>hI
 rename s₁.heap.IsList _ _=>hL
 rename ¬_<_=>hn
 have hfa:fa=412:=by
  have e:=mg_of (n:=ofString "law") (v:=.ref 412) KX T.g (by k_is);have hn:Mine.Internal.dL.name=ofString "law":=by kernel_rfl
  rw[hn]at hmg;rw[hmg]at e
  cases e;rfl
 subst hfa;refine wpAny_mono (Mine.Internal.glueT (pos:=⟨85,29,85,58⟩) (q:=ofString "hearers" ++ ofString ".<locals>." ++ ofString "<lambda>") KX T hC hP (by kernel_rfl) (by decide) hg hL hI ?_) ?_ fun u u z=>z.elim
 ·intro C e1 e2 e3 e4 e5 e6 e7;subst e2;exact Mine.Internal.c_law e3 e4 e7 e6 e5 (by(first|lia|omega))
 ·rintro v s' ⟨rfl,k1,k2,k3⟩;exact⟨.inl ⟨_,.bool true,[],rfl,fun u=>rfl,.bool true,postW_of (X:=true==true) (by rfl) (w_eq_bool (w_res rfl) w_lit) rfl,fun u=>⟨List.nodup_nil,fun a ha=>by cases ha⟩⟩,k1,k2,k3⟩
