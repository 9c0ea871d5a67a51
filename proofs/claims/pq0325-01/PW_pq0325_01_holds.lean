import PyProof.Rows.All
import Wide.All
import OpenK.AllK
import Wide.FinOn
import Lean
import PySem.Challenge.RW_pq0325_01
set_option Elab.async false
set_option maxRecDepth 100000
set_option maxHeartbeats 4000000
set_option linter.unusedVariables false
set_option linter.all false
set_option bootstrap.genMatcherCode false
set_option genSizeOfSpec false
set_option genInjectivity false
set_option backward.match.sparseCases false
noncomputable section
namespace Mi.Top
open PySem PySem.W PyProof.Rows
theorem Ex {a b:Bool}(x:a=true) (y:b=true):(a&&b)=true:=by rw[x,y];rfl
theorem Jf {f:Str->Bool}{x:Str}{l:List Str}(a:f x=false) (b:R.filterR f l=[]):R.filterR f (x::l)=[]:=by
 show @Bool.rec (λu_=>List Str) (R.filterR f l) (x::R.filterR f l) (f x)=[];rw[a];exact b
theorem Cj {a:Bool}{b:List Str}(x:a=false) (y:b=[]):Fast.tw8326940854005059898 {strict:=a,foot:=none,bare:=b} PySem.Challenge.pw_pq0325_01.main.body=true:=by
 subst x y;kernel_rfl
theorem Ib:Fast.tw9446332074065402090 PySem.Challenge.rw_pq0325_01=true:=by
 iterate 38 refine Ex ?_ ?_
 iterate 4 rotate_left
 .exact Cj (by as_aux_lemma=>kernel_rfl) (Jf (by as_aux_lemma=>kernel_rfl) (Jf (by as_aux_lemma=>kernel_rfl) (Jf (by as_aux_lemma=>kernel_rfl) rfl)))
 all_goals as_aux_lemma=>kernel_rfl
theorem Lh:PySem.Challenge.rw_pq0325_01.wellSaid=true:=(congrFun Fast.te9446332074065402090 PySem.Challenge.rw_pq0325_01).trans Ib
noncomputable def hq:TablesWhole.Alg Bool:=⟨λsc n u_=>Fast.tw15985051520779696433 sc n,λu_ u_ u_ ok=>ok,λu_=>true,true,false,λa b=>a&&b⟩
theorem F5:Fast.tw6116379765354995101 hq PySem.Challenge.pw_pq0325_01.main=true:=by kernel_rfl
theorem Kx:TablesWhole.holds=hq:=by unfold TablesWhole.holds hq;rw[<-Fast.te15985051520779696433]
theorem DD:PySem.Challenge.pw_pq0325_01.tablesWhole=true:=by
 show TablesWhole.holds.all [TablesWhole.wModule TablesWhole.holds PySem.Challenge.pw_pq0325_01.main,_,_,_]=true;have h:TablesWhole.wModule TablesWhole.holds PySem.Challenge.pw_pq0325_01.main=true:=(congrFun (congrFun (congrFun Fast.te6116379765354995101 Bool) TablesWhole.holds) _).trans (Kx▸F5);rw[h];rfl
end Mi.Top
namespace Mi.Top
open PySem PySem.W PyProof.Rows
noncomputable def en (P:Params) (x:Str) (k:Nat) (v:Value):DictEntry:=⟨PyData.keyHash P x,.str x k,v⟩
noncomputable def tup (l:List Value):Obj:={cls:=.type "tuple",data:=.seq l.toArray}
noncomputable def JR (l:List Value):Obj:={cls:=.none,data:=.fields l.toArray}
noncomputable def K8 (l:List DictEntry) (n:Nat):Obj:={cls:=.type "dict",data:=.dict l.toArray n}
noncomputable def Mc (x:String) (v:Value):Obj:={cls:=.type "builtin_function_or_method",data:=.fields #[.builtin x,v]}
noncomputable def cut:Str:="/claim/cut.py"
structure TS where
 tree:BT
 n:Nat
 k:Nat
 main:List DictEntry
 tab:List Value
 HE:Value
noncomputable def TS.add (s:TS) (o:Obj):TS:={s with tree:=s.tree.ins s.n o,n:=s.n+1}
noncomputable def TS.FP (s:TS) (l:List Obj):TS:=l.foldl TS.add s
noncomputable def uU:Nat->List Str->List Value
 |_,[]=>[]
 |k,x::l=>.str x k::uU (k+1) l
noncomputable def Ku (p:Str×NameKind):Bool:=match p.2 with|.local=>true|_=>false
noncomputable def LN:Nat->List Expr->List Value
 |_,[]=>[]
 |k,.Constant (.int i) _ _::l=>.int i k::LN (k+1) l
 |k,.Constant (.bool b) _ _::l=>.bool b::LN k l
 |_,_=>[]
noncomputable def Jq:Nat->List Expr->Nat
 |k,.Constant (.int _) _ _::l=>Jq (k+1) l
 |k,_::l=>Jq k l
 |k,[]=>k
noncomputable def Fg (name q:Str) (k ln argc fl a:Nat) (fn:Bool) (r:List Value) (m:Nat):Obj:=
 {cls:=.type "code",data:=.fields (([.str name k,.str q (k+1),.str cut (k+2),.int ln 0,.int argc 0,.int 0 0,.int 0 0,.int fl 0,.ref a,.bool fn,.int 181 0,.ref (a+1),.none]++r++[.int (k+3+m) 0,.int ln 0,.str cut (k+4+m)]:List Value)).toArray}
noncomputable def Kk (a k:Nat) (HE:Value) (q name:Str) (args:Arguments) (body:List Stmt) (sc:Scope) (ln:Nat):List Obj×Nat×Nat×Nat:=
 let a0:=if args.defaults.isEmpty then a else a+1
 let k0:=Jq k args.defaults
 let f:FuncData:={name:=name,qualname:=q,params:=args,body:=.stmts body,scope:=sc,globals:=0,closure:=[],defaults:=.none,kwdefaults:=.none}
 let tm:Obj:={cls:=.none,data:=.func f}
 let fo (c:Nat):Obj:={cls:=.type "function",data:=.func {f with globals:=3,defaults:=(if args.defaults.isEmpty then .none else .ref a),pyModule:=HE,code:=.ref c}}
 let pre:=if args.defaults.isEmpty then[] else[tup (LN k args.defaults)]
 if sc.more.isEmpty then
  let vs:=(sc.names.filter Ku).map (·.1)
  let m:=vs.length
  (pre++[tup [],JR [],tup (uU (k0+3) vs),tup [],tm,Fg name q k0 ln args.args.length 3 a0 true [.ref (a0+2),.ref (a0+3),.ref (a0+4)] m,fo (a0+5)],a0+5,a0+6,k0+5+m)
 else(pre++[tup [],JR [],tm,Fg name q k0 ln args.args.length 3 a0 true [.none,.none,.ref (a0+2)] 0,fo (a0+3)],a0+3,a0+4,k0+5)
noncomputable def app (q name:Str):Str:=⟨q.cps++(".".toList.map Char.toNat).toArray++name.cps⟩
noncomputable def Ki (P:Params) (q:Str):TS->List Value->List DictEntry->List Stmt->TS×List Value×List DictEntry
 |s,t,es,.FunctionDef name args body _ _ _ sc _ _ pos::r=>
  let(os,c,f,k):=Kk s.n s.k s.HE (app q name) name args body sc pos.line
  Ki P q {s.FP os with k:=k+1} (t++[.int pos.line 0,.int pos.col 0,.ref c]) (es++[en P name k (.ref f)]) r
 |s,t,es,_=>(s,t,es)
noncomputable def HY (x:Str) (v:Value):List DictEntry->List DictEntry
 |[]=>[]
 |e::l=>match e.key with
  |.str y _=>if y==x then{e with val:=v}::l else e::HY x v l
  |_=>e::HY x v l
noncomputable def look (x:Str):List DictEntry->Value
 |[]=>.none
 |e::l=>match e.key with
  |.str y _=>if y==x then e.val else look x l
  |_=>look x l
inductive Kind where
 |obj|exc|own (a:Nat)
noncomputable def kindOf (s:TS):List Expr->Kind
 |[]=>.obj
 |.Name x _::_=>match look x s.main with
  |.ref a=>.own a
  |_=>.exc
 |_=>.obj
noncomputable def LH (C:Nat):Obj->Obj
 |⟨c,d,.cls cd,sl⟩=>⟨c,d,.cls {cd with subclasses:=cd.subclasses++[.ref C]},sl⟩
 |o=>o
noncomputable def Kl (P:Params) (s:TS) (name:Str) (bs:List Expr) (body:List Stmt) (st:List Str) (ln col:Nat):TS:=
 let kd:=kindOf s bs
 let k0:=s.k
 let s:=match kd with
  |.obj=>s.add (tup [])
  |.exc=>s.add (tup [.type "Exception"])
  |.own a=>s.add (tup [.ref a])
 let hasB:Bool:=match kd with|.obj=>false|_=>true
 let bt:=s.n-1
 let a:=s.n
 let hd:=[en P "__module__" (k0+7) s.HE,en P "__qualname__" (k0+9) (.str name (k0+8)),en P "__firstlineno__" (k0+11) (.int ln (k0+10))]
 let fr:Obj:={cls:=.type "frame",slots:=([some (.ref (a+4)),some (.ref 3),some (.ref (a+1)),none,some s.HE,none,some (.ref 0)]:List (Option Value)).toArray}
 let s1:=s.FP [Mc "type.__prepare__" (.type "type"),K8 [] 0,tup [],JR [],Fg name name (k0+2) ln 0 0 (a+2) false [.none,.none,.none] 0,fr]
 let(s2,t,es):=Ki P name {s1 with k:=k0+12} [] [] body
 let m:=st.length
 let k1:=s2.k
 let stE:=en P "__static_attributes__" (k1+m) (.ref s2.n)
 let s3:=s2.add (tup (uU k1 st))
 let ns:=hd++es++[stE]
 let s3:={s3 with tree:=(s3.tree.set (a+1) λu_=>K8 ns ns.length).set (a+3) λu_=>JR t}
 let k2:=k1+m+1
 let C:=s3.n+1
 let base:=[en P "__module__" (k0+7) s.HE,en P "__firstlineno__" (k0+11) (.int ln (k0+10))]++es++[stE]
 let x3:List DictEntry×List Obj×Nat×Nat:=match kd with
  |.obj=>([en P "__dict__" (k2+1) (.ref (C+1)),en P "__weakref__" (k2+3) (.ref (C+2)),en P "__doc__" (k2+4) .none],
    [{cls:=.type "getset_descriptor",data:=.fields #[.str "__dict__" k2,.ref C,.builtin "function.__dict__",.builtin "function.__dict__#set"]},
     {cls:=.type "getset_descriptor",data:=.fields #[.str "__weakref__" (k2+2),.ref C,.builtin "ExceptionGroup.__weakref__",.none]}],k2+5,4)
  |.exc=>([en P "__weakref__" (k2+1) (.ref (C+1)),en P "__doc__" (k2+2) .none],
    [{cls:=.type "getset_descriptor",data:=.fields #[.str "__weakref__" k2,.ref C,.builtin "ExceptionGroup.__weakref__",.none]}],k2+3,3)
  |.own _=>([en P "__doc__" k2 .none],[],k2+1,2)
 let(more,gs,k3,ep):=x3
 let mro:List Value:=match kd with
  |.obj=>[.ref C,.type "object"]
  |.exc=>[.ref C,.type "Exception",.type "BaseException",.type "object"]
  |.own b=>[.ref C,.ref b,.type "object"]
 let bsv:List Value:=match kd with
  |.obj=>[.type "object"]
  |.exc=>[.type "Exception"]
  |.own b=>[.ref b]
 let nw:Value:=match kd with
  |.exc=>.builtin "Exception.__new__"
  |_=>.builtin "object.__new__"
 let co:Obj:={cls:=.type "type",data:=.cls {name:=name,bases:=bsv,mro:=mro,ns:=C-1,qualname:=name},slots:=([if hasB then some (.ref bt) else none,none,some (.str name k0),some (.str name (k0+8)),some nw,some (.bool true)]:List (Option Value)).toArray}
 let s4:=s3.FP ([K8 (base++more) ep,co]++gs++[{cls:=.type "super",data:=.fields #[.ref C,.ref C,.ref C]},Mc "object.__init_subclass__" (.ref C)])
 let x5:TS×Nat:=match kd with
  |.obj=>(s4,k3)
  |.exc=>({s4 with tree:=s4.tree.set 2 λu_=>{cls:=.none,data:=.dict #[en P "type.__subclasses__.Exception.0" k3 (.int C 0),en P "type.__subclasses__.Exception.n" (k3+1) (.int 1 0)] 2}},k3+2)
  |.own b=>({s4 with tree:=s4.tree.set b (LH C)},k3)
 let(s5,k4):=x5
 {s5 with k:=k4+2,main:=s5.main++[en P name (k4+1) (.ref C)],tab:=s5.tab++[.int ln 0,.int col 0,.ref (a+4)]}
noncomputable def step (P:Params) (s:TS):Stmt->TS
 |.FunctionDef name args body _ _ _ sc _ _ pos=>
  let(os,c,f,k):=Kk s.n s.k s.HE name name args body sc pos.line
  {s.FP os with k:=k+1,main:=s.main++[en P name k (.ref f)],tab:=s.tab++[.int pos.line 0,.int pos.col 0,.ref c]}
 |.ClassDef name bs _ body _ _ _ _ _ st pos=>Kl P s name bs body st pos.line pos.col
 |.Assign [.Name x _] (.Constant (.str v) _ _) _=>{s with main:=HY x (.str v s.k) s.main,HE:=.str v s.k,k:=s.k+2}
 |.Assign [.Name x _] (.BinOp _ _ _ _) _=>{s with main:=s.main++[en P x (s.k+3) (.int 4194304 (s.k+2))],k:=s.k+4}
 |.Assign [.Name x _] (.Name y _) _=>{s with main:=s.main++[en P x s.k (look y s.main)],k:=s.k+1}
 |.Assign [.Name x _] (.Tuple es _ _) _=>
  let vs:=es.filterMap λ|.Constant (.str v) _ _=>some v|_=>none
  let s':=s.add (tup (uU s.k vs))
  {s' with main:=s.main++[en P x (s.k+vs.length) (.ref s.n)],k:=s.k+vs.length+1}
 |_=>s
noncomputable def D8 (P:Params) (s:TS) (l:List Stmt):TS:=l.foldl (step P) s
noncomputable def TS.whole (s:TS):BT:=(s.tree.set 3 λu_=>K8 s.main s.main.length).set 12 λu_=>JR s.tab
noncomputable def KI:Option Obj->List DictEntry
 |some ⟨_,_,.dict es _,_⟩=>es.toList
 |_=>[]
noncomputable def boot (P:Params):TS:=
 let t:BT:=(boot_heap P).objs.toList.zipIdx.foldl (λt x=>t.ins x.2 x.1) .nil
 let s:TS:=⟨t,11,181,KI ((boot_heap P).objs[3]?),[],.str "__main__" 164⟩
 let s:=s.FP [tup [],JR [],{cls:=.type "code",data:=.fields #[.str "<module>" 182,.str "<module>" 183,.str cut 184,.int 1 0,.int 0 0,.int 0 0,.int 0 0,.int 0 0,.ref 11,.bool false,.int 181 0,.ref 12,.none,.none,.none,.none,.int 185 0,.int 1 0,.str cut 186]},
  {cls:=.type "frame",slots:= #[some (.ref 13),some (.ref 3),some (.ref 3),none,some (.str "__main__" 164),none,some (.ref 0)]}]
 {s with k:=187}
end Mi.Top
namespace Mi.Top
open PySem PySem.W PyProof.Rows
noncomputable abbrev pg:Program:=PySem.Challenge.pw_pq0325_01
noncomputable abbrev ann:Option Value:=some (.ref 6)
noncomputable def dN:Pos:=⟨0,0,0,0⟩
noncomputable def eU:Env:={scope:=pg.main.scope,locals:=mainNs,globals:=mainNs,cells:=[],code:=.ref 13,frame:=some 14}
noncomputable def cT:Code:=.body (behindTheImports pg) eU
noncomputable def TS.sh (s:TS) (os:OsState):SharedT:=⟨s.whole,s.n,{},#[],{},s.k,os⟩
noncomputable def St (i:Nat) (w:World) (os:OsState):SharedT:=(D8 w.params (boot w.params) (pg.main.body.take i)).sh os
noncomputable abbrev sg (w:World):=PySem.W.Fast.tw10110043849684766642 PySem.W.Fast.tw14364793385576792824 pg w 11 ann 1
theorem J3 (w:World):segRunT treeTable pg w 11 ann 1=sg w:=by
 rw[PySem.W.Fast.te10110043849684766642,PySem.W.Fast.te14364793385576792824]
theorem chain {a c n N:Nat}{pa pb:Pos}{r:World->OsState->Shared}(h:∀w os,sg w n (St a w os) (piecesOf ((pg.main.body.drop a).take c) eU cT pa [topFrame dN])=some (.next,St (a+c) w os,cT,pb))
  (k:∀w os,topRun treeTable pg w 11 ann N (St (a+c) w os).abs (restOf (pg.main.body.drop (a+c)) eU cT pb [topFrame dN])=some (r w os)) (w:World) (os:OsState):
  topRun treeTable pg w 11 ann (n+N) (St a w os).abs (restOf (pg.main.body.drop a) eU cT pa [topFrame dN])=some (r w os):=by
 have e:pg.main.body.drop a=(pg.main.body.drop a).take c++pg.main.body.drop (a+c):=by rw[<-List.drop_drop,List.take_append_drop]
 have h:=h w os;rw[<-J3] at h;rw[e];exact piece_app (segRun_of h) (k w os)
theorem Je (w:World) (os:OsState):topRun treeTable pg w 11 ann 2 (St 126 w os).abs (restOf (pg.main.body.drop 126) eU cT ⟨991,0,1012,57⟩ [topFrame dN])=some (St 126 w os).abs:=by
 have e:pg.main.body.drop 126=[]:=by kernel_rfl
 rw[e];rfl
theorem Ml (w:World) (os:OsState):sg w 385 (St 0 w os) (piecesOf ((pg.main.body.drop 0).take 8) eU cT dN [topFrame dN])=some (.next,St 8 w os,cT,⟨18,0,22,22⟩):=by kernel_rfl
theorem Mk (w:World) (os:OsState):sg w 203 (St 8 w os) (piecesOf ((pg.main.body.drop 8).take 7) eU cT ⟨18,0,22,22⟩ [topFrame dN])=some (.next,St 15 w os,cT,⟨57,0,57,8⟩):=by kernel_rfl
theorem LA (w:World) (os:OsState):sg w 228 (St 15 w os) (piecesOf ((pg.main.body.drop 15).take 1) eU cT ⟨57,0,57,8⟩ [topFrame dN])=some (.next,St 16 w os,cT,⟨58,0,65,26⟩):=by kernel_rfl
theorem Lz (w:World) (os:OsState):sg w 373 (St 16 w os) (piecesOf ((pg.main.body.drop 16).take 6) eU cT ⟨58,0,65,26⟩ [topFrame dN])=some (.next,St 22 w os,cT,⟨86,0,89,25⟩):=by kernel_rfl
theorem Ly (w:World) (os:OsState):sg w 401 (St 22 w os) (piecesOf ((pg.main.body.drop 22).take 13) eU cT ⟨86,0,89,25⟩ [topFrame dN])=some (.next,St 35 w os,cT,⟨172,0,177,22⟩):=by kernel_rfl
theorem Lx (w:World) (os:OsState):sg w 338 (St 35 w os) (piecesOf ((pg.main.body.drop 35).take 12) eU cT ⟨172,0,177,22⟩ [topFrame dN])=some (.next,St 47 w os,cT,⟨254,0,254,8⟩):=by kernel_rfl
theorem Lw (w:World) (os:OsState):sg w 391 (St 47 w os) (piecesOf ((pg.main.body.drop 47).take 6) eU cT ⟨254,0,254,8⟩ [topFrame dN])=some (.next,St 53 w os,cT,⟨288,0,288,8⟩):=by kernel_rfl
theorem Lu (w:World) (os:OsState):sg w 421 (St 53 w os) (piecesOf ((pg.main.body.drop 53).take 1) eU cT ⟨288,0,288,8⟩ [topFrame dN])=some (.next,St 54 w os,cT,⟨289,0,310,45⟩):=by kernel_rfl
theorem Ls (w:World) (os:OsState):sg w 286 (St 54 w os) (piecesOf ((pg.main.body.drop 54).take 10) eU cT ⟨289,0,310,45⟩ [topFrame dN])=some (.next,St 64 w os,cT,⟨375,0,375,8⟩):=by kernel_rfl
theorem Lr (w:World) (os:OsState):sg w 392 (St 64 w os) (piecesOf ((pg.main.body.drop 64).take 6) eU cT ⟨375,0,375,8⟩ [topFrame dN])=some (.next,St 70 w os,cT,⟨405,0,406,93⟩):=by kernel_rfl
theorem Lq (w:World) (os:OsState):sg w 336 (St 70 w os) (piecesOf ((pg.main.body.drop 70).take 12) eU cT ⟨405,0,406,93⟩ [topFrame dN])=some (.next,St 82 w os,cT,⟨486,0,486,8⟩):=by kernel_rfl
theorem Lp (w:World) (os:OsState):sg w 551 (St 82 w os) (piecesOf ((pg.main.body.drop 82).take 1) eU cT ⟨486,0,486,8⟩ [topFrame dN])=some (.next,St 83 w os,cT,⟨487,0,542,16⟩):=by kernel_rfl
theorem Lo (w:World) (os:OsState):sg w 10 (St 83 w os) (piecesOf ((pg.main.body.drop 83).take 1) eU cT ⟨487,0,542,16⟩ [topFrame dN])=some (.next,St 84 w os,cT,⟨543,0,543,8⟩):=by kernel_rfl
theorem Ln (w:World) (os:OsState):sg w 454 (St 84 w os) (piecesOf ((pg.main.body.drop 84).take 1) eU cT ⟨543,0,543,8⟩ [topFrame dN])=some (.next,St 85 w os,cT,⟨544,0,571,17⟩):=by kernel_rfl
theorem Lm (w:World) (os:OsState):sg w 302 (St 85 w os) (piecesOf ((pg.main.body.drop 85).take 3) eU cT ⟨544,0,571,17⟩ [topFrame dN])=some (.next,St 88 w os,cT,⟨583,0,583,8⟩):=by kernel_rfl
theorem Ll (w:World) (os:OsState):sg w 647 (St 88 w os) (piecesOf ((pg.main.body.drop 88).take 1) eU cT ⟨583,0,583,8⟩ [topFrame dN])=some (.next,St 89 w os,cT,⟨584,0,645,41⟩):=by kernel_rfl
theorem Lj (w:World) (os:OsState):sg w 386 (St 89 w os) (piecesOf ((pg.main.body.drop 89).take 7) eU cT ⟨584,0,645,41⟩ [topFrame dN])=some (.next,St 96 w os,cT,⟨682,0,690,29⟩):=by kernel_rfl
theorem Li (w:World) (os:OsState):sg w 380 (St 96 w os) (piecesOf ((pg.main.body.drop 96).take 12) eU cT ⟨682,0,690,29⟩ [topFrame dN])=some (.next,St 108 w os,cT,⟨821,0,825,30⟩):=by kernel_rfl
theorem Kb (w:World) (os:OsState):sg w 210 (St 108 w os) (piecesOf ((pg.main.body.drop 108).take 8) eU cT ⟨821,0,825,30⟩ [topFrame dN])=some (.next,St 116 w os,cT,⟨908,0,908,8⟩):=by kernel_rfl
theorem Ka (w:World) (os:OsState):sg w 383 (St 116 w os) (piecesOf ((pg.main.body.drop 116).take 3) eU cT ⟨908,0,908,8⟩ [topFrame dN])=some (.next,St 119 w os,cT,⟨928,0,928,5⟩):=by kernel_rfl
theorem J9 (w:World) (os:OsState):sg w 453 (St 119 w os) (piecesOf ((pg.main.body.drop 119).take 1) eU cT ⟨928,0,928,5⟩ [topFrame dN])=some (.next,St 120 w os,cT,⟨929,0,959,19⟩):=by kernel_rfl
theorem J8 (w:World) (os:OsState):sg w 151 (St 120 w os) (piecesOf ((pg.main.body.drop 120).take 6) eU cT ⟨929,0,959,19⟩ [topFrame dN])=some (.next,St 126 w os,cT,⟨991,0,1012,57⟩):=by kernel_rfl
theorem Gh:∀w os,topRun treeTable pg w 11 ann ((385+(203+(228+(373+(401+(338+(391+(421+(286+(392+(336+(551+(10+(454+(302+(647+(386+(380+(210+(383+(453+(151+2))))))))))))))))))))))) (St 0 w os).abs (restOf (pg.main.body.drop 0) eU cT dN [topFrame dN])=some (St 126 w os).abs:=(chain (Ml) (chain (Mk) (chain (LA) (chain (Lz) (chain (Ly) (chain (Lx) (chain (Lw) (chain (Lu) (chain (Ls) (chain (Lr) (chain (Lq) (chain (Lp) (chain (Lo) (chain (Ln) (chain (Lm) (chain (Ll) (chain (Lj) (chain (Li) (chain (Kb) (chain (Ka) (chain (J9) (chain (J8) Je))))))))))))))))))))))
end Mi.Top
namespace Mi.Top
open PySem PySem.W PyProof.Rows
theorem Kd:∀w:World,(fencedOpening treeTable pg w 20000).map (λs=>(s.heap,s.gens,s.drawn,s.toks))=some (boot_heap w.params,Array.mk [],boot_drawn,boot_toks):=
 boot_open (by kernel_rfl) (by kernel_rfl) (λs=>by kernel_rfl)
theorem Gc (w:World):((boot_heap w.params).isNs mainGlobals&&(Array.mk []:Array GenState).size==0,(boot_heap w.params).objs.size,(boot_heap w.params).nsMap mainGlobals "__annotations__")=(true,11,ann):=by kernel_rfl
theorem Ik (w:World) (os:OsState):topGo treeTable pg w 11 ann 12 ⟨boot_heap w.params,Array.mk [],boot_drawn,boot_toks,os⟩ (topStub pg)=some ((St 0 w os).abs,⟨denote treeTable cT,cT,dN,[topFrame dN]⟩):=by kernel_rfl
theorem FC (w:World) (os:OsState):segRun treeTable pg w 11 ann 1 1 (St 0 w os).abs (blockOf (pg.main.body.drop 0) eU cT dN [topFrame dN])=some (.next,(St 0 w os).abs,cT,dN):=by kernel_rfl
end Mi.Top
namespace Mi.Top
open PySem PySem.W PyProof.Rows
theorem bh:behindTheImports pg=pg.main.body.drop 0:=by kernel_rfl
theorem Mj:PySem.Challenge.rw_pq0325_01.row.toRowW.promised:=⟨[.list []],by decide+kernel,by decide+kernel⟩
end Mi.Top
namespace Mi.Top
open PySem PySem.W PyProof.Rows
noncomputable def qg:Program:={pg with main:={pg.main with body:=pg.main.body.drop 125}}
noncomputable def bI:Stmt->Str
 |.FunctionDef name _ _ _ _ _ _ _ _ _=>name
 |.ClassDef name _ _ _ _ _ _ _ _ _ _=>name
 |.Assign [.Name x _] _ _=>x
 |_=>""
noncomputable def loose:List Str:=((pg.main.body.take 125).map bI).filter (λx=> !(x==("__name__":Str)))
noncomputable def H1 (P:Params):Heap:=absHeap (D8 P (boot P) (pg.main.body.take 126)).whole 1270 {}
noncomputable def s1 (w:World) (os:OsState):Shared:=⟨H1 w.params,#[],{},1944,os⟩
theorem abs_eq (w:World) (os:OsState):(St 126 w os).abs=s1 w os:=by kernel_rfl
theorem Mu (w:World) (os:OsState):(staticsOk (importedModules pg.main.body) (boot_heap w.params) (H1 w.params)&&namesBound pg (H1 w.params)&&gensDone (s1 w os)&&laidKept (boot_heap w.params) (H1 w.params))=true:=by kernel_rfl
end Mi.Top
namespace Mi.Top
open PySem PySem.W PyProof.Rows
theorem Mt (w:World) (os:OsState):openSeen qg loose (importedModules pg.main.body) (λu_=>true) true (s1 w os)=openGood qg loose:=by kernel_rfl
end Mi.Top
namespace Mi
open PySem
@[elab_as_elim] theorem wr {α:Sort u} {a b:α} {P:α->Prop} (h:a=b) (k:P b):P a:=h▸k
set_option genInjectivity true in
inductive V where
 |none
 |bool (b:Bool)
 |int (i:Int)
 |str (s:Str)
 |ref (n:Nat)
 |ext (l:List Int)
set_option genInjectivity true in
inductive O where
 |inst (c:Str) (fs:List (Str×V))
 |list (l:List V)
 |tup (l:List V)
 |dict (es:List (Int×V))
 |rng (n:Int)
structure AH where
 nx:Nat
 at_:Nat->Option O
noncomputable abbrev AM:=StateT AH Option
noncomputable def ak {α:Type}:AM α:=λu_=>Option.none
noncomputable def AH.put (H:AH) (n:Nat) (o:O):AH:=⟨H.nx,λm=>bif Nat.beq m n then some o else H.at_ m⟩
noncomputable def AH.add (H:AH) (o:O):AH:=⟨H.nx+1,λm=>bif Nat.beq m H.nx then some o else H.at_ m⟩
noncomputable def look (n:Nat):AM O:=λH=>match H.at_ n with|some o=>some (o,H)|none=>Option.none
noncomputable def lim:Nat:=1000
noncomputable def fits:O->Bool
 |.inst _ fs=>Nat.ble fs.length 100
 |.list l=>Nat.ble l.length lim
 |.tup l=>Nat.ble l.length lim
 |.dict es=>Nat.ble es.length lim
 |.rng n=>decide (0<=n)&&decide (n<=1000)
noncomputable def ba (o:O):AM V:=λH=>bif fits o then some (.ref H.nx,H.add o) else Option.none
noncomputable def eB (n:Nat) (o:O):AM Unit:=λH=>bif fits o then some ((),H.put n o) else Option.none
noncomputable def fJ (v:V):AM (Nat×List V):=match v with
 |.ref n=>do match<-look n with|.list l=>pure (n,l)|_=>ak
 |_=>ak
noncomputable abbrev ao:=List (Str×Option V)
noncomputable def ao.get (ρ:ao) (x:Str):AM V:=match ρ.lookup x with|some (some v)=>pure v|_=>ak
noncomputable def ao.set:ao->Str->V->ao
 |[],_,_=>[]
 |(y,o)::r,x,v=>bif y==x then(y,some v)::r else(y,o)::ao.set r x v
structure Tab where
 fn:Str->Option (List V->AM V)
 tg:Str->Str->Option (List V->AM V)
structure Lv where
 E:Scope->ao->Expr->AM V
 T:Scope->ao->Expr->AM Bool
noncomputable def ck:V->AM Bool
 |.bool b=>pure b
 |_=>ak
noncomputable def aR:V->AM Int
 |.int b=>pure b
 |_=>ak
noncomputable def ax (f:V->V->Option Bool):List V->List V->Option Bool
 |a::l,b::m=>match f a b,ax f l m with
  |some x,some y=>some (x&&y)
  |_,_=>none
 |_,_=>some true
noncomputable def eT:Nat->AH->V->V->Option Bool
 |0,_,_,_=>none
 |n+1,H,a,b=>match a,b with
  |.none,.none=>some true
  |.bool x,.bool y=>some (x==y)
  |.int x,.int y=>some (x==y)
  |.str x,.str y=>some (x==y)
  |.none,.int _=>some false
  |.int _,.none=>some false
  |.none,.ref y=>match H.at_ y with|some (.tup _)=>some false|_=>none
  |.ref x,.none=>match H.at_ x with|some (.tup _)=>some false|_=>none
  |.int _,.ref y=>match H.at_ y with|some (.tup _)=>some false|_=>none
  |.ref x,.int _=>match H.at_ x with|some (.tup _)=>some false|_=>none
  |.ref x,.ref y=>match H.at_ x,H.at_ y with
   |some (.list l),some (.list m)=>if l.length=m.length then ax (eT n H) l m else some false
   |some (.tup l),some (.tup m)=>match ax (eT n H) l m with
    |some r=>some (r&&decide (l.length=m.length))
    |none=>none
   |_,_=>none
  |_,_=>none
noncomputable def gZ (i:Int):List V->Option Bool
 |[]=>some false
 |.int j::l=>match gZ i l with|some r=>some (decide (j=i)||r)|none=>none
 |_=>none
noncomputable def I6:V->V->AM Bool
 |.none,.none=>pure true
 |.none,.ref _=>pure false
 |.ref _,.none=>pure false
 |.ref a,.ref b=>do match<-look a with
  |.inst _ _=>pure (Nat.beq a b)
  |_=>ak
 |_,_=>ak
noncomputable def dictFind (i:Int):List (Int×V)->Option V
 |[]=>none
 |(j,v)::l=>if j=i then some v else dictFind i l
noncomputable def JQ (a b:V):AM Bool:=match a,b with
 |.int i,.ref n=>do match<-look n with
  |.tup l=>match gZ i l with|some r=>pure r|none=>ak
  |.dict es=>pure (dictFind i es).isSome
  |_=>ak
 |_,_=>ak
noncomputable def KG (a b:V):AM Bool:=λH=>match eT 8 H a b with|some r=>some (r,H)|none=>none
noncomputable def bQ (op:CmpOp) (a b:V):AM Bool:=match op with
 |.Lt=>do let x<-aR a;let y<-aR b;pure (decide (x<y))
 |.LtE=>do let x<-aR a;let y<-aR b;pure (decide (x<=y))
 |.Gt=>do let x<-aR a;let y<-aR b;pure (decide (x>y))
 |.GtE=>do let x<-aR a;let y<-aR b;pure (decide (x>=y))
 |.Eq=>KG a b
 |.NotEq=>do let r<-KG a b;pure (!r)
 |.Is=>I6 a b
 |.IsNot=>do let r<-I6 a b;pure (!r)
 |.In=>JQ a b
 |.NotIn=>do let r<-JQ a b;pure (!r)
noncomputable def rep (l:List V):Nat->List V
 |0=>[]
 |n+1=>l++rep l n
noncomputable def JF (n:Nat):O->O->AM V
 |.list l,.list k=>ba (.list (l++k))
 |.tup (x::l),.tup []=>pure (.ref n)
 |.tup (x::l),.tup (y::k)=>ba (.tup (x::l++y::k))
 |_,_=>ak
noncomputable def dI (op:Operator) (a b:V):AM V:=match op with
 |.Add=>match a,b with
  |.int x,.int y=>pure (.int (x+y))
  |.ref n,.ref m=>do
   let o<-look n
   let o'<-look m
   JF n o o'
  |_,_=>ak
 |.Sub=>do let x<-aR a;let y<-aR b;pure (.int (x-y))
 |.Mult=>match a,b with
  |.int x,.int y=>if x.natAbs<=1000000/\y.natAbs<=1000000 then pure (.int (x*y)) else ak
  |.ref n,.int y=>if 1000<y\/y< -1000 then ak else do match<-look n with
   |.list l=>ba (.list (rep l y.toNat))
   |_=>ak
  |_,_=>ak
 |.Mod=>do let x<-aR a;let y<-aR b;if 0<y/\y<=1000000 then pure (.int (x.fmod y)) else ak
 |.FloorDiv=>do let x<-aR a;let y<-aR b;if 0<y/\y<=1000000/\x.natAbs<=1000000000 then pure (.int (x.fdiv y)) else ak
 |_=>ak
noncomputable def By (c:Str):List Str:=
 if c==("Interval":Str) then["total","plist","left","right","parent"]
 else if c==("IntervalTree":Str) then["root"]
 else if c==("PropRules":Str) then["lisp","nil","true","category","front_sticky","rear_nonsticky","evaporate","priority","defaults"]
 else if c==("TextProps":Str) then["tree"]
 else if c==("Sides":Str) then["rules","left","right","left_front","left_rear","right_front","right_rear","found","front","rear"]
 else if c==("GapText":Str) then["room","cells","gap_start","gap_end"]
 else if c==("Markers":Str) then["rows"]
 else if c==("Buffer":Str) then["number","name","text","markers","point","begv","zv","mark","is_live","is_read_only","ticks","codes_ticks","saved_ticks","listeners","undo","props","overlays","locals","syntax","file"]
 else if c==("OverlayTree":Str) then["root","count"]
 else if c==("OverlayHome":Str) then["tree","overlays","rules"]
 else if c==("PlainLisp":Str) then["first","nil","true","plists"]
 else[]
noncomputable def fld (c f:Str):Bool:=(By c).contains f
noncomputable def aV (o:V) (f:Str):AM V:=match o with
 |.ref n=>do match<-look n with
  |.inst c fs=>bif fld c f then(match fs.lookup f with|some v=>pure v|none=>ak) else ak
  |_=>ak
 |_=>ak
noncomputable def dM:List (Str×V)->Str->V->List (Str×V)
 |[],x,v=>[(x,v)]
 |(y,o)::r,x,v=>bif y==x then(y,v)::r else(y,o)::dM r x v
noncomputable def bZ (o:V) (f:Str) (v:V):AM Unit:=match o with
 |.ref n=>do match<-look n with
  |.inst c fs=>bif fld c f then eB n (.inst c (dM fs f v)) else ak
  |_=>ak
 |_=>ak
noncomputable def gn (o i:V):AM V:=match o,i with
 |.ref n,.int i=>do
  let o<-look n
  if i<0 then ak else
  match o with
  |.list l=>match l[i.toNat]? with|some v=>pure v|none=>ak
  |.tup l=>match l[i.toNat]? with|some v=>pure v|none=>ak
  |_=>ak
 |_,_=>ak
noncomputable def putItem (o i v:V):AM Unit:=match o,i with
 |.ref n,.int i=>do match<-look n with
  |.list l=>if 0<=i/\i.toNat<l.length then eB n (.list (l.set i.toNat v)) else ak
  |.dict es=>if(dictFind i es).isNone/\(es.map (·.1)).Nodup then eB n (.dict (es++[(i,v)])) else ak
  |_=>ak
 |_,_=>ak
noncomputable def bounds (l h:Option Int) (n:Nat):Option (Nat×Nat):=
 if 0<=l.getD 0/\0<=h.getD 0 then some (min (l.getD 0).toNat n,min ((h.map (·.toNat)).getD n) n) else none
noncomputable def cut (l:List V) (a b:Nat):List V:=(l.take b).drop a
noncomputable def bH (o:V) (lo hi:Option Int):AM V:=match o with
 |.ext l=>match lo,hi with
  |none,some k=>if 0<=k then ba (.list ((l.take k.toNat).map V.int)) else ak
  |_,_=>ak
 |.ref n=>do match<-look n with
  |.list l=>match bounds lo hi l.length with|some (a,b)=>ba (.list (cut l a b))|none=>ak
  |.tup l=>match lo,hi with
   |some k,none=>if 0<k/\k.toNat<=l.length then ba (.tup (l.drop k.toNat)) else ak
   |_,_=>ak
  |_=>ak
 |_=>ak
noncomputable def cM (o:V) (lo hi:Option Int) (v:V):AM Unit:=match o,v with
 |.ref n,.ref m=>do match<-look n,<-look m with
  |.list l,.list k=>match bounds lo hi l.length with
   |some (a,b)=>if a<=b/\¬Nat.beq n m then eB n (.list (l.take a++k++l.drop b)) else ak
   |none=>ak
  |_,_=>ak
 |_,_=>ak
noncomputable def itemsOf (v:V):AM (List V):=match v with
 |.ref n=>do match<-look n with
  |.list l=>pure l
  |.tup l=>pure l
  |.rng k=>pure ((List.range k.toNat).map λ(i:Nat)=>V.int (Int.ofNat i))
  |_=>ak
 |_=>ak
noncomputable def sumInts:List V->Option Int
 |[]=>some 0
 |.int i::l=>if i.natAbs<=1000000 then(sumInts l).map (i+·) else none
 |_=>none
noncomputable def nZ (i:Int):Int:=if i<0 then-i else i
noncomputable def CJ (i j:Int):Int:=if j<i then j else i
noncomputable def CM (i j:Int):Int:=if i<j then j else i
inductive BK where
 |len|list|tuple|range|sum|sorted|abs|min|max
noncomputable def Mb:List (Str×BK):=[("len",.len),("list",.list),("tuple",.tuple),("range",.range),("sum",.sum),("sorted",.sorted),("abs",.abs),("min",.min),("max",.max)]
noncomputable def Dj (x:Str):Option BK:=Mb.lookup x
noncomputable def cE (k:BK) (args:List V):AM V:=match k,args with
 |.len,[v]=>do let(_,l)<-fJ v;pure (.int l.length)
 |.list,[v]=>do let l<-itemsOf v;ba (.list l)
 |.tuple,[v]=>do let(_,l)<-fJ v;ba (.tup l)
 |.range,[.int k]=>ba (.rng k)
 |.sum,[v]=>do let(_,l)<-fJ v;match sumInts l with|some i=>pure (.int i)|none=>ak
 |.sorted,[.ref n]=>do match<-look n with|.dict []=>ba (.list [])|_=>ak
 |.abs,[.int i]=>pure (.int (nZ i))
 |.min,[.int i,.int j]=>pure (.int (CJ i j))
 |.max,[.int i,.int j]=>pure (.int (CM i j))
 |_,_=>ak
noncomputable def isType (x:Str) (v:V):AM V:=match v with
 |.ref n=>do match<-look n with
  |.tup _=>if x==("tuple":Str) then pure (.bool true) else if x==("bool":Str) then pure (.bool false) else ak
  |_=>ak
 |.bool _=>if x==("tuple":Str) then pure (.bool false) else if x==("bool":Str) then pure (.bool true) else ak
 |.int _|.none=>if x==("tuple":Str) then pure (.bool false) else if x==("bool":Str) then pure (.bool false) else ak
 |_=>ak
inductive LM where
 |append|pop|extend|get
noncomputable def L5:List (Str×LM):=[("append",.append),("pop",.pop),("extend",.extend),("get",.get)]
noncomputable def v9 (x:Str):Option LM:=L5.lookup x
noncomputable def nh:LM->O->Bool
 |.append,.list _|.pop,.list _|.extend,.list _=>true
 |.get,.dict _=>true
 |_,_=>false
noncomputable def jm (k:LM) (n:Nat) (o:O) (args:List V):AM V:=match k,o,args with
 |.append,.list l,[v]=>do eB n (.list (l++[v]));pure .none
 |.pop,.list l,[]=>match l.getLast? with|some v=>do eB n (.list l.dropLast);pure v|none=>ak
 |.extend,.list l,[.ref m]=>do match<-look m with
  |.list k=>if Nat.beq n m then ak else do eB n (.list (l++k));pure .none
  |_=>ak
 |.get,.dict es,[.int i,d]=>pure ((dictFind i es).getD d)
 |_,_,_=>ak
noncomputable def HD:List Str:=["category","front-sticky","rear-nonsticky","evaporate","priority"]
noncomputable def eC:List V->AM V
 |[.str s]=>match HD.findIdx? (·==s) with|some i=>pure (.int (i:Int))|none=>ak
 |_=>ak
noncomputable def bI:Expr->Option Str
 |.Name x _=>some x
 |_=>none
noncomputable def dq:Expr->Option (Expr×Str×Pos)
 |.Attribute o f p=>some (o,f,p)
 |_=>none
noncomputable def da:Expr->Option (Option Expr×Option Expr)
 |.Slice lo hi none _=>some (lo,hi)
 |_=>none
noncomputable def eV:Expr->Option (Expr×Expr×Expr×List Expr×Scope)
 |.ListComp elt [⟨t,iter,ifs,0⟩] csc _=>some (elt,t,iter,ifs,csc)
 |_=>none
noncomputable def noStar:Expr->Bool
 |.Starred .. =>false
 |_=>true
noncomputable def FZ:Option NameKind->Bool
 |some .globalImplicit=>true
 |_=>false
noncomputable def Dy:Option NameKind->Bool
 |some .local|some .cell=>true
 |_=>false
noncomputable def K3:Option NameKind->Bool
 |some .local|some .cell|some .free=>true
 |_=>false
noncomputable def eJ (L:Lv) (sc:Scope) (ρ:ao):List Expr->AM (List V)
 |[]=>pure []
 |e::r=>bif noStar e then do let v<-L.E sc ρ e;let vs<-eJ L sc ρ r;pure (v::vs) else ak
noncomputable def dH (L:Lv) (sc:Scope) (ρ:ao):Option Expr->AM (Option Int)
 |none=>pure none
 |some e=>do let v<-L.E sc ρ e;let i<-aR v;pure (some i)
noncomputable def i9:Expr->Bool
 |.Set .. =>false
 |_=>true
noncomputable def ew:Expr->Bool
 |.Slice .. =>false
 |_=>true
noncomputable def jy:Expr->Bool
 |.Name .. =>true
 |.Attribute .. =>true
 |.Subscript .. =>true
 |.Call _ as _ _=> !as.isEmpty
 |_=>false
noncomputable def rN (L:Lv) (sc:Scope) (ρ:ao) (left:V):List CmpOp->List Expr->AM Bool
 |op::ops,e::es=>match ops with
  |[]=>bif es.isEmpty&&i9 e then do let r<-L.E sc ρ e;bQ op left r else ak
  |_::_=>do
   let r<-L.E sc ρ e
   let c<-bQ op left r
   if c then rN L sc ρ r ops es else pure false
 |_,_=>ak
noncomputable def qT (op:BoolOp) (b:Bool) (m:AM Bool):AM Bool:=match op,b with
 |.And,false=>pure false
 |.Or,true=>pure true
 |_,_=>m
noncomputable def Hn (L:Lv) (sc:Scope) (ρ:ao) (op:BoolOp):List Expr->AM Bool
 |[]=>ak
 |[e]=>do let v<-L.E sc ρ e;ck v
 |e::es=>do
  let v<-L.E sc ρ e
  let b<-ck v
  qT op b (Hn L sc ρ op es)
noncomputable def Hl (L:Lv) (sc:Scope) (ρ:ao) (op:BoolOp):List Expr->AM Bool
 |[]=>pure (match op with|.And=>true|.Or=>false)
 |e::es=>do
  let b<-L.T sc ρ e
  qT op b (Hl L sc ρ op es)
noncomputable def nJ (sc:Scope) (ρ:ao) (x:Str):AM V:=bif x==("__debug__":Str)||x==("__classdict__":Str) then ak else bif K3 (sc.names.lookup x) then ρ.get x else
 bif FZ (sc.names.lookup x)&&x==("LONGEST":Str) then pure (.int 4194304) else ak
noncomputable def Bz:Const->AM V
 |.none=>pure .none
 |.bool b=>pure (.bool b)
 |.int i=>pure (.int i)
 |.str s=>pure (.str s)
 |_=>ak
noncomputable def putN (sc:Scope) (ρ:ao) (x:Str) (v:V):AM ao:=bif Dy (sc.names.lookup x)&&(ρ.lookup x).isSome then pure (ρ.set x v) else ak
noncomputable def hG (sc:Scope):ao->List Expr->List V->AM ao
 |ρ,[],[]=>pure ρ
 |ρ,e::es,v::vs=>match bI e with
  |some x=>do let ρ<-putN sc ρ x v;hG sc ρ es vs
  |none=>ak
 |_,_,_=>ak
noncomputable def gR (sc:Scope) (t:Expr) (ρ:ao) (v:V):AM ao:=match t with
 |.Name x _=>putN sc ρ x v
 |.Tuple es _ _=>match v with
  |.ref n=>do match<-look n with
   |.tup l=>hG sc ρ es l
   |_=>ak
  |_=>ak
 |_=>ak
noncomputable def own (sc:Scope) (binds:List (Str×V)):ao:=sc.names.filterMap λp=>bif Dy (sc.names.lookup p.1) then some (p.1,binds.lookup p.1) else none
noncomputable def A7:V->V->Bool
 |.none,.none=>true
 |.bool a,.bool b=>a==b
 |.int a,.int b=>decide (a=b)
 |.str a,.str b=>a==b
 |.ref a,.ref b=>Nat.beq a b
 |_,_=>false
noncomputable def qy:List V->List V->Bool
 |[],[]=>true
 |a::l,b::m=>A7 a b&&qy l m
 |_,_=>false
noncomputable def aF (v:V):AM (Nat×List V):=match v with
 |.ref n=>do match<-look n with
  |.list l=>pure (0,l)
  |.tup l=>pure (1,l)
  |.rng k=>pure (2,(List.range k.toNat).map λ(i:Nat)=>V.int (Int.ofNat i))
  |_=>ak
 |_=>ak
noncomputable def qe (v:V) (kl:Nat×List V):AM Unit:=do
 let q<-aF v
 bif Nat.beq q.1 kl.1&&qy q.2 kl.2 then pure () else ak
noncomputable def Ja (L:Lv) (sc:Scope) (ρ:ao):List Expr->AM Bool
 |[]=>pure true
 |[c]=>L.T sc ρ c
 |_=>ak
noncomputable def gy (L:Lv) (sc:Scope) (it:V) (all:Nat×List V) (t:Expr) (ifs:List Expr) (elt:Expr):ao->List V->List V->AM (List V)
 |_,[],acc=>do qe it all;pure acc
 |ρ,x::xs,acc=>do
  qe it all
  let ρ<-gR sc t ρ x
  let b<-Ja L sc ρ ifs
  if b then do
   let v<-L.E sc ρ elt
   gy L sc it all t ifs elt ρ xs (acc++[v])
  else gy L sc it all t ifs elt ρ xs acc
noncomputable def wM (sc csc:Scope) (ρ:ao):Bool:=decide ((csc.names.map (·.1)).Nodup)&&(csc.kind==.function)&&csc.names.all λp=>match p.2 with
 |.free=>(match sc.names.lookup p.1 with|some .cell|some .free=>true|_=>false)&&(ρ.lookup p.1).isSome
 |.cell=>false
 |_=>true
noncomputable def I5 (L:Lv) (sc:Scope) (ρ:ao):List Expr->AM V
 |[a,t]=>match bI t with
  |some ty=>bif noStar a&&FZ (sc.names.lookup ty) then do let v<-L.E sc ρ a;isType ty v else ak
  |none=>ak
 |_=>ak
noncomputable def eX (tab:Tab) (L:Lv) (sc:Scope) (ρ:ao) (o:V) (f:Str) (args:List Expr):AM V:=match o with
 |.ref n=>do match<-look n with
  |.inst c fs=>bif (fs.lookup f).isSome then ak else match tab.tg c f with
   |some g=>do let vs<-eJ L sc ρ args;g (.ref n::vs)
   |none=>ak
  |o=>match v9 f with
   |some k=>bif nh k o then do
    let vs<-eJ L sc ρ args
    let o<-look n
    jm k n o vs
    else ak
   |none=>ak
 |_=>ak
noncomputable def BM (tab:Tab) (L:Lv) (sc:Scope) (ρ:ao) (f:Str) (args:List Expr):AM V:=bif FZ (sc.names.lookup f) then
 bif f==("isinstance":Str) then I5 L sc ρ args
 else match Dj f with
  |some k=>do let vs<-eJ L sc ρ args;cE k vs
  |none=>match tab.fn f with
   |some g=>do let vs<-eJ L sc ρ args;g vs
   |none=>ak
 else ak
noncomputable def uK (tab:Tab) (L:Lv) (sc:Scope) (ρ:ao) (fn:Expr) (args:List Expr) (pos:Pos):AM V:=match bI fn with
 |some f=>BM tab L sc ρ f args
 |none=>match dq fn with
  |some (ob,f,apos)=>bif apos.endLine==pos.line then match bI ob with
   |some b=>bif b==("NAMES":Str) then
     bif FZ (sc.names.lookup b)&&f==("index":Str) then do let vs<-eJ L sc ρ args;eC vs else ak
    else do let o<-nJ sc ρ b;eX tab L sc ρ o f args
   |none=>match dq ob with
    |some _=>do let o<-L.E sc ρ ob;eX tab L sc ρ o f args
    |none=>ak
   else ak
  |none=>ak
noncomputable def lY (L:Lv) (sc:Scope) (ρ:ao) (csc:Scope) (elt t iter:Expr) (ifs:List Expr):AM V:=bif i9 iter then do
  let it<-L.E sc ρ iter
  let l<-aF it
  bif wM sc csc ρ then do
  let out<-gy L csc it l t ifs elt (own csc []++ρ) l.2 []
  ba (.list out)
  else ak
  else ak
noncomputable def K7 (tab:Tab) (L:Lv) (sc:Scope) (ρ:ao) (e:Expr):AM V:=match e with
 |.Constant c _ _=>Bz c
 |.Name x _=>nJ sc ρ x
 |.BoolOp op vs _=>do let b<-Hn L sc ρ op vs;pure (.bool b)
 |.BinOp l op r _=>do let a<-L.E sc ρ l;let b<-L.E sc ρ r;dI op a b
 |.UnaryOp op x _=>match op with
  |.Not=>do let v<-L.E sc ρ x;let b<-ck v;pure (.bool (!b))
  |.USub=>do let v<-L.E sc ρ x;let i<-aR v;pure (.int (-i))
  |_=>ak
 |.IfExp t a b _=>do let c<-L.T sc ρ t;if c then L.E sc ρ a else L.E sc ρ b
 |.Dict ks vs _=>bif ks.isEmpty&&vs.isEmpty then ba (.dict []) else ak
 |.List es _=>do let l<-eJ L sc ρ es;ba (.list l)
 |.Tuple es _ _=>do let l<-eJ L sc ρ es;ba (.tup l)
 |.Compare l ops cs _=>do let a<-L.E sc ρ l;let b<-rN L sc ρ a ops cs;pure (.bool b)
 |.Attribute o f _=>bif jy o then do let v<-L.E sc ρ o;aV v f else ak
 |.Subscript o i _=>match da i with
  |some (lo,hi)=>do
   let v<-L.E sc ρ o
   let l<-dH L sc ρ lo
   let h<-dH L sc ρ hi
   bH v l h
  |none=>bif ew i then do let v<-L.E sc ρ o;let k<-L.E sc ρ i;gn v k else ak
 |.ListComp a b c d=>match eV (.ListComp a b c d) with
  |some (elt,t,iter,ifs,csc)=>lY L sc ρ csc elt t iter ifs
  |none=>ak
 |.Call fn args kws pos=>bif kws.isEmpty&&Nat.ble args.length 10 then uK tab L sc ρ fn args pos else ak
 |_=>ak
noncomputable def K5 (L:Lv) (sc:Scope) (ρ:ao) (e:Expr):AM Bool:=match e with
 |.UnaryOp .Not x _=>do let b<-L.T sc ρ x;pure (!b)
 |.BoolOp op vs _=>Hl L sc ρ op vs
 |.Compare l ops cs _=>do let a<-L.E sc ρ l;rN L sc ρ a ops cs
 |.IfExp _ _ _ _=>ak
 |e=>do let v<-L.E sc ρ e;ck v
noncomputable def lv (tab:Tab):Nat->Lv
 |0=>⟨λu_ u_ u_=>ak,λu_ u_ u_=>ak⟩
 |n+1=>⟨K7 tab (lv tab n),K5 (lv tab n)⟩
inductive Fl where
 |next
 |ret (v:V)
noncomputable def cJ (T:ao->AM Bool) (B:ao->AM (Fl×ao)):Nat->ao->AM (Option (Fl×ao))
 |0,_=>pure none
 |n+1,ρ=>do
  let b<-T ρ
  if b then do
   let(f,ρ)<-B ρ
   match f with
   |.next=>cJ T B n ρ
   |.ret v=>pure (some (.ret v,ρ))
  else pure (some (.next,ρ))
open Classical in
noncomputable def aH (T:ao->AM Bool) (B:ao->AM (Fl×ao)) (ρ:ao):AM (Fl×ao):=λH=>
 if h:∃n r H',cJ T B n ρ H=some (some r,H') then
  let n:=h.choose
  match cJ T B n ρ H with
  |some (some r,H')=>some (r,H')
  |_=>none
 else none
noncomputable def oM (sc:Scope) (B:ao->AM (Fl×ao)) (t:Expr) (it:V) (all:Nat×List V):ao->List V->AM (Fl×ao)
 |ρ,[]=>do qe it all;pure (.next,ρ)
 |ρ,x::xs=>do
  qe it all
  let ρ<-gR sc t ρ x
  let(f,ρ)<-B ρ
  match f with
  |.next=>oM sc B t it all ρ xs
  |.ret v=>pure (.ret v,ρ)
noncomputable def oP:List Expr->Option (Expr×Str×Expr×Str)
 |[a,b]=>match dq a,dq b with
  |some (o,f,_),some (o',f',_)=>some (o,f,o',f')
  |_,_=>none
 |_=>none
noncomputable def two (v:V):AM (V×V):=match v with
 |.ref n=>do match<-look n with
  |.tup [a,b]=>pure (a,b)
  |_=>ak
 |_=>ak
noncomputable def iU (L:Lv) (sc:Scope) (ρ:ao) (t:Expr) (v:V):AM ao:=match t with
 |.Attribute o f _=>do let ov<-L.E sc ρ o;bZ ov f v;pure ρ
 |.Subscript o i _=>match da i with
  |some (lo,hi)=>do
   let ov<-L.E sc ρ o
   let l<-dH L sc ρ lo
   let h<-dH L sc ρ hi
   cM ov l h v
   pure ρ
  |none=>bif ew i then do let ov<-L.E sc ρ o;let iv<-L.E sc ρ i;putItem ov iv v;pure ρ else ak
 |.Tuple es k p=>match oP es with
  |some (o,f,o',f')=>do
   let ab<-two v
   let ov<-L.E sc ρ o
   bZ ov f ab.1
   let ov<-L.E sc ρ o'
   bZ ov f' ab.2
   pure ρ
  |none=>gR sc (.Tuple es k p) ρ v
 |t=>gR sc t ρ v
noncomputable def p8:Expr->Option (List Expr)
 |.Tuple ts _ _=>some ts
 |_=>none
noncomputable def En:Expr->Bool
 |.List .. =>false
 |_=>true
noncomputable def dg (t e:Expr):Bool:=En t&&match p8 t,p8 e with
 |some ts,some vs=>Nat.beq ts.length 2&&Nat.beq vs.length 2&& !vs.all (constantsAlone 8)&&vs.all noStar
 |_,_=>true
noncomputable def ja:Expr->Bool
 |.ListComp .. =>false
 |.SetComp .. =>false
 |.DictComp .. =>false
 |_=>true
noncomputable def rhs (L:Lv) (sc:Scope) (ρ:ao) (e:Expr):AM V:=match eV e with
 |some (elt,t,iter,ifs,csc)=>lY L sc ρ csc elt t iter ifs
 |none=>bif ja e then L.E sc ρ e else ak
noncomputable def K4 (W:(ao->AM Bool)->(ao->AM (Fl×ao))->ao->AM (Fl×ao)) (tab:Tab) (L:Lv) (X:Scope->ao->List Stmt->AM (Fl×ao)) (sc:Scope) (ρ:ao) (s:Stmt):AM (Fl×ao):=match s with
 |.Expr e _=>bif ja e then do let _<-L.E sc ρ e;pure (.next,ρ) else ak
 |.Return e _=>match e with
  |some e=>do let v<-L.E sc ρ e;pure (.ret v,ρ)
  |none=>pure (.ret .none,ρ)
 |.Assign ts e _=>match ts with
  |[t]=>bif dg t e&&noStar t then do
   let v<-rhs L sc ρ e
   let ρ<-iU L sc ρ t v
   pure (.next,ρ)
   else ak
  |_=>ak
 |.If t a b _=>do let c<-L.T sc ρ t;if c then X sc ρ a else X sc ρ b
 |.While t b q _=>match q with
  |[]=>W (λρ=>L.T sc ρ t) (λρ=>X sc ρ b) ρ
  |_=>ak
 |.For t iter b q _=>bif q.isEmpty&&i9 iter then do
  let it<-L.E sc ρ iter
  let l<-aF it
  oM sc (λρ=>X sc ρ b) t it l ρ l.2
  else ak
 |_=>ak
noncomputable def JS (S:ao->Stmt->AM (Fl×ao)):ao->List Stmt->AM (Fl×ao)
 |ρ,[]=>pure (.next,ρ)
 |ρ,s::r=>do
  let(f,ρ)<-S ρ s
  match f with
  |.next=>JS S ρ r
  |.ret v=>pure (.ret v,ρ)
noncomputable def bl (W:(ao->AM Bool)->(ao->AM (Fl×ao))->ao->AM (Fl×ao)) (tab:Tab) (L:Lv):Nat->Scope->ao->List Stmt->AM (Fl×ao)
 |0=>λu_ u_ u_=>ak
 |n+1=>λsc ρ b=>JS (K4 W tab L (bl W tab L n) sc) ρ b
noncomputable def BQ (ps:List Str) (as d:List V):Option (List (Str×V)):=
 if as.length+d.length=ps.length then some (ps.zip (as++d)) else none
structure Def where
 params:List Str
 body:List Stmt
 scope:Scope
 dflt:List V
noncomputable def aU (W:(ao->AM Bool)->(ao->AM (Fl×ao))->ao->AM (Fl×ao)) (tab:Tab) (d:Def) (args:List V):AM V:=
 match BQ d.params args d.dflt with
 |some b=>do
  let(f,_)<-bl W tab (lv tab 24) 8 d.scope (own d.scope b) d.body
  match f with
  |.ret v=>pure v
  |.next=>pure .none
 |none=>ak
end Mi
namespace Mi
open PySem
section
variable {α β:Type}{R R':α->β->Prop}
noncomputable def aS (R:α->β->Prop):List α->List β->Prop
 |[],[]=>True
 |a::l,b::m=>R a b/\aS R l m
 |_,_=>False
theorem aS.ind {R:α->β->Prop}{P:List α->List β->Prop}{l:List α}{m:List β}(h:aS R l m) (n:P [] []) (c:∀a b l m,R a b->aS R l m->P l m->P (a::l) (b::m)):P l m:=by
 induction l generalizing m with
 |nil=>induction m with
  |nil=>exact n
  |cons=>exact h.elim
 |cons a l ih=>induction m with
  |nil=>exact h.elim
  |cons b m=>exact c a b l m h.1 h.2 (ih h.2)
theorem aS.mono (h:∀a b,R a b->R' a b) {l:List α}{m:List β}(x:aS R l m):aS R' l m:=x.ind (P:=aS R') trivial λa b u_ u_ r u_ i=>⟨h a b r,i⟩
theorem aS.app {l:List α}{m:List β}{l':List α}{m':List β}(x:aS R l m) (y:aS R l' m'):aS R (l++l') (m++m'):=x.ind (P:=λl m=>aS R (l++l') (m++m')) y λu_ u_ u_ u_ r u_ i=>⟨r,i⟩
theorem aS.len {l:List α}{m:List β}(x:aS R l m):l.length=m.length:=x.ind (P:=λl m=>l.length=m.length) rfl λu_ u_ u_ u_ u_ u_ i=>congrArg (·+1) i
theorem aS.take (n:Nat) {l:List α}{m:List β}(x:aS R l m):aS R (l.take n) (m.take n):=x.ind (P:=λl m=>∀n,aS R (l.take n) (m.take n)) (λn=>by induction n<;>trivial) (λu_ u_ u_ u_ r u_ i n=>by induction n with|zero=>trivial|succ n=>exact⟨r,i n⟩) n
theorem aS.drop (n:Nat) {l:List α}{m:List β}(x:aS R l m):aS R (l.drop n) (m.drop n):=x.ind (P:=λl m=>∀n,aS R (l.drop n) (m.drop n)) (λn=>by induction n<;>trivial) (λu_ u_ u_ u_ r x i n=>by induction n with|zero=>exact⟨r,x⟩|succ n=>exact i n) n
theorem aS.set (n:Nat) {v:α}{c:β}{l:List α}{m:List β}(x:aS R l m) (y:R v c):aS R (l.set n v) (m.set n c):=x.ind (P:=λl m=>∀n,aS R (l.set n v) (m.set n c)) (λu_=>trivial) (λu_ u_ u_ u_ r x i n=>by induction n with|zero=>exact⟨y,x⟩|succ n=>exact⟨r,i n⟩) n
theorem aS.rep {a:α}{b:β}(h:R a b) {n:Nat}:aS R (List.replicate n a) (List.replicate n b):=by
 induction n with
 |zero=>trivial
 |succ n ih=>exact⟨h,ih⟩
theorem aS.get {l:List α}{m:List β}(x:aS R l m) {i:Nat}{b:β}(e:m[i]? =some b):∃a,l[i]? =some a/\R a b:=x.ind (P:=λl m=>∀i,m[i]? =some b->∃a,l[i]? =some a/\R a b) (λu_ e=>by cases e) (λa u_ u_ u_ r u_ k i e=>by induction i with|zero=>obtain rfl:=Option.some.inj e;exact⟨a,rfl,r⟩|succ i=>exact k i e) i e
theorem aS.got {l:List α}{m:List β}(x:aS R l m) {i:Nat}{a:α}(e:l[i]? =some a):∃b,m[i]? =some b/\R a b:=x.ind (P:=λl m=>∀i,l[i]? =some a->∃b,m[i]? =some b/\R a b) (λu_ e=>by cases e) (λu_ b u_ u_ r u_ k i e=>by induction i with|zero=>obtain rfl:=Option.some.inj e;exact⟨b,rfl,r⟩|succ i=>exact k i e) i e
theorem aS.uniq (h:∀a b c,R a b->R a c->b=c) {l:List α}{m m':List β}(x:aS R l m) (y:aS R l m'):m=m':=x.ind (P:=λl m=>∀m',aS R l m'->m=m') (λm' y=>by induction m' with|nil=>rfl|cons=>exact y.elim) (λa b u_ u_ r u_ i m' y=>by induction m' with|nil=>exact y.elim|cons c m'=>exact wr (h a b c r y.1) (wr (i m' y.2) rfl)) m' y
theorem aS.split {l l':List α}{m:List β}(x:aS R (l++l') m):∃a b,m=a++b/\aS R l a/\aS R l' b:=by
 induction l generalizing m with
 |nil=>exact⟨[],m,rfl,trivial,x⟩
 |cons a l ih=>induction m with
  |nil=>exact x.elim
  |cons c m=>obtain⟨p,q,e,h1,h2⟩:=ih x.2;exact⟨c::p,q,congrArg (c::·) e,⟨x.1,h1⟩,h2⟩
end
def ok {α:Type}(m:AM α) (Q:α->AH->Prop) (H:AH):Prop:=∃v H',m H=some (v,H')/\Q v H'
noncomputable abbrev KV:=V->AH->Prop
noncomputable abbrev KB:=Bool->AH->Prop
def Kz (ρ:ao) (x:Str) (Q:KV) (H:AH):Prop:=match ρ.lookup x with|some (some v)=>Q v H|_=>False
def eA (f:Fl) (N:Prop) (R:V->Prop):Prop:=match f with|.next=>N|.ret v=>R v
structure Lk where
 E:Scope->ao->Expr->KV->AH->Prop
 T:Scope->ao->Expr->KB->AH->Prop
noncomputable def ae (tab:Tab) (f:Str) (vs:List V):AM V:=match tab.fn f with|some g=>g vs|none=>ak
noncomputable def bB (tab:Tab) (c f:Str) (vs:List V):AM V:=match tab.tg c f with|some g=>g vs|none=>ak
def Er (tab:Tab) (f:Str) (A:(List V->AH->Prop)->AH->Prop) (n:Nat) (ob:O) (Q:KV) (H:AH):Prop:=match ob with
 |.inst c fs=>fs.lookup f=none/\A (λvs H=>ok (bB tab c f (.ref n::vs)) Q H) H
 |ob=>match v9 f with
  |some k=>nh k ob=true/\A (λvs H=>∃o',H.at_ n=some o'/\ok (jm k n o' vs) Q H) H
  |none=>False
def aA (tab:Tab) (v:V) (f:Str) (A:(List V->AH->Prop)->AH->Prop) (Q:KV) (H:AH):Prop:=∃n ob,v=.ref n/\H.at_ n=some ob/\Er tab f A n ob Q H
noncomputable def lT (L:Lk) (sc:Scope) (ρ:ao):List Expr->(List V->AH->Prop)->AH->Prop
 |[],Q,H=>Q [] H
 |e::r,Q,H=>cond (noStar e) (L.E sc ρ e (λv H=>lT L sc ρ r (λvs H=>Q (v::vs) H) H) H) False
noncomputable def vJ (L:Lk) (sc:Scope) (ρ:ao):Option Expr->(Option Int->AH->Prop)->AH->Prop
 |none,Q,H=>Q none H
 |some e,Q,H=>L.E sc ρ e (λv H=>ok (aR v) (λi H=>Q (some i) H) H) H
noncomputable def wQ (L:Lk) (sc:Scope) (ρ:ao) (left:V):List CmpOp->List Expr->KB->AH->Prop
 |op::ops,e::es,Q,H=>match ops with
  |[]=>cond (es.isEmpty&&i9 e) (L.E sc ρ e (λr H=>ok (bQ op left r) Q H) H) False
  |_::_=>L.E sc ρ e (λr H=>ok (bQ op left r) (λc H=>cond c (wQ L sc ρ r ops es Q H) (Q false H)) H) H
 |_,_,_,_=>False
noncomputable def BW (L:Lk) (sc:Scope) (ρ:ao) (op:BoolOp):List Expr->KB->AH->Prop
 |[],_,_=>False
 |[e],Q,H=>L.E sc ρ e (λv H=>ok (ck v) Q H) H
 |e::es,Q,H=>L.E sc ρ e (λv H=>ok (ck v) (λb H=>match op with
  |.And=>cond b (BW L sc ρ op es Q H) (Q false H)
  |.Or=>cond b (Q true H) (BW L sc ρ op es Q H)) H) H
noncomputable def BV (L:Lk) (sc:Scope) (ρ:ao) (op:BoolOp):List Expr->KB->AH->Prop
 |[],Q,H=>Q (match op with|.And=>true|.Or=>false) H
 |e::es,Q,H=>L.T sc ρ e (λb H=>match op with
  |.And=>cond b (BV L sc ρ op es Q H) (Q false H)
  |.Or=>cond b (Q true H) (BV L sc ρ op es Q H)) H
def Bi (sc:Scope) (ρ:ao) (x:Str) (Q:KV) (H:AH):Prop:=cond (x==("__debug__":Str)||x==("__classdict__":Str)) False (cond (K3 (sc.names.lookup x)) (Kz ρ x Q H)
 (cond (FZ (sc.names.lookup x)&&x==("LONGEST":Str)) (Q (.int 4194304) H) False))
def Js (c:Const) (Q:KV) (H:AH):Prop:=match c with
 |.none=>Q .none H
 |.bool b=>Q (.bool b) H
 |.int i=>Q (.int i) H
 |.str s=>Q (.str s) H
 |_=>False
def I4 (L:Lk) (sc:Scope) (ρ:ao) (es:List Expr) (Q:KV) (H:AH):Prop:=match es with
 |[a,t]=>match bI t with
  |some ty=>cond (noStar a&&FZ (sc.names.lookup ty)) (L.E sc ρ a (λv H=>ok (isType ty v) Q H) H) False
  |none=>False
 |_=>False
def BH (L0:Lv) (L:Lk) (sc:Scope) (ρ:ao) (csc:Scope) (elt t iter:Expr) (ifs:List Expr) (Q:KV) (H:AH):Prop:=cond (i9 iter)
 (L.E sc ρ iter (λit H=>ok (aF it) (λl H=>cond (wM sc csc ρ) (ok (gy L0 csc it l t ifs elt (own csc []++ρ) l.2 []) (λout H=>ok (ba (.list out)) Q H) H) False) H) H) False
def Fs (tab:Tab) (L:Lk) (sc:Scope) (ρ:ao) (f:Str) (args:List Expr) (Q:KV) (H:AH):Prop:=cond (FZ (sc.names.lookup f)) (cond (f==("isinstance":Str)) (I4 L sc ρ args Q H) (match Dj f with
    |some k=>lT L sc ρ args (λvs H=>ok (cE k vs) Q H) H
    |none=>lT L sc ρ args (λvs H=>ok (ae tab f vs) Q H) H)) False
def AI (tab:Tab) (L:Lk) (sc:Scope) (ρ:ao) (fn:Expr) (args:List Expr) (pos:Pos) (Q:KV) (H:AH):Prop:=match bI fn with
 |some f=>Fs tab L sc ρ f args Q H
 |none=>match dq fn with
  |some (ob,f,apos)=>cond (apos.endLine==pos.line) (match bI ob with
   |some b=>cond (b==("NAMES":Str))
     (cond (FZ (sc.names.lookup b)&&f==("index":Str)) (lT L sc ρ args (λvs H=>ok (eC vs) Q H) H) False)
     (Bi sc ρ b (λo H=>aA tab o f (lT L sc ρ args) Q H) H)
   |none=>match dq ob with
    |some _=>L.E sc ρ ob (λo H=>aA tab o f (lT L sc ρ args) Q H) H
    |none=>False) False
  |none=>False
def LJ (tab:Tab) (L0:Lv) (L:Lk) (sc:Scope) (ρ:ao) (e:Expr) (Q:KV) (H:AH):Prop:=match e with
 |.Constant c _ _=>Js c Q H
 |.Name x _=>Bi sc ρ x Q H
 |.BoolOp op vs _=>BW L sc ρ op vs (λb H=>Q (.bool b) H) H
 |.BinOp l op r _=>L.E sc ρ l (λa H=>L.E sc ρ r (λb H=>ok (dI op a b) Q H) H) H
 |.UnaryOp op x _=>match op with
  |.Not=>L.E sc ρ x (λv H=>ok (ck v) (λb H=>Q (.bool (!b)) H) H) H
  |.USub=>L.E sc ρ x (λv H=>ok (aR v) (λb H=>Q (.int (-b)) H) H) H
  |_=>False
 |.IfExp t a b _=>L.T sc ρ t (λc H=>cond c (L.E sc ρ a Q H) (L.E sc ρ b Q H)) H
 |.Dict ks vs _=>cond (ks.isEmpty&&vs.isEmpty) (ok (ba (.dict [])) Q H) False
 |.List es _=>lT L sc ρ es (λl H=>ok (ba (.list l)) Q H) H
 |.Tuple es _ _=>lT L sc ρ es (λl H=>ok (ba (.tup l)) Q H) H
 |.Compare l ops cs _=>L.E sc ρ l (λa H=>wQ L sc ρ a ops cs (λb H=>Q (.bool b) H) H) H
 |.Attribute o f _=>cond (jy o) (L.E sc ρ o (λv H=>ok (aV v f) Q H) H) False
 |.Subscript o i _=>match da i with
  |some (lo,hi)=>L.E sc ρ o (λv H=>vJ L sc ρ lo (λl H=>vJ L sc ρ hi (λh H=>ok (bH v l h) Q H) H) H) H
  |none=>cond (ew i) (L.E sc ρ o (λv H=>L.E sc ρ i (λk H=>ok (gn v k) Q H) H) H) False
 |.ListComp a b c d=>match eV (.ListComp a b c d) with
  |some (elt,t,iter,ifs,csc)=>BH L0 L sc ρ csc elt t iter ifs Q H
  |none=>False
 |.Call fn args kws pos=>cond (kws.isEmpty&&Nat.ble args.length 10) (AI tab L sc ρ fn args pos Q H) False
 |_=>False
def Jm (L:Lk) (sc:Scope) (ρ:ao) (e:Expr) (Q:KB) (H:AH):Prop:=match e with
 |.UnaryOp .Not x _=>L.T sc ρ x (λb H=>Q (!b) H) H
 |.BoolOp op vs _=>BV L sc ρ op vs Q H
 |.Compare l ops cs _=>L.E sc ρ l (λa H=>wQ L sc ρ a ops cs Q H) H
 |.IfExp _ _ _ _=>False
 |e=>L.E sc ρ e (λv H=>ok (ck v) Q H) H
noncomputable def lk (tab:Tab):Nat->Lk
 |0=>⟨λu_ u_ u_ u_ u_=>False,λu_ u_ u_ u_ u_=>False⟩
 |n+1=>⟨LJ tab (lv tab n) (lk tab n),Jm (lk tab n)⟩
noncomputable abbrev KF:=Fl->ao->AH->Prop
noncomputable abbrev KR:=ao->AH->Prop
def iM (sc:Scope) (ρ:ao) (x:Str) (v:V) (K:KR) (H:AH):Prop:=cond (Dy (sc.names.lookup x)&&(ρ.lookup x).isSome) (K (ρ.set x v) H) False
def tZ (v:V) (P:V->V->Prop) (H:AH):Prop:=∃n a b,v=.ref n/\H.at_ n=some (.tup [a,b])/\P a b
def Lb (v:V) (P:V->V->V->Prop) (H:AH):Prop:=∃n a b c,v=.ref n/\H.at_ n=some (.tup [a,b,c])/\P a b c
noncomputable def namesOf:List Expr->Option (List Str)
 |[]=>some []
 |e::es=>match bI e,namesOf es with
  |some x,some xs=>some (x::xs)
  |_,_=>none
def jn (sc:Scope) (t:Expr) (ρ:ao) (v:V) (K:KR) (H:AH):Prop:=match t with
 |.Name x _=>iM sc ρ x v K H
 |.Tuple es _ _=>match namesOf es with
  |some [x,y]=>tZ v (λa b=>iM sc ρ x a (λρ H=>iM sc ρ y b K H) H) H
  |some [x,y,z]=>Lb v (λa b c=>iM sc ρ x a (λρ H=>iM sc ρ y b (λρ H=>iM sc ρ z c K H) H) H) H
  |_=>False
 |_=>False
def zz (L:Lk) (sc:Scope) (ρ:ao) (t:Expr) (v:V) (K:KR) (H:AH):Prop:=match t with
 |.Attribute o f _=>L.E sc ρ o (λov H=>ok (bZ ov f v) (λu_ H=>K ρ H) H) H
 |.Subscript o i _=>match da i with
  |some (lo,hi)=>L.E sc ρ o (λov H=>vJ L sc ρ lo (λl H=>vJ L sc ρ hi (λh H=>ok (cM ov l h v) (λu_ H=>K ρ H) H) H) H) H
  |none=>cond (ew i) (L.E sc ρ o (λov H=>L.E sc ρ i (λiv H=>ok (putItem ov iv v) (λu_ H=>K ρ H) H) H) H) False
 |.Tuple es k p=>match oP es with
  |some (o,f,o',f')=>tZ v (λa b=>L.E sc ρ o (λov H=>ok (bZ ov f a) (λu_ H=>L.E sc ρ o' (λov H=>ok (bZ ov f' b) (λu_ H=>K ρ H) H) H) H) H) H
  |none=>jn sc (.Tuple es k p) ρ v K H
 |t=>jn sc t ρ v K H
def Ig (L0:Lv) (L:Lk) (sc:Scope) (ρ:ao) (e:Expr) (Q:KV) (H:AH):Prop:=match eV e with
 |some (elt,t,iter,ifs,csc)=>BH L0 L sc ρ csc elt t iter ifs Q H
 |none=>cond (ja e) (L.E sc ρ e Q H) False
noncomputable abbrev WT:=(ao->AM Bool)->(ao->AM (Fl×ao))->ao->AM (Fl×ao)
def G5 (W:WT) (L0:Lv) (L:Lk) (X0:Scope->ao->List Stmt->AM (Fl×ao)) (X:Scope->ao->List Stmt->KF->AH->Prop) (sc:Scope) (ρ:ao) (s:Stmt) (K:KF) (H:AH):Prop:=match s with
 |.Expr e _=>cond (ja e) (L.E sc ρ e (λu_ H=>K .next ρ H) H) False
 |.Return e _=>match e with
  |some e=>L.E sc ρ e (λv H=>K (.ret v) ρ H) H
  |none=>K (.ret .none) ρ H
 |.Assign ts e _=>match ts with
  |[t]=>cond (dg t e&&noStar t) (Ig L0 L sc ρ e (λv H=>zz L sc ρ t v (λρ H=>K .next ρ H) H) H) False
  |_=>False
 |.If t a b _=>L.T sc ρ t (λc H=>cond c (X sc ρ a K H) (X sc ρ b K H)) H
 |.While t b q _=>match q with
  |[]=>ok (W (λρ=>L0.T sc ρ t) (λρ=>X0 sc ρ b) ρ) (λr H=>K r.1 r.2 H) H
  |_=>False
 |.For t iter b q _=>cond (q.isEmpty&&i9 iter) (L.E sc ρ iter (λit H=>ok (aF it) (λl H=>ok (oM sc (λρ=>X0 sc ρ b) t it l ρ l.2) (λr H=>K r.1 r.2 H) H) H) H) False
 |_=>False
noncomputable def E0 (S:ao->Stmt->KF->AH->Prop):ao->List Stmt->KF->AH->Prop
 |ρ,[],K,H=>K .next ρ H
 |ρ,s::r,K,H=>S ρ s (λf ρ H=>eA f (E0 S ρ r K H) (λv=>K (.ret v) ρ H)) H
noncomputable def JT (W:WT) (tab:Tab) (L0:Lv) (L:Lk):Nat->Scope->ao->List Stmt->KF->AH->Prop
 |0=>λu_ u_ u_ u_ u_=>False
 |n+1=>λsc ρ b K H=>E0 (G5 W L0 L (bl W tab L0 n) (JT W tab L0 L n) sc) ρ b K H
def runK (W:WT) (tab:Tab) (d:Def) (args:List V) (Q:KV) (H:AH):Prop:=match BQ d.params args d.dflt with
 |some b=>JT W tab (lv tab 24) (lk tab 24) 8 d.scope (own d.scope b) d.body (λf u_ H=>eA f (Q .none H) (λv=>Q v H)) H
 |none=>False
theorem ns {α:Type}{x:α}{P:Prop}(h:none=some x):P:=nomatch h
theorem sn {α:Type}{x:α}{P:Prop}(h:some x=none):P:=nomatch h
theorem nb {P:Prop}(h:false=true):P:=nomatch h
theorem tf {P:Prop}(h:true=false):P:=nomatch h
theorem nm {α:Type}{x:α}{P:Prop}(h:x∈[]):P:=(List.not_mem_nil h).elim
theorem nC {α:Type}{a b:α}{P:Prop}(f:α->Nat) (h:a=b) (k:Nat.beq (f a) (f b)=false):P:=by rw[h,Nat.beq_refl] at k;exact tf k
theorem nO {a b:O}{P:Prop}(h:some a=some b) (k:Nat.beq a.ctorIdx b.ctorIdx=false):P:=nC O.ctorIdx (Option.some.inj h) k
theorem w9 {a b:O}{P:Prop}(h:a=b) (k:Nat.beq a.ctorIdx b.ctorIdx=false):P:=nC O.ctorIdx h k
theorem JO {a b:V}{P:Prop}(h:a=b) (k:Nat.beq a.ctorIdx b.ctorIdx=false):P:=nC V.ctorIdx h k
theorem FX {a b:Value}{P:Prop}(h:a=b) (k:Nat.beq a.ctorIdx b.ctorIdx=false):P:=nC Value.ctorIdx h k
@[elab_as_elim] theorem jD {P:Expr->Prop} {e:Expr} {x:Str} (h:bI e=some x) (k:∀p,P (.Name x p)):P e:=by
 revert h;refine Expr.casesOn e ?_ ?_ ?_ ?_ ?_ ?_ ?_ ?_ ?_ ?_ ?_ ?_ ?_ ?_ ?_ ?_ ?_ ?_ ?_ ?_ ?_ ?_ ?_ ?_ ?_ ?_ ?_<;>(repeat intro u_)<;>first|exact ns u_|exact Option.some.inj u_▸k _
@[elab_as_elim] theorem jH {P:Expr->Prop} {e o:Expr} {f:Str} {p:Pos} (h:dq e=some (o,f,p)) (k:P (.Attribute o f p)):P e:=by
 revert h;refine Expr.casesOn e ?_ ?_ ?_ ?_ ?_ ?_ ?_ ?_ ?_ ?_ ?_ ?_ ?_ ?_ ?_ ?_ ?_ ?_ ?_ ?_ ?_ ?_ ?_ ?_ ?_ ?_ ?_<;>(repeat intro u_)<;>first|exact ns u_|(cases u_;exact k)
@[elab_as_elim] theorem xC {P:Expr->Prop} {e:Expr} {q:Option Expr×Option Expr} (h:da e=some q) (k:∀p,P (.Slice q.1 q.2 none p)):P e:=by
 revert h;refine Expr.casesOn e ?_ ?_ ?_ ?_ ?_ ?_ ?_ ?_ ?_ ?_ ?_ ?_ ?_ ?_ ?_ ?_ ?_ ?_ ?_ ?_ ?_ ?_ ?_ ?_ ?_ ?_ ?_<;>(repeat intro u_)<;>first|exact ns u_|skip
 rename_i s _;rcases s with _|s
 .obtain rfl:=Option.some.inj u_;exact k _
 .exact ns u_
@[elab_as_elim] theorem BE {P:Expr->Prop} {e elt t iter:Expr} {ifs:List Expr} {csc:Scope} (h:eV e=some (elt,t,iter,ifs,csc)) (k:∀p,P (.ListComp elt [⟨t,iter,ifs,0⟩] csc p)):P e:=by
 revert h;refine Expr.casesOn e ?_ ?_ ?_ ?_ ?_ ?_ ?_ ?_ ?_ ?_ ?_ ?_ ?_ ?_ ?_ ?_ ?_ ?_ ?_ ?_ ?_ ?_ ?_ ?_ ?_ ?_ ?_<;>(repeat intro u_)<;>first|exact ns u_|skip
 rename_i g _ _;revert u_
 rcases g with _|⟨⟨_,_,_,n⟩,_|_⟩
 .exact λh=>ns h
 .rcases n with(_|_)|_
  .intro h;cases h;exact k _
  .exact λh=>ns h
  .exact λh=>ns h
 .rcases n with(_|_)|_<;>exact λh=>ns h
theorem JA {es:List Expr}{o o':Expr}{f f':Str}(h:oP es=some (o,f,o',f')):∃p p',es=[.Attribute o f p,.Attribute o' f' p']:=by
 rcases es with _|⟨a,_|⟨b,_|_⟩⟩
 .exact ns h
 .exact ns h
 .have h:(match dq a,dq b with
   |some (o,f,_),some (o',f',_)=>some (o,f,o',f')
   |_,_=>none)=some (o,f,o',f'):=h
  revert h
  rcases ha:dq a with _|⟨o1,f1,p1⟩
  .exact λh=>ns h
  .rcases hb:dq b with _|⟨o2,f2,p2⟩
   .exact λh=>ns h
   .intro h;cases h;exact jH ha (jH hb ⟨p1,p2,rfl⟩)
 .exact ns h
@[elab_as_elim] theorem zq {P:Expr->Prop} {e:Expr} {es:List Expr} (h:p8 e=some es) (k:∀n p,P (.Tuple es n p)):P e:=by
 revert h;refine Expr.casesOn e ?_ ?_ ?_ ?_ ?_ ?_ ?_ ?_ ?_ ?_ ?_ ?_ ?_ ?_ ?_ ?_ ?_ ?_ ?_ ?_ ?_ ?_ ?_ ?_ ?_ ?_ ?_<;>(repeat intro u_)<;>first|exact ns u_|exact Option.some.inj u_▸k _ _
@[elab_as_elim] theorem HL {tab:Tab} {L0:Lv} {L:Lk} {sc:Scope} {ρ:ao} {P:Expr->Prop} (e:Expr)
  (no:∀{e},K7 tab L0 sc ρ e=ak->LJ tab L0 L sc ρ e=(λu_ u_=>False)->P e)
  (bo:∀{op vs p},P (.BoolOp op vs p)) (bi:∀{l op r p},P (.BinOp l op r p)) (un:∀{op x p},P (.UnaryOp op x p)) (ifx:∀{t a b p},P (.IfExp t a b p)) (di:∀{ks vs p},P (.Dict ks vs p))
  (lc:∀{a b c d},P (.ListComp a b c d)) (cm:∀{l ops cs p},P (.Compare l ops cs p)) (ca:∀{fn args kws p},P (.Call fn args kws p)) (co:∀{c k p},P (.Constant c k p)) (at_:∀{o f p},P (.Attribute o f p))
  (su:∀{o i p},P (.Subscript o i p)) (na:∀{x p},P (.Name x p)) (li:∀{es p},P (.List es p)) (tu:∀{es k p},P (.Tuple es k p)):P e:=by
 refine Expr.casesOn e ?_ ?_ ?_ ?_ ?_ ?_ ?_ ?_ ?_ ?_ ?_ ?_ ?_ ?_ ?_ ?_ ?_ ?_ ?_ ?_ ?_ ?_ ?_ ?_ ?_ ?_ ?_<;>(repeat intro u_)<;>first|exact no (Eq.refl ak) (Eq.refl (λu_ u_=>False))|exact bo|exact bi|exact un|exact ifx|exact di|exact lc|exact cm|exact ca|exact co|exact at_|exact su|exact na|exact li|exact tu
@[elab_as_elim] theorem KC {L0:Lv} {L:Lk} {sc:Scope} {ρ:ao} {P:Expr->Prop} (e:Expr) (bo:∀{op vs p},P (.BoolOp op vs p)) (un:∀{op x p},P (.UnaryOp op x p)) (ifx:∀{t a b p},P (.IfExp t a b p)) (cm:∀{l ops cs p},P (.Compare l ops cs p))
  (ot:∀{e},K5 L0 sc ρ e=(do let v<-L0.E sc ρ e;ck v)->Jm L sc ρ e=(λQ H=>L.E sc ρ e (λv H=>ok (ck v) Q H) H)->(∀env,isTrue e env (eval e env)=(do let v<-eval e env;standAt e.pos;holding [v] (truthy v)))->P e):P e:=by
 refine Expr.casesOn e ?_ ?_ ?_ ?_ ?_ ?_ ?_ ?_ ?_ ?_ ?_ ?_ ?_ ?_ ?_ ?_ ?_ ?_ ?_ ?_ ?_ ?_ ?_ ?_ ?_ ?_ ?_<;>(repeat intro u_)<;>first|exact bo|exact un|exact ifx|exact cm|exact ot rfl rfl λu_=>rfl
@[elab_as_elim] theorem DP {L0:Lv} {L:Lk} {sc:Scope} {ρ:ao} {v:V} {P:Expr->Prop} (e:Expr) (ot:∀{e},iU L0 sc ρ e v=gR sc e ρ v->zz L sc ρ e v=jn sc e ρ v->P e) (at_:∀{o f p},P (.Attribute o f p)) (su:∀{o i p},P (.Subscript o i p)) (tu:∀{es k p},P (.Tuple es k p)):P e:=by
 refine Expr.casesOn e ?_ ?_ ?_ ?_ ?_ ?_ ?_ ?_ ?_ ?_ ?_ ?_ ?_ ?_ ?_ ?_ ?_ ?_ ?_ ?_ ?_ ?_ ?_ ?_ ?_ ?_ ?_<;>(repeat intro u_)<;>first|exact at_|exact su|exact tu|exact ot rfl rfl
@[elab_as_elim] theorem Hz {W:WT} {tab:Tab} {L0:Lv} {L:Lk} {X0:Scope->ao->List Stmt->AM (Fl×ao)} {X:Scope->ao->List Stmt->KF->AH->Prop} {sc:Scope} {ρ:ao} {P:Stmt->Prop} (s:Stmt)
  (no:∀{s},K4 W tab L0 X0 sc ρ s=ak->G5 W L0 L X0 X sc ρ s=(λu_ u_=>False)->P s) (ex:∀{e p},P (.Expr e p)) (re:∀{e p},P (.Return e p)) (as:∀{ts e p},P (.Assign ts e p)) (if_:∀{t a b p},P (.If t a b p)) (wh:∀{t b q p},P (.While t b q p)) (fo:∀{t i b q p},P (.For t i b q p)):P s:=by
 refine Stmt.casesOn s ?_ ?_ ?_ ?_ ?_ ?_ ?_ ?_ ?_ ?_ ?_ ?_ ?_ ?_ ?_ ?_ ?_ ?_ ?_ ?_ ?_ ?_ ?_ ?_ ?_ ?_ ?_ ?_<;>(repeat intro u_)<;>first|exact no (Eq.refl ak) (Eq.refl (λu_ u_=>False))|exact ex|exact re|exact as|exact if_|exact wh|exact fo
@[elab_as_elim] theorem HS {P:Expr->Prop} (e:Expr) (no:∀{e},(∀elt gens csc cp l env,swapsWith (.ListComp elt gens csc cp) (some e) l env=pure false)->(∀sc ρ v,gR sc e ρ v=ak)->(∀sc ρ v,jn sc e ρ v=λu_ u_=>False)->P e) (na:∀{x p},P (.Name x p)) (tu:∀{es k p},P (.Tuple es k p)):P e:=by
 refine Expr.casesOn e ?_ ?_ ?_ ?_ ?_ ?_ ?_ ?_ ?_ ?_ ?_ ?_ ?_ ?_ ?_ ?_ ?_ ?_ ?_ ?_ ?_ ?_ ?_ ?_ ?_ ?_ ?_<;>(repeat intro u_)<;>first|exact na|exact tu|exact no (λu_ u_ u_ u_ u_ u_=>rfl) (λu_ u_ u_=>Eq.refl ak) (λu_ u_ u_=>Eq.refl (λu_ u_=>False))
end Mi
namespace Mi
open PySem PySem.W PyProof.Rows
noncomputable abbrev Fi:=List (Addr×Addr)
structure Bs where
 h:Heap
 cl:Str->Option Addr
 K:Frag
 nm:Addr
 gl:Str->Option Value
noncomputable def DG (vs:List Value) (n:Nat):Obj:={cls:=.type "tuple",data:=.seq vs.toArray n}
noncomputable def VR (b:Bs) (Φ:Fi):V->Value->Prop
 |.none,c=>c=.none
 |.bool x,c=>c=.bool x
 |.int i,c=>∃t,c=.int i t
 |.str s,c=>∃t,c=.str s t
 |.ref n,c=>∃p,Φ[n]? =some p/\c=.ref p.1
 |.ext l,c=>∃a its,c=.ref a/\b.h.IsList a its/\IntsAre its.toList l/\its.size<=sizeLine
noncomputable abbrev dF (b:Bs) (Φ:Fi):List V->List Value->Prop:=aS (VR b Φ)
noncomputable def Dz (b:Bs) (Φ:Fi):List (Str×V)->List DictEntry->Prop
 |[],[]=>True
 |p::l,e::m=>(∃t,e.key=.str p.1 t)/\VR b Φ p.2 e.val/\Dz b Φ l m
 |_,_=>False
noncomputable def DA (b:Bs) (Φ:Fi):List (Int×V)->List DictEntry->Prop
 |[],[]=>True
 |p::l,e::m=>(∃t,e.key=.int p.1 t)/\e.hash=hashInt p.1/\VR b Φ p.2 e.val/\DA b Φ l m
 |_,_=>False
theorem Fi.gO {Φ Ψ:Fi}{n:Nat}{p:Addr×Addr}(h:Φ<+:Ψ) (e:Φ[n]? =some p):Ψ[n]? =some p:=by
 obtain⟨t,rfl⟩:=h;exact wr (List.getElem?_append_left (List.getElem?_eq_some_iff.mp e).1) (wr e rfl)
theorem VR.mono {b:Bs}{Φ Ψ:Fi}(h:Φ<+:Ψ) {v:V}{c:Value}(x:VR b Φ v c):VR b Ψ v c:=by
 induction v<;>try exact x
 obtain⟨p,e,rfl⟩:=x;exact⟨p,Fi.gO h e,rfl⟩
theorem dF.mono {b:Bs}{Φ Ψ:Fi}(h:Φ<+:Ψ) {l:List V}{m:List Value}(x:dF b Φ l m):dF b Ψ l m:=aS.mono (λu_ u_ q=>q.mono h) x
theorem Dz.mono {b:Bs}{Φ Ψ:Fi}(h:Φ<+:Ψ):∀{l:List (Str×V)} {m:List DictEntry},Dz b Φ l m->Dz b Ψ l m
 |[],[],_=>trivial
 |_::_,_::_,x=>⟨x.1,x.2.1.mono h,Dz.mono h x.2.2⟩
 |[],_::_,x=>x.elim
 |_::_,[],x=>x.elim
theorem DA.mono {b:Bs}{Φ Ψ:Fi}(h:Φ<+:Ψ):∀{l:List (Int×V)} {m:List DictEntry},DA b Φ l m->DA b Ψ l m
 |[],[],_=>trivial
 |_::_,_::_,x=>⟨x.1,x.2.1,x.2.2.1.mono h,DA.mono h x.2.2.2⟩
 |[],_::_,x=>x.elim
 |_::_,[],x=>x.elim
section
variable {b:Bs}{Φ:Fi}
theorem dF.get {l:List V}{m:List Value}(x:dF b Φ l m) {n:Nat}{v:V}(e:l[n]? =some v):∃c,m[n]? =some c/\VR b Φ v c:=aS.got x e
theorem dF.len {l:List V}{m:List Value}(x:dF b Φ l m):l.length=m.length:=aS.len x
theorem dF.app {l:List V}{m:List Value}{l':List V}{m':List Value}(x:dF b Φ l m) (y:dF b Φ l' m'):dF b Φ (l++l') (m++m'):=aS.app x y
theorem dF.take {l:List V}{m:List Value}(n:Nat) (x:dF b Φ l m):dF b Φ (l.take n) (m.take n):=aS.take n x
theorem dF.drop {l:List V}{m:List Value}(n:Nat) (x:dF b Φ l m):dF b Φ (l.drop n) (m.drop n):=aS.drop n x
theorem dF.set {l:List V}{m:List Value}(n:Nat) {v:V}{c:Value}(x:dF b Φ l m) (y:VR b Φ v c):dF b Φ (l.set n v) (m.set n c):=aS.set n x y
theorem dF.one {v:V}{c:Value}(x:VR b Φ v c):dF b Φ [v] [c]:=⟨x,trivial⟩
end
noncomputable def OR (b:Bs) (h:Heap) (Φ:Fi) (p:Addr×Addr):O->Prop
 |.inst c fs=>∃C es n,b.cl c=some C/\p.1≠p.2/\h.get? p.1=some (instObj C p.2)/\h.get? p.2=some (dictOf es n)/\Dz b Φ fs es
 |.list l=>∃vs n,h.get? p.1=some (listOf (List.toArray vs) n)/\dF b Φ l vs
 |.tup l=>∃vs n,h.get? p.1=some (DG vs n)/\dF b Φ l vs
 |.dict es=>∃es' n,h.get? p.1=some (dictOf es' n)/\DA b Φ es es'
 |.rng n=>∃t u v,IsRange h p.1 0 n 1 t u v
structure RH (b:Bs) (h:Heap) (Φ:Fi) (H:AH):Prop where
 len:Φ.length=H.nx
 obj:∀(n:Nat) (p:Addr×Addr),Φ[n]? =some p->∃o,H.at_ n=some o/\fits o=true/\OR b h Φ p o
 out:∀n:Nat,Φ[n]? =none->H.at_ n=none
 apart:∀(n m:Nat) (p q:Addr×Addr),n≠m->Φ[n]? =some p->Φ[m]? =some q->p.1≠q.1/\p.1≠q.2/\p.2≠q.1/\p.2≠q.2
 fresh:∀(n:Nat) (p:Addr×Addr),Φ[n]? =some p->b.h.get? p.1=none/\b.h.get? p.2=none
 base:∀a o,b.h.get? a=some o->h.get? a=some o
 live:∀(n:Nat) (p:Addr×Addr),Φ[n]? =some p->(∃o,h.get? p.1=some o)/\∃o,h.get? p.2=some o
theorem RH.nb {b:Bs}{h:Heap}{Φ:Fi}{H:AH}{a:Addr}(r:RH b h Φ H) (e:h.get? a=none):b.h.get? a=none:=by
 rcases q:b.h.get? a with _|o
 .rfl
 .exact nomatch e.symm.trans (r.base a o q)
def pX (Φ:Fi) (a:Addr):Prop:=∀(n:Nat) (p:Addr×Addr),Φ[n]? =some p->a≠p.1/\a≠p.2
structure dw (X:Addr->Prop) (Φ:Fi) (s:Shared) (Φ':Fi) (s':Shared):Prop where
 pre:Φ<+:Φ'
 new:∀(n:Nat) (p:Addr×Addr),Φ[n]? =none->Φ'[n]? =some p->s.heap.get? p.1=none/\s.heap.get? p.2=none
 keep:∀a o,s.heap.get? a=some o->pX Φ a->¬X a->s'.heap.get? a=some o
 xs:∀a,X a->(∃o,s.heap.get? a=some o)->∃o,s'.heap.get? a=some o
 gens:s'.gens=s.gens
 drawn:s'.drawn=s.drawn
 os:s'.os=s.os
noncomputable def cQ:Addr->Prop:=λu_=>False
theorem dw.refl (X:Addr->Prop) (Φ:Fi) (s:Shared):dw X Φ s Φ s:=
 ⟨List.prefix_refl _,λn p e e'=>by(rw[e] at e';exact ns e'),λu_ u_ e u_ u_=>e,λu_ u_ e=>e,rfl,rfl,rfl⟩
theorem dw.up {X Y:Addr->Prop}{Φ Φ':Fi}{s s':Shared}(x:dw X Φ s Φ' s') (k:∀a,X a->Y a) (l:∀a,Y a->¬X a->pX Φ a):dw Y Φ s Φ' s':=
 ⟨x.pre,x.new,λa o e u n=>x.keep a o e u λq=>n (k a q),λa y e=>by
  by_cases q:X a
  .exact x.xs a q e
  .obtain⟨o,e⟩:=e;exact⟨o,x.keep a o e (l a y q) q⟩,x.gens,x.drawn,x.os⟩
theorem dw.trans {X:Addr->Prop}{b:Bs}{Φ Φ₁ Φ₂:Fi}{s s₁ s₂:Shared}{H:AH}(x:dw X Φ s Φ₁ s₁) (y:dw X Φ₁ s₁ Φ₂ s₂) (r:RH b s₂.heap Φ₂ H):dw X Φ s Φ₂ s₂:=by
 refine⟨x.pre.trans y.pre,λn p e e'=>?_,λa o e u n=>?_,λa q e=>y.xs a q (x.xs a q e),y.gens.trans x.gens,y.drawn.trans x.drawn,y.os.trans x.os⟩
 .rcases q:Φ₁[n]? with _|p'
  .obtain⟨z1,z2⟩:=y.new n p q e';have key:∀a,(a=p.1\/a=p.2)->s₁.heap.get? a=none->s.heap.get? a=none:=by
    intro a ha hz
    rcases w:s.heap.get? a with _|o
    .rfl
    .exfalso
     by_cases xa:X a
     .obtain⟨o',h'⟩:=x.xs a xa ⟨o,w⟩;rw[hz] at h';exact ns h'
     .by_cases u:pX Φ a
      .have:=x.keep a o w u xa;rw[hz] at this;exact ns this
      .apply u
       intro m q' hm;have hm₂:=Fi.gO (x.pre.trans y.pre) hm;have hne:n≠m:=by rintro rfl;rw[e] at hm;exact ns hm
       have:=r.apart n m p q' hne e' hm₂
       rcases ha with rfl|rfl
       .exact⟨this.1,this.2.1⟩
       .exact⟨this.2.2.1,this.2.2.2⟩
   exact⟨key _ (.inl rfl) z1,key _ (.inr rfl) z2⟩
  .have:=Fi.gO y.pre q;rw[e'] at this;obtain rfl:=Option.some.inj this;exact x.new n p e q
 .refine y.keep a o (x.keep a o e u n) (λm q hm=>?_) n
  rcases w:Φ[m]? with _|q'
  .obtain⟨z1,z2⟩:=x.new m q w hm
   constructor
   .rintro rfl;rw[z1] at e;exact ns e
   .rintro rfl;rw[z2] at e;exact ns e
  .have:=Fi.gO x.pre w;rw[hm] at this;obtain rfl:=Option.some.inj this;exact u m q w
theorem pX.on {X:Addr->Prop}{Φ Φ':Fi}{s s':Shared}(x:dw X Φ s Φ' s') {a:Addr}(u:pX Φ a) (e:∃o,s.heap.get? a=some o):pX Φ' a:=by
 intro m q hm;obtain⟨o,e⟩:=e
 rcases w:Φ[m]? with _|q'
 .obtain⟨z1,z2⟩:=x.new m q w hm
  constructor
  .rintro rfl;rw[z1] at e;exact ns e
  .rintro rfl;rw[z2] at e;exact ns e
 .have:=Fi.gO x.pre w;rw[hm] at this;obtain rfl:=Option.some.inj this;exact u m q w
theorem RH.grow {b:Bs}{h h':Heap}{Φ:Fi}{H:AH}(r:RH b h Φ H) (k:∀a o,h.get? a=some o->h'.get? a=some o):RH b h' Φ H:=by
 refine⟨r.len,λn p e=>?_,r.out,r.apart,r.fresh,λa o e=>k a o (r.base a o e),λn p e=>?_⟩
 .obtain⟨o,h1,h2,h3⟩:=r.obj n p e;refine⟨o,h1,h2,?_⟩
  induction o with
  |inst c fs=>obtain⟨C,es,m,a1,a2,a3,a4,a5⟩:=h3;exact⟨C,es,m,a1,a2,k _ _ a3,k _ _ a4,a5⟩
  |list l=>obtain⟨vs,m,a1,a2⟩:=h3;exact⟨vs,m,k _ _ a1,a2⟩
  |tup l=>obtain⟨vs,m,a1,a2⟩:=h3;exact⟨vs,m,k _ _ a1,a2⟩
  |dict es=>obtain⟨es',m,a1,a2⟩:=h3;exact⟨es',m,k _ _ a1,a2⟩
  |rng n=>obtain⟨t,u,v,a1⟩:=h3;exact⟨t,u,v,k _ _ a1⟩
 .obtain⟨⟨o,h1⟩,⟨o',h2⟩⟩:=r.live n p e;exact⟨⟨o,k _ _ h1⟩,⟨o',k _ _ h2⟩⟩
end Mi
namespace Mi
open PySem PySem.W PyProof.Rows
theorem OR.mono {b:Bs}{h:Heap}{Φ Ψ:Fi}{p:Addr×Addr}{o:O}(pre:Φ<+:Ψ) (x:OR b h Φ p o):OR b h Ψ p o:=by
 induction o with
 |inst c fs=>obtain⟨C,es,m,a1,a2,a3,a4,a5⟩:=x;exact⟨C,es,m,a1,a2,a3,a4,a5.mono pre⟩
 |list l=>obtain⟨vs,m,a1,a2⟩:=x;exact⟨vs,m,a1,a2.mono pre⟩
 |tup l=>obtain⟨vs,m,a1,a2⟩:=x;exact⟨vs,m,a1,a2.mono pre⟩
 |dict es=>obtain⟨es',m,a1,a2⟩:=x;exact⟨es',m,a1,a2.mono pre⟩
 |rng n=>exact x
theorem OR.keeps {b:Bs}{h h':Heap}{Φ:Fi}{p:Addr×Addr}{o:O}(x:OR b h Φ p o) (k:∀a o,a=p.1\/a=p.2->h.get? a=some o->h'.get? a=some o):OR b h' Φ p o:=by
 induction o with
 |inst c fs=>obtain⟨C,es,m,a1,a2,a3,a4,a5⟩:=x;exact⟨C,es,m,a1,a2,k _ _ (.inl rfl) a3,k _ _ (.inr rfl) a4,a5⟩
 |list l=>obtain⟨vs,m,a1,a2⟩:=x;exact⟨vs,m,k _ _ (.inl rfl) a1,a2⟩
 |tup l=>obtain⟨vs,m,a1,a2⟩:=x;exact⟨vs,m,k _ _ (.inl rfl) a1,a2⟩
 |dict es=>obtain⟨es',m,a1,a2⟩:=x;exact⟨es',m,k _ _ (.inl rfl) a1,a2⟩
 |rng n=>obtain⟨t,u,v,a1⟩:=x;exact⟨t,u,v,k _ _ (.inl rfl) a1⟩
theorem nU {n m:Nat}(h:n≠m):Nat.beq n m=false:=by
 rcases q:Nat.beq n m with _|_
 .rfl
 .exact absurd (Nat.eq_of_beq_eq_true q) h
theorem cX {Φ:Fi}{p q:Addr×Addr}{n:Nat}(e:(Φ++[p])[n]? =some q):(n<Φ.length/\Φ[n]? =some q)\/(n=Φ.length/\q=p):=by
 rcases Nat.lt_trichotomy n Φ.length with h|h|h
 .exact .inl ⟨h,by rwa [List.getElem?_append_left h] at e⟩
 .subst h;rw[List.getElem?_append_right (Nat.le_refl _),Nat.sub_self] at e;obtain rfl:=Option.some.inj e;exact .inr ⟨rfl,rfl⟩
 .rw[List.getElem?_eq_none (by refine wr List.length_append ?_;exact h)] at e;exact ns e
theorem bT (Φ:Fi) (p:Addr×Addr):Φ<+:Φ++[p]:=⟨[p],rfl⟩
theorem nz (Φ:Fi) (p:Addr×Addr):(Φ++[p])[Φ.length]? =some p:=by refine wr (List.getElem?_append_right (Nat.le_refl _)) (wr (Nat.sub_self _) ?_);rfl
theorem RH.add {b:Bs}{h h':Heap}{Φ:Fi}{H:AH}{p:Addr×Addr}{o:O}(r:RH b h Φ H) (k:∀a o,h.get? a=some o->h'.get? a=some o)
  (n1:h.get? p.1=none) (n2:h.get? p.2=none) (f:fits o=true) (x:OR b h' (Φ++[p]) p o) (l1:∃o,h'.get? p.1=some o) (l2:∃o,h'.get? p.2=some o):
  RH b h' (Φ++[p]) (H.add o):=by
 have ne:∀(n:Nat) (q:Addr×Addr),Φ[n]? =some q->p.1≠q.1/\p.1≠q.2/\p.2≠q.1/\p.2≠q.2:=λn q e=>by
  obtain⟨⟨o1,h1⟩,⟨o2,h2⟩⟩:=r.live n q e;exact⟨λz=>(by rw[<-z,n1] at h1;exact ns h1),λz=>(by rw[<-z,n1] at h2;exact ns h2),λz=>(by rw[<-z,n2] at h1;exact ns h1),λz=>(by rw[<-z,n2] at h2;exact ns h2)⟩
 have nb:∀a,h.get? a=none->b.h.get? a=none:=λa e=>by
  rcases q:b.h.get? a with _|o'
  .rfl
  .have:=r.base a o' q;rw[e] at this;exact ns this
 refine⟨?_,λn q e=>?_,λn e=>?_,λn m q q' hne e e'=>?_,λn q e=>?_,λa o e=>k a o (r.base a o e),λn q e=>?_⟩
 .refine wr List.length_append (wr r.len ?_);rfl
 .rcases cX e with⟨hn,e⟩|⟨rfl,rfl⟩
  .obtain⟨o',h1,h2,h3⟩:=r.obj n q e;refine⟨o',?_,h2,(h3.keeps λa o u_ e=>k a o e).mono (bT _ _)⟩;show(bif Nat.beq n H.nx then some o else H.at_ n)=some o';refine wr (show Nat.beq n H.nx=false from nU (Nat.ne_of_lt (r.len▸hn)))<|h1
  .refine⟨o,?_,f,x⟩;show(bif Nat.beq Φ.length H.nx then some o else H.at_ _)=some o;refine wr r.len (wr (show Nat.beq H.nx H.nx=true from Nat.beq_refl _) ?_);rfl
 .have hn:Φ.length<n:=by
   have:=List.getElem?_eq_none_iff.mp e;rw[List.length_append] at this;exact this
  show(bif Nat.beq n H.nx then some o else H.at_ n)=none;refine wr (show Nat.beq n H.nx=false from nU (Nat.ne_of_gt (r.len▸hn)))<|r.out n (List.getElem?_eq_none_iff.mpr (Nat.le_of_lt hn))
 .rcases cX e with⟨hn,e1⟩|⟨hn,hq⟩<;>rcases cX e' with⟨hm,e1'⟩|⟨hm,hq'⟩
  .exact r.apart n m q q' hne e1 e1'
  .have:=ne n q e1;refine wr hq'<|⟨this.1.symm,this.2.2.1.symm,this.2.1.symm,this.2.2.2.symm⟩
  .refine wr hq ?_;exact ne m q' e1'
  .exact absurd (hn.trans hm.symm) hne
 .rcases cX e with⟨hn,e⟩|⟨rfl,rfl⟩
  .exact r.fresh n q e
  .exact⟨nb _ n1,nb _ n2⟩
 .rcases cX e with⟨hn,e⟩|⟨rfl,rfl⟩
  .obtain⟨⟨o,h1⟩,⟨o',h2⟩⟩:=r.live n q e;exact⟨⟨o,k _ _ h1⟩,⟨o',k _ _ h2⟩⟩
  .exact⟨l1,l2⟩
theorem dw.add {X:Addr->Prop}{Φ:Fi}{s s':Shared}{p:Addr×Addr}(k:∀a o,s.heap.get? a=some o->s'.heap.get? a=some o) (n1:s.heap.get? p.1=none) (n2:s.heap.get? p.2=none)
  (g:s'.gens=s.gens) (d:s'.drawn=s.drawn) (os:s'.os=s.os):dw X Φ s (Φ++[p]) s':=
 ⟨bT _ _,λn q e e'=>by
  rcases cX e' with⟨hn,e'⟩|⟨rfl,rfl⟩
  .rw[e] at e';exact ns e'
  .exact⟨n1,n2⟩,λa o e u_ u_=>k a o e,λa u_ oe=>oe.imp λo e=>k a o e,g,d,os⟩
theorem dw.grow {X:Addr->Prop}{Φ:Fi}{s s':Shared}(k:∀a o,s.heap.get? a=some o->s'.heap.get? a=some o) (g:s'.gens=s.gens) (d:s'.drawn=s.drawn) (os:s'.os=s.os):dw X Φ s Φ s':=
 ⟨List.prefix_refl _,λn q e e'=>by(rw[e] at e';exact ns e'),λa o e u_ u_=>k a o e,λa u_ oe=>oe.imp λo e=>k a o e,g,d,os⟩
theorem RH.put {b:Bs}{h h':Heap}{Φ:Fi}{H:AH}{n:Nat}{p:Addr×Addr}{o:O}(r:RH b h Φ H) (e:Φ[n]? =some p) (k:∀a o,a≠p.1->a≠p.2->h.get? a=some o->h'.get? a=some o)
  (f:fits o=true) (x:OR b h' Φ p o) (l1:∃o,h'.get? p.1=some o) (l2:∃o,h'.get? p.2=some o):RH b h' Φ (H.put n o):=by
 refine⟨r.len,λm q e'=>?_,λm e'=>?_,r.apart,r.fresh,λa o' e'=>k a o' ?_ ?_ (r.base a o' e'),λm q e'=>?_⟩
 .by_cases hm:m=n
  .subst hm;rw[e] at e';obtain rfl:=Option.some.inj e';refine⟨o,?_,f,x⟩;show(bif Nat.beq m m then some o else H.at_ m)=some o;refine wr (Nat.beq_refl _) ?_;rfl
  .obtain⟨o',h1,h2,h3⟩:=r.obj m q e';have ap:=r.apart m n q p hm e' e;refine⟨o',?_,h2,h3.keeps λa o ha e=>k a o ?_ ?_ e⟩
   .show(bif Nat.beq m n then some o else H.at_ m)=some o';refine wr (show Nat.beq m n=false from nU hm) ?_;exact h1
   .rcases ha with rfl|rfl
    .exact ap.1
    .exact ap.2.2.1
   .rcases ha with rfl|rfl
    .exact ap.2.1
    .exact ap.2.2.2
 .have hm:m≠n:=by rintro rfl;rw[e] at e';exact sn e'
  show(bif Nat.beq m n then some o else H.at_ m)=none;refine wr (show Nat.beq m n=false from nU hm) ?_;exact r.out m e'
 .rintro rfl;rw[(r.fresh n p e).1] at e';exact ns e'
 .rintro rfl;rw[(r.fresh n p e).2] at e';exact ns e'
 .by_cases hm:m=n
  .subst hm;rw[e] at e';obtain rfl:=Option.some.inj e';exact⟨l1,l2⟩
  .have ap:=r.apart m n q p hm e' e;obtain⟨⟨o1,h1⟩,⟨o2,h2⟩⟩:=r.live m q e';exact⟨⟨o1,k _ _ ap.1 ap.2.1 h1⟩,⟨o2,k _ _ ap.2.2.1 ap.2.2.2 h2⟩⟩
theorem dw.put {X:Addr->Prop}{Φ:Fi}{s s':Shared}{n:Nat}{p:Addr×Addr}(e:Φ[n]? =some p) (k:∀a o,a≠p.1->a≠p.2->s.heap.get? a=some o->s'.heap.get? a=some o)
  (l1:∃o,s'.heap.get? p.1=some o) (l2:∃o,s'.heap.get? p.2=some o) (g:s'.gens=s.gens) (d:s'.drawn=s.drawn) (os:s'.os=s.os):dw X Φ s Φ s':=
 ⟨List.prefix_refl _,λn q e e'=>by(rw[e] at e';exact ns e'),λa o e' u u_=>k a o (u n p e).1 (u n p e).2 e',λa u_ oe=>oe.elim λo e'=>by
  by_cases h1:a=p.1
  .subst h1;exact l1
  .by_cases h2:a=p.2
   .subst h2;exact l2
   .exact⟨o,k a o h1 h2 e'⟩,g,d,os⟩
structure cV (b:Bs) (h:Heap) (Φ:Fi) (ρ:ao) (env:Env):Prop where
 kind:env.scope.kind=.function
 glob:env.globals=mainGlobals
 bi:env.builtins=builtinsNs
 ns:∃m,h.Ns env.locals m/\∀x v,env.kindOf x=some .local->ρ.lookup x=some (some v)->∃c,m x=some c/\VR b Φ v c
 cell:∀x,env.kindOf x=some .cell\/env.kindOf x=some .free->(ρ.lookup x).isSome=true->∃a cv,env.cells.lookup x=some a/\h.IsCell a cv/\∀v,ρ.lookup x=some (some v)->∃c,cv=some c/\VR b Φ v c
 p7:pX Φ env.locals
 oR:∀x a,(x,a)∈env.cells->pX Φ a
 yj:b.h.get? env.locals=none
 vT:∀x a,(x,a)∈env.cells->b.h.get? a=none
 apart:env.cells.Pairwise λx y=>x.2≠y.2
 hJ:∀x a,(x,a)∈env.cells->a≠env.locals
 iN:∀x a,(x,a)∈env.cells->∃o,h.get? a=some o
noncomputable def jP (env:Env):Addr->Prop:=λa=>a=env.locals\/∃x,(x,a)∈env.cells
theorem dj {h h':Heap}{c:Addr}{v:Option Value}(x:h.IsCell c v) (hk:∀o,h.get? c=some o->h'.get? c=some o):h'.IsCell c v:=
 let⟨o,ho,hd⟩:=x;⟨o,hk o ho,hd⟩
theorem fG {h h':Heap}{a:Addr}{m:Str->Option Value}(x:h.Ns a m) (hk:∀o,h.get? a=some o->h'.get? a=some o):h'.Ns a m:=
 let⟨o,es,ep,e,r⟩:=x;⟨o,es,ep,hk o e,r⟩
theorem cV.HG {b:Bs}{h:Heap}{Φ:Fi}{ρ:ao}{env:Env}(f:cV b h Φ ρ env):∃o,h.get? env.locals=some o:=by
 obtain⟨m,⟨o,_,_,e,_⟩,_⟩:=f.ns;exact⟨o,e⟩
theorem cV.on {b:Bs}{Φ Φ':Fi}{s s':Shared}{ρ:ao}{env:Env}{X:Addr->Prop}(f:cV b s.heap Φ ρ env) (x:dw X Φ s Φ' s') (hx:∀a,jP env a->¬X a):
  cV b s'.heap Φ' ρ env:=by
 have kL:∀o,s.heap.get? env.locals=some o->s'.heap.get? env.locals=some o:=λo e=>x.keep _ o e f.p7 (hx _ (.inl rfl));refine⟨f.kind,f.glob,f.bi,?_,λy hy hs=>?_,f.p7.on x f.HG,λy a hm=>(f.oR y a hm).on x (f.iN y a hm),f.yj,f.vT,f.apart,f.hJ,λy a hm=>(f.iN y a hm).imp λo e=>x.keep _ o e (f.oR y a hm) (hx _ (.inr ⟨y,hm⟩))⟩
 .obtain⟨m,hn,hv⟩:=f.ns;refine⟨m,fG hn kL,λy v hy hl=>?_⟩;obtain⟨c,e,r⟩:=hv y v hy hl;exact⟨c,e,r.mono x.pre⟩
 .obtain⟨a,cv,e,hc,hv⟩:=f.cell y hy hs;have hm:=mem_of_lookup e;refine⟨a,cv,e,dj hc λo e=>x.keep _ o e (f.oR y a hm) (hx _ (.inr ⟨y,hm⟩)),λv hl=>?_⟩;obtain⟨c,e,r⟩:=hv v hl;exact⟨c,e,r.mono x.pre⟩
end Mi
namespace Mi
open PySem PySem.W PyProof.Rows
theorem pW {α β:Type}{m:AM α}{f:α->AM β}{H:AH}{r:β×AH}(h:(m>>=f) H=some r):∃a H1,m H=some (a,H1)/\f a H1=some r:=by
 rcases q:m H with _|p
 .have:(m>>=f) H=none:=by show(m H).bind _=none;refine wr q ?_;rfl
  rw[this] at h;exact ns h
 .refine⟨p.1,p.2,rfl,?_⟩;have:(m>>=f) H=f p.1 p.2:=by show(m H).bind _=_;refine wr q ?_;rfl
  refine wr (this.symm) ?_;exact h
theorem bL {α:Type}{a v:α}{H H':AH}(h:(pure a:AM α) H=some (v,H')):v=a/\H=H':=by
 have:(pure a:AM α) H=some (a,H):=rfl;rw[this] at h;obtain⟨rfl,rfl⟩:=Prod.mk.inj (Option.some.inj h);exact⟨rfl,rfl⟩
theorem Hh {α:Type}{r:α×AH}{H:AH}(h:(ak:AM α) H=some r):False:=ns h
theorem ag {α:Type}{r:α×AH}{p:Prop}(H:AH) (h:(ak:AM α) H=some r):p:=(Hh h).elim
theorem Hi {n:Nat}{o:O}{H H':AH}(h:look n H=some (o,H')):H.at_ n=some o/\H=H':=by
 unfold look at h
 split at h<;>cases h
 exact⟨by assumption,rfl⟩
theorem gT {o:O}{v:V}{H H':AH}(h:ba o H=some (v,H')):fits o=true/\v=.ref H.nx/\H'=H.add o:=by
 unfold ba at h;revert h;generalize fits o=o_;rcases o_ with _|_
 .intro h;exact ns h
 .intro h;obtain⟨rfl,rfl⟩:=Prod.mk.inj (Option.some.inj h);exact⟨rfl,rfl,rfl⟩
theorem pT {n:Nat}{o:O}{u:Unit}{H H':AH}(h:eB n o H=some (u,H')):fits o=true/\H'=H.put n o:=by
 unfold eB at h;revert h;generalize fits o=o_;rcases o_ with _|_
 .intro h;exact ns h
 .intro h;obtain⟨rfl,rfl⟩:=Prod.mk.inj (Option.some.inj h);exact⟨rfl,rfl⟩
theorem rT {v:V}{i:Int}{H H':AH}(h:aR v H=some (i,H')):v=.int i/\H=H':=by
 induction v<;>first|(obtain⟨rfl,rfl⟩:=bL h;exact⟨rfl,rfl⟩)|exact ag H h
theorem nX {v:V}{i:Bool}{H H':AH}(h:ck v H=some (i,H')):v=.bool i/\H=H':=by
 induction v<;>first|(obtain⟨rfl,rfl⟩:=bL h;exact⟨rfl,rfl⟩)|exact ag H h
noncomputable abbrev no:Value->Shared->Prop:=λu_ u_=>False
noncomputable def Gt (b:Bs) (X:Addr->Prop) (Φ:Fi) (s:Shared) (v:V) (H:AH):Value->Shared->Prop:=λc s'=>∃Φ',VR b Φ' v c/\RH b s'.heap Φ' H/\dw X Φ s Φ' s'
noncomputable def F3 (b:Bs) (X:Addr->Prop) (Φ:Fi) (s:Shared) (v:Bool) (H:AH):Bool->Shared->Prop:=λc s'=>c=v/\∃Φ',RH b s'.heap Φ' H/\dw X Φ s Φ' s'
noncomputable def sE (b:Bs) (X:Addr->Prop) (Φ:Fi) (s:Shared) (H:AH):Unit->Shared->Prop:=λu_ s'=>∃Φ',RH b s'.heap Φ' H/\dw X Φ s Φ' s'
noncomputable def LR (b:Bs) (X:Addr->Prop) (Φ:Fi) (s:Shared) (v:List V) (H:AH):List Value->Shared->Prop:=λc s'=>∃Φ',dF b Φ' v c/\RH b s'.heap Φ' H/\dw X Φ s Φ' s'
section
variable {b:Bs}{X:Addr->Prop}{Φ:Fi}{s:Shared}{H H':AH}
theorem Gt.here {v:V}{c:Value}{tk:Nat}(r:RH b s.heap Φ H) (x:VR b Φ v c):Gt b X Φ s v H c {s with toks:=tk}:=⟨Φ,x,r,.grow (λu_ u_ e=>e) rfl rfl rfl⟩
theorem Gt.now {v:V}{c:Value}(r:RH b s.heap Φ H) (x:VR b Φ v c):Gt b X Φ s v H c s:=⟨Φ,x,r,.refl _ _ _⟩
theorem cW (h:Heap):h.get? h.objs.size=none:=by
 rcases e:h.get? h.objs.size with _|o
 .rfl
 .exact absurd (Heap.lt_size e) (Nat.lt_irrefl _)
theorem RH.at {n:Nat}{c:Value}(r:RH b s.heap Φ H) (x:VR b Φ (.ref n) c) {o:O}(e:H.at_ n=some o):∃p,Φ[n]? =some p/\c=.ref p.1/\fits o=true/\OR b s.heap Φ p o:=by
 obtain⟨p,hp,rfl⟩:=x;obtain⟨o',h1,h2,h3⟩:=r.obj n p hp;rw[e] at h1;obtain rfl:=Option.some.inj h1;exact⟨p,hp,rfl,h2,h3⟩
theorem RH.push {o:O}{ob:Obj}(r:RH b s.heap Φ H) (f:fits o=true) (x:OR b (s.heap.push ob) (Φ++[(s.heap.objs.size,s.heap.objs.size)]) (s.heap.objs.size,s.heap.objs.size) o) (hf:ob.isFreed=false:=by rfl):
  Gt b X Φ s (.ref H.nx) (H.add o) (.ref s.heap.objs.size) {s with heap:=s.heap.push ob}:=by
 have g:=Heap.get?_push_size s.heap hf;refine⟨Φ++[(s.heap.objs.size,s.heap.objs.size)],⟨(s.heap.objs.size,s.heap.objs.size),?_,rfl⟩,r.add (λa o e=>Heap.get?_push_of_some _ e) (cW _) (cW _) f x ⟨_,g⟩ ⟨_,g⟩,dw.add (λa o e=>Heap.get?_push_of_some _ e) (cW _) (cW _) rfl rfl rfl⟩;refine wr (r.len.symm) ?_;exact nz _ _
end
section
variable {M:Model}{A:Around}{b:Bs}{X:Addr->Prop}{Φ:Fi}{s:Shared}{H H':AH}
theorem kq {l:List V}(h:Nat.ble l.length lim=true):l.length<=sizeLine:=by
 have:l.length<=1000:=Nat.le_of_ble_eq_true h;refine wr sizeLine_eq ?_;exact Nat.le_add_left_of_le (by assumption)
theorem zX {l:List V}{cs:List Value}{v:V}(r:RH b s.heap Φ H) (x:dF b Φ l cs) (e:ba (.list l) H=some (v,H')):wpAny M A (newList cs) (Gt b X Φ s v H') no s:=by
 obtain⟨f,rfl,rfl⟩:=gT e;refine wpAny_newObj_type (r.push (o:=.list l) f ⟨cs,0,Heap.get?_push_size _ rfl,x.mono (bT _ _)⟩) ?_;show cs.toArray.size<=sizeLine;refine wr List.size_toArray (wr (x.len.symm) ?_);exact kq f
theorem yi {l:List V}{cs:List Value}{v:V}(r:RH b s.heap Φ H) (x:dF b Φ l cs) (e:ba (.tup l) H=some (v,H')):wpAny M A (newTuple cs) (Gt b X Φ s v H') no s:=by
 obtain⟨f,rfl,rfl⟩:=gT e;refine wpAny_newObj_type (r.push (o:=.tup l) f ⟨cs,0,Heap.get?_push_size _ rfl,x.mono (bT _ _)⟩) ?_;show cs.toArray.size<=sizeLine;refine wr List.size_toArray (wr (x.len.symm) ?_);exact kq f
theorem zY {v:V}(r:RH b s.heap Φ H) (e:ba (.dict []) H=some (v,H')):wpAny M A newDict (Gt b X Φ s v H') no s:=by
 obtain⟨f,rfl,rfl⟩:=gT e;exact wpAny_newObj_type (r.push (o:=.dict []) f ⟨[],0,Heap.get?_push_size _ rfl,trivial⟩) (by show(#[]:Array DictEntry).size<=sizeLine+1;refine wr sizeLine_eq ?_;simp)
theorem Fd {env:Env}{k:Const}{v:V}(r:RH b s.heap Φ H) (e:Bz k H=some (v,H')):wpAny M A (constValue env k) (Gt b X Φ s v H') no s:=by
 induction k<;>first
  |(obtain⟨rfl,rfl⟩:=bL e;exact wpAny_pure (.now r rfl))
  |(obtain⟨rfl,rfl⟩:=bL e;exact wpAny_mkInt (.here r ⟨_,rfl⟩))
  |(obtain⟨rfl,rfl⟩:=bL e;exact wpAny_mkText (.here r ⟨_,rfl⟩))
  |exact ag H e
end
end Mi
namespace Mi
open PySem
theorem xA {p q:Prop}{G:Prop}(h:p/\q) (k:p->q->G):G:=k h.1 h.2
theorem xE {α:Type}{p:α->Prop}{G:Prop}(h:∃x,p x) (k:∀x,p x->G):G:=h.elim λx f=>k x f
theorem mE {p q r:Prop}{G:Prop}(h:p/\q/\r) (k:p->q->r->G):G:=k h.1 h.2.1 h.2.2
theorem Md {α:Type}{p:Prop}{q:α->Prop}{G:Prop}(h:p/\∃x,q x) (k:p->∀x,q x->G):G:=h.2.elim λx f=>k h.1 x f
theorem bW {α:Type}{p q:α->Prop}{G:Prop}(h:∃x,p x/\q x) (k:∀x,p x->q x->G):G:=h.elim λx f=>k x f.1 f.2
theorem fP {α β:Type}{p:α->β->Prop}{G:Prop}(h:∃x,∃y,p x y) (k:∀x,∀y,p x y->G):G:=h.elim λx f=>f.elim λy g=>k x y g
theorem JX {p q r s:Prop}{G:Prop}(h:p/\q/\r/\s) (k:p->q->r->s->G):G:=k h.1 h.2.1 h.2.2.1 h.2.2.2
theorem pZ {α:Type}{p:Prop}{q r:α->Prop}{G:Prop}(h:p/\∃x,q x/\r x) (k:p->∀x,q x->r x->G):G:=h.2.elim λx f=>k h.1 x f.1 f.2
theorem be {α:Type}{p q r:α->Prop}{G:Prop}(h:∃x,p x/\q x/\r x) (k:∀x,p x->q x->r x->G):G:=h.elim λx f=>k x f.1 f.2.1 f.2.2
theorem JV {α β:Type}{p:α->Prop}{q:α->β->Prop}{G:Prop}(h:∃x,p x/\∃y,q x y) (k:∀x,p x->∀y,q x y->G):G:=h.elim λx f=>f.2.elim λy g=>k x f.1 y g
theorem cF {α β:Type}{p q:α->β->Prop}{G:Prop}(h:∃x,∃y,p x y/\q x y) (k:∀x,∀y,p x y->q x y->G):G:=h.elim λx f=>f.elim λy g=>k x y g.1 g.2
theorem zj {α β γ:Type}{p:α->β->γ->Prop}{G:Prop}(h:∃x,∃y,∃z,p x y z) (k:∀x,∀y,∀z,p x y z->G):G:=h.elim λx f=>f.elim λy g=>g.elim λz i=>k x y z i
theorem JW {α:Type}{p q:Prop}{r s:α->Prop}{G:Prop}(h:p/\q/\∃x,r x/\s x) (k:p->q->∀x,r x->s x->G):G:=h.2.2.elim λx f=>k h.1 h.2.1 x f.1 f.2
theorem AY {α β:Type}{p:Prop}{q r:α->β->Prop}{G:Prop}(h:p/\∃x,∃y,q x y/\r x y) (k:p->∀x,∀y,q x y->r x y->G):G:=h.2.elim λx f=>f.elim λy g=>k h.1 x y g.1 g.2
theorem tY {α:Type}{p q r s:α->Prop}{G:Prop}(h:∃x,p x/\q x/\r x/\s x) (k:∀x,p x->q x->r x->s x->G):G:=h.elim λx f=>k x f.1 f.2.1 f.2.2.1 f.2.2.2
theorem bV {α β:Type}{p q r:α->β->Prop}{G:Prop}(h:∃x,∃y,p x y/\q x y/\r x y) (k:∀x,∀y,p x y->q x y->r x y->G):G:=h.elim λx f=>f.elim λy g=>k x y g.1 g.2.1 g.2.2
theorem eZ {α β γ:Type}{p q:α->β->γ->Prop}{G:Prop}(h:∃x,∃y,∃z,p x y z/\q x y z) (k:∀x,∀y,∀z,p x y z->q x y z->G):G:=h.elim λx f=>f.elim λy g=>g.elim λz i=>k x y z i.1 i.2
theorem tX {α β γ δ:Type}{p:α->β->γ->δ->Prop}{G:Prop}(h:∃x,∃y,∃z,∃a,p x y z a) (k:∀x,∀y,∀z,∀a,p x y z a->G):G:=h.elim λx f=>f.elim λy g=>g.elim λz i=>i.elim λa j=>k x y z a j
theorem mC {α β:Type}{p:Prop}{q r s:α->β->Prop}{G:Prop}(h:p/\∃x,∃y,q x y/\r x y/\s x y) (k:p->∀x,∀y,q x y->r x y->s x y->G):G:=h.2.elim λx f=>f.elim λy g=>k h.1 x y g.1 g.2.1 g.2.2
theorem uS {α:Type}{p q r s t:α->Prop}{G:Prop}(h:∃x,p x/\q x/\r x/\s x/\t x) (k:∀x,p x->q x->r x->s x->t x->G):G:=h.elim λx f=>k x f.1 f.2.1 f.2.2.1 f.2.2.2.1 f.2.2.2.2
theorem pY {α β:Type}{p q r s:α->β->Prop}{G:Prop}(h:∃x,∃y,p x y/\q x y/\r x y/\s x y) (k:∀x,∀y,p x y->q x y->r x y->s x y->G):G:=h.elim λx f=>f.elim λy g=>k x y g.1 g.2.1 g.2.2.1 g.2.2.2
theorem eK {α β γ:Type}{p q r:α->β->γ->Prop}{G:Prop}(h:∃x,∃y,∃z,p x y z/\q x y z/\r x y z) (k:∀x,∀y,∀z,p x y z->q x y z->r x y z->G):G:=h.elim λx f=>f.elim λy g=>g.elim λz i=>k x y z i.1 i.2.1 i.2.2
theorem HP {α β γ δ:Type}{p q:α->β->γ->δ->Prop}{G:Prop}(h:∃x,∃y,∃z,∃a,p x y z a/\q x y z a) (k:∀x,∀y,∀z,∀a,p x y z a->q x y z a->G):G:=h.elim λx f=>f.elim λy g=>g.elim λz i=>i.elim λa j=>k x y z a j.1 j.2
theorem fM {α β γ δ ε:Type}{p:α->β->γ->δ->ε->Prop}{G:Prop}(h:∃x,∃y,∃z,∃a,∃b,p x y z a b) (k:∀x,∀y,∀z,∀a,∀b,p x y z a b->G):G:=h.elim λx f=>f.elim λy g=>g.elim λz i=>i.elim λa j=>j.elim λb l=>k x y z a b l
theorem eg {α β γ:Type}{p q r s:α->β->γ->Prop}{G:Prop}(h:∃x,∃y,∃z,p x y z/\q x y z/\r x y z/\s x y z) (k:∀x,∀y,∀z,p x y z->q x y z->r x y z->s x y z->G):G:=h.elim λx f=>f.elim λy g=>g.elim λz i=>k x y z i.1 i.2.1 i.2.2.1 i.2.2.2
theorem F4 {α β γ δ:Type}{p q r:α->β->γ->δ->Prop}{G:Prop}(h:∃x,∃y,∃z,∃a,p x y z a/\q x y z a/\r x y z a) (k:∀x,∀y,∀z,∀a,p x y z a->q x y z a->r x y z a->G):G:=h.elim λx f=>f.elim λy g=>g.elim λz i=>i.elim λa j=>k x y z a j.1 j.2.1 j.2.2
theorem xe {α β γ:Type}{p q r s t:α->β->γ->Prop}{G:Prop}(h:∃x,∃y,∃z,p x y z/\q x y z/\r x y z/\s x y z/\t x y z) (k:∀x,∀y,∀z,p x y z->q x y z->r x y z->s x y z->t x y z->G):G:=h.elim λx f=>f.elim λy g=>g.elim λz i=>k x y z i.1 i.2.1 i.2.2.1 i.2.2.2.1 i.2.2.2.2
theorem ed {α β γ δ:Type}{p q r s:α->β->γ->δ->Prop}{G:Prop}(h:∃x,∃y,∃z,∃a,p x y z a/\q x y z a/\r x y z a/\s x y z a) (k:∀x,∀y,∀z,∀a,p x y z a->q x y z a->r x y z a->s x y z a->G):G:=h.elim λx f=>f.elim λy g=>g.elim λz i=>i.elim λa j=>k x y z a j.1 j.2.1 j.2.2.1 j.2.2.2
theorem BZ {α β γ:Type}{p q r s t u:α->β->γ->Prop}{G:Prop}(h:∃x,∃y,∃z,p x y z/\q x y z/\r x y z/\s x y z/\t x y z/\u x y z) (k:∀x,∀y,∀z,p x y z->q x y z->r x y z->s x y z->t x y z->u x y z->G):G:=h.elim λx f=>f.elim λy g=>g.elim λz i=>k x y z i.1 i.2.1 i.2.2.1 i.2.2.2.1 i.2.2.2.2.1 i.2.2.2.2.2
theorem BY {α β γ δ:Type}{p q r s t:α->β->γ->δ->Prop}{G:Prop}(h:∃x,∃y,∃z,∃a,p x y z a/\q x y z a/\r x y z a/\s x y z a/\t x y z a) (k:∀x,∀y,∀z,∀a,p x y z a->q x y z a->r x y z a->s x y z a->t x y z a->G):G:=h.elim λx f=>f.elim λy g=>g.elim λz i=>i.elim λa j=>k x y z a j.1 j.2.1 j.2.2.1 j.2.2.2.1 j.2.2.2.2
theorem AX {α β:Type}{p q r s:α->Prop}{t:α->β->Prop}{G:Prop}(h:∃x,p x/\q x/\r x/\s x/\∃y,t x y) (k:∀x,p x->q x->r x->s x->∀y,t x y->G):G:=h.elim λx f=>f.2.2.2.2.elim λy g=>k x f.1 f.2.1 f.2.2.1 f.2.2.2.1 y g
theorem AW {α β γ:Type}{p:α->Prop}{q r s:α->β->γ->Prop}{G:Prop}(h:∃x,p x/\∃y,∃z,q x y z/\r x y z/\s x y z) (k:∀x,p x->∀y,∀z,q x y z->r x y z->s x y z->G):G:=h.elim λx f=>f.2.elim λy g=>g.elim λz i=>k x f.1 y z i.1 i.2.1 i.2.2
theorem Hx {α β:Type}{p:α->Prop}{q r:α->β->Prop}{G:Prop}(h:∃x,p x/\∃y,q x y/\r x y) (k:∀x,p x->∀y,q x y->r x y->G):G:=h.elim λx f=>f.2.elim λy g=>k x f.1 y g.1 g.2
theorem JL {a:Int}{n:Nat}(h:a=n):a.toNat=n:=by subst h;rfl
theorem LV {i:Nat}(h:0<i):i-1=((i:Int)-1).toNat:=congrArg Int.toNat (Int.ofNat_sub h)
theorem Mg {a c:Nat}(h:a<=c):(max (a:Int) (c:Int)).toNat=c:=by rw[Int.max_eq_right (Int.ofNat_le.mpr h)];rfl
theorem KZ {p n c:Nat}(h:p<=n):min p n+(c+(n-p))=n+c:=by rw[Nat.min_eq_left h,Nat.add_left_comm,Nat.add_sub_cancel' h,Nat.add_comm]
theorem LY {p n c:Nat}(h:n+c<=500):min p n+c<=1000:=Nat.le_trans (Nat.add_le_add_right (Nat.min_le_right _ _) _) (Nat.le_trans h (by decide))
theorem LZ {p n c:Nat}(h:p<=n) (k:n+c<=500):min p n+(c+(n-p))<=1000:=by rw[KZ h];exact Nat.le_trans k (by decide)
theorem Mo {x a b c l r:Nat}(h0:x<=a) (h1:a<b) (h2:b<c) (h3:l<x) (h4:r<x):a≠b/\a≠c/\b≠c/\l≠a/\l≠b/\l≠c/\r≠a/\r≠b/\r≠c:=
 have la:=Nat.lt_of_lt_of_le h3 h0;have ra:=Nat.lt_of_lt_of_le h4 h0;have lb:=Nat.lt_trans la h1;have rb:=Nat.lt_trans ra h1
 ⟨Nat.ne_of_lt h1,Nat.ne_of_lt (Nat.lt_trans h1 h2),Nat.ne_of_lt h2,Nat.ne_of_lt la,Nat.ne_of_lt lb,Nat.ne_of_lt (Nat.lt_trans lb h2),Nat.ne_of_lt ra,Nat.ne_of_lt rb,Nat.ne_of_lt (Nat.lt_trans rb h2)⟩
theorem Ij {e p d:Nat}{s:Int}(h:e+1-p<=d+1) (g:(p:Int)<s):e+1-s.toNat<=d:=
 Nat.sub_le_of_le_add (Nat.le_trans (Nat.le_add_of_sub_le h) (Nat.le_trans (Nat.le_of_eq (Nat.succ_add_eq_add_succ d p)) (Nat.add_le_add_left (Int.lt_toNat.mpr g) d)))
noncomputable def AU {α:Type}(P:α->Prop):List α->Prop
 |[]=>True
 |a::l=>P a/\AU P l
theorem AU.mem {α:Type}{P:α->Prop}{l:List α}{a:α}(h:AU P l) (m:a∈l):P a:=by
 induction l with
 |nil=>exact nm m
 |cons b l ih=>cases m with
  |head=>exact h.1
  |tail _ m=>exact ih h.2 m
theorem AU.look {β:Type}{P:Str×β->Prop}{l:List (Str×β)}{a:Str}{b:β}(h:AU P l) (e:l.lookup a=some b):P (a,b):=h.mem (mem_of_lookup e)
theorem ai {α β:Type}{m:AM α}{f:α->AM β}{H:AH}{r:β×AH}{G:Prop}(h:(m>>=f) H=some r) (k:∀a H1,m H=some (a,H1)->f a H1=some r->G):G:=let⟨a,H1,x,y⟩:=pW h;k a H1 x y
theorem aG {β:Type}{n:Nat}{f:O->AM β}{H:AH}{r:β×AH}{G:Prop}(h:(look n>>=f) H=some r) (k:∀o,H.at_ n=some o->f o H=some r->G):G:=ai h λo u_ x y=>let⟨u,v⟩:=Hi x;k o u (v▸y)
theorem eY {β:Type}{v:V}{f:Int->AM β}{H:AH}{r:β×AH}{G:Prop}(h:(aR v>>=f) H=some r) (k:∀i,v=.int i->f i H=some r->G):G:=ai h λo u_ x y=>let⟨u,v⟩:=rT x;k o u (v▸y)
theorem iR {β:Type}{v:V}{f:Bool->AM β}{H:AH}{r:β×AH}{G:Prop}(h:(ck v>>=f) H=some r) (k:∀i,v=.bool i->f i H=some r->G):G:=ai h λo u_ x y=>let⟨u,v⟩:=nX x;k o u (v▸y)
@[elab_as_elim] theorem aw {α:Type} {a v:α} {H H':AH} {M:α->AH->Prop} (h:(pure a:AM α) H=some (v,H')) (k:M a H):M v H':=by obtain⟨rfl,rfl⟩:=bL h;exact k
@[elab_as_elim] theorem dR {o:O} {v:V} {H H':AH} {M:V->AH->Prop} (h:ba o H=some (v,H')) (k:fits o=true->M (.ref H.nx) (H.add o)):M v H':=by obtain⟨f,rfl,rfl⟩:=gT h;exact k f
@[elab_as_elim] theorem mf {n:Nat} {o:O} {u:Unit} {H H':AH} {M:AH->Prop} (h:eB n o H=some (u,H')) (k:fits o=true->M (H.put n o)):M H':=by obtain⟨f,rfl⟩:=pT h;exact k f
theorem cD {α:Type}{c:Bool}{m:AM α}{H:AH}{r:α×AH}{G:Prop}(h:(bif c then m else ak) H=some r) (k:c=true->m H=some r->G):G:=by
 induction c with
 |true=>exact k rfl h
 |false=>exact ag H h
theorem fA {α:Type}{c d:Bool}{m:AM α}{H:AH}{r:α×AH}{G:Prop}(h:(bif c&&d then m else ak) H=some r) (k:c=true->d=true->m H=some r->G):G:=by
 induction c with
 |true=>exact cD (c:=d) h (k rfl)
 |false=>exact ag H h
theorem rS {α:Type}{c:Bool}{m m':AM α}{H:AH}{r:α×AH}{G:Prop}(h:(bif c then m else m') H=some r) (k:c=true->m H=some r->G) (k':c=false->m' H=some r->G):G:=by
 induction c with
 |true=>exact k rfl h
 |false=>exact k' rfl h
theorem pU {α:Type}{c:Prop} [Decidable c] {m m':AM α}{H:AH}{r:α×AH}{G:Prop}(h:(if c then m else m') H=some r) (k:c->m H=some r->G) (k':¬c->m' H=some r->G):G:=by
 by_cases q:c
 .exact k q (by rw[if_pos q] at h;exact h)
 .exact k' q (by rw[if_neg q] at h;exact h)
theorem GV {o:Option NameKind}(h:FZ o=true):o=some .globalImplicit:=by
 rcases o with _|k
 .exact nb h
 .induction k<;>first|rfl|exact nb h
theorem Kq {o:Option NameKind}(h:Dy o=true):o=some .local\/o=some .cell:=by
 rcases o with _|k
 .exact nb h
 .induction k<;>first|exact .inl rfl|exact .inr rfl|exact nb h
theorem LF {o:Option NameKind}(h:K3 o=true):o=some .local\/o=some .cell\/o=some .free:=by
 rcases o with _|k
 .exact nb h
 .induction k<;>first|exact .inl rfl|exact .inr (.inl rfl)|exact .inr (.inr rfl)|exact nb h
@[elab_as_elim] theorem nW {f fl:Fl} {ρ ρ':ao} {H H':AH} {M:Fl->ao->AH->Prop} (h:(pure (f,ρ):AM (Fl×ao)) H=some ((fl,ρ'),H')) (k:M f ρ H):M fl ρ' H':=by cases h;exact k
@[elab_as_elim] theorem uQ {f fl:Fl} {ρ ρ':ao} {H H':AH} {M:Fl->ao->AH->Prop} (h:(pure (some (f,ρ)):AM (Option (Fl×ao))) H=some (some (fl,ρ'),H')) (k:M f ρ H):M fl ρ' H':=by cases h;exact k
@[elab_as_elim] theorem RH.sD {b:Bs} {s:Shared} {Φ:Fi} {H:AH} {n:Nat} {c:Value} {M:Value->Prop} (r:RH b s.heap Φ H) (x:VR b Φ (.ref n) c) {o:O} (e:H.at_ n=some o) (k:∀p,Φ[n]? =some p->fits o=true->OR b s.heap Φ p o->M (.ref p.1)):M c:=by
 obtain⟨p,h1,rfl,h2,h3⟩:=r.at x e;exact k p h1 h2 h3
end Mi
namespace Mi
open PySem PySem.W PyProof.Rows
section
variable {prog:Program}{w:World}{A:Around}{b:Bs}{X:Addr->Prop}{Φ:Fi}{s:Shared}{H H':AH}
theorem AK {x:Int}(h:x.natAbs<=1000000000):Builtin.Int.intBits x<=64:=by
 unfold Builtin.Int.intBits
 split
 .exact Nat.zero_le _
 .rename_i hx;have hx':x≠0:=by simpa using hx
  have h2:x.natAbs.log2<63:=by
   refine wr (propext (Nat.log2_lt (by lia))) ?_;have:(1000000000:Nat)<2^63:=by decide
   exact Nat.lt_of_le_of_lt (by assumption) (by assumption)
  exact Nat.le_add_left_of_le (by assumption)
theorem dF.rep {l:List V}{m:List Value}(x:dF b Φ l m):∀n,dF b Φ (rep l n) (List.replicate n m).flatten
 |0=>trivial
 |n+1=>by refine wr List.replicate_succ (wr List.flatten_cons ?_);exact x.app (dF.rep x n)
theorem EW (l:List (Array Value)):∀a:Array Value,(List.foldl (λx1 x2=>x1++x2) a l).toList=a.toList++(l.map (·.toList)).flatten:=by
 induction l with
 |nil=>intro a;simp
 |cons x l ih=>intro a;refine wr List.foldl_cons (wr (ih _) ?_);simp
theorem LP {P:V->V->Prop}{x y:V}(no:∀{x y},dI .Add x y=ak->P x y) (ii:∀{i j},P (.int i) (.int j)) (rr:∀{n m},P (.ref n) (.ref m)):P x y:=by
 induction x<;>induction y<;>first|exact no (Eq.refl ak)|exact ii|exact rr
theorem KO {P:O->O->Prop}{n:Nat}{x y:O}(no:∀{x y},JF n x y=ak->P x y) (ll:∀{l k},P (.list l) (.list k)) (t0:∀{a l},P (.tup (a::l)) (.tup [])) (tt:∀{a l c k},P (.tup (a::l)) (.tup (c::k))):P x y:=by
 induction x<;>first|exact no (Eq.refl ak)|skip
 .induction y<;>first|exact no (Eq.refl ak)|exact ll
 .rename_i l
  cases l with
  |nil=>exact no (Eq.refl ak)
  |cons a l=>
   cases y<;>first|exact no (Eq.refl ak)|skip
   rename_i k
   cases k with
   |nil=>exact t0
   |cons c k=>exact tt
theorem LD {P:V->V->Prop}{x y:V}(no:∀{x y},dI .Mult x y=ak->P x y) (ii:∀{i j},P (.int i) (.int j)) (ri:∀{n j},P (.ref n) (.int j)):P x y:=by
 induction x<;>induction y<;>first|exact no (Eq.refl ak)|exact ii|exact ri
theorem Ko {P:O->Prop}{o:O}{f:List V->AM V}(no:∀{o},(match o with|.list l=>f l|_=>ak)=ak->P o) (ll:∀{l},P (.list l)):P o:=by
 induction o<;>first|exact no (Eq.refl ak)|exact ll
theorem JB {x y:V}{f:Int->Int->AM V}{q:V×AH}{G:Prop}(e:(do let i<-aR x;let j<-aR y;f i j:AM V) H=some q) (g:∀i j,x=.int i->y=.int j->f i j H=some q->G):G:=eY e λi z1 e=>eY e λj z2 e=>g i j z1 z2 e
theorem HX {i j:Int}{cx cy:Value}(r:RH b s.heap Φ H) (xa:VR b Φ (.int i) cx) (xb:VR b Φ (.int j) cy):wpAny (model prog w) A (binaryOp .Sub cx cy) (Gt b X Φ s (.int (i-j)) H) no s:=by
 obtain⟨t,rfl⟩:=xa;obtain⟨u,rfl⟩:=xb;exact P.sub_int (.here r ⟨_,rfl⟩)
theorem Hr {i j:Int}{cx cy:Value}(r:RH b s.heap Φ H) (xa:VR b Φ (.int i) cx) (xb:VR b Φ (.int j) cy):wpAny (model prog w) A (binaryOp .Add cx cy) (Gt b X Φ s (.int (i+j)) H) no s:=by
 obtain⟨t,rfl⟩:=xa;obtain⟨u,rfl⟩:=xb;exact P.add_int (.here r ⟨_,rfl⟩)
theorem Gy {i j:Int}{cx cy:Value}(r:RH b s.heap Φ H) (xa:VR b Φ (.int i) cx) (xb:VR b Φ (.int j) cy) (hs:i.natAbs<=1000000/\j.natAbs<=1000000):wpAny (model prog w) A (binaryOp .Mult cx cy) (Gt b X Φ s (.int (i*j)) H) no s:=by
 obtain⟨t,rfl⟩:=xa;obtain⟨u,rfl⟩:=xb;exact P.mul_int (.here r ⟨_,rfl⟩) (IntMulOk.of_left (AK (Nat.le_trans hs.1 (by decide))))
theorem Iw {i j:Int}{cx cy:Value}(r:RH b s.heap Φ H) (xa:VR b Φ (.int i) cx) (xb:VR b Φ (.int j) cy) (hs:0<j/\j<=1000000):wpAny (model prog w) A (binaryOp .Mod cx cy) (Gt b X Φ s (.int (i.fmod j)) H) no s:=by
 obtain⟨t,rfl⟩:=xa;obtain⟨u,rfl⟩:=xb;exact AutoIntOps.mod_1 (by simp;lia) (Gt.here r ⟨_,rfl⟩)
theorem CT {n:Nat}(h0:n≠0) (h:n<=1000000000):n.log2<63:=(Nat.log2_lt h0).mpr (Nat.lt_of_le_of_lt h (by decide))
theorem G3 {i j:Int}{cx cy:Value}(r:RH b s.heap Φ H) (xa:VR b Φ (.int i) cx) (xb:VR b Φ (.int j) cy) (hs:0<j/\j<=1000000/\i.natAbs<=1000000000):wpAny (model prog w) A (binaryOp .FloorDiv cx cy) (Gt b X Φ s (.int (i.fdiv j)) H) no s:=by
 obtain⟨t,rfl⟩:=xa;obtain⟨u,rfl⟩:=xb;refine AutoIntOps.floordiv_1 (by simp;lia) ?_ (Gt.here r ⟨_,rfl⟩);unfold Builtin.divisionGoesByPylong;have:j.natAbs.log2<63:=CT (by lia) (by lia);simp;intro h
 split at h<;>lia
theorem Hq {n m:Nat}{l k:List V}{v:V}{cx cy:Value}(r:RH b s.heap Φ H) (xa:VR b Φ (.ref n) cx) (xb:VR b Φ (.ref m) cy) (h1:H.at_ n=some (.list l)) (h2:H.at_ m=some (.list k)) (e:ba (.list (l++k)) H=some (v,H')):
  wpAny (model prog w) A (binaryOp .Add cx cy) (Gt b X Φ s v H') no s:=by
 obtain⟨p,hp,rfl,-,vs,n1,g1,w1⟩:=r.at xa h1;obtain⟨q,hq,rfl,-,us,n2,g2,w2⟩:=r.at xb h2;refine dR e λf=>?_;have hl:=kq f;rw[List.length_append,w1.len,w2.len] at hl;refine P.add_list g1 g2 ?_ (by refine wr List.size_toArray (wr List.size_toArray ?_);exact hl);refine r.push (o:=.list (l++k)) (ob:={cls:=.type "list",data:=.seq (vs.toArray++us.toArray)}) f ⟨vs++us,0,?_,(w1.app w2).mono (bT _ _)⟩;exact wr (Heap.get?_push_size _ rfl) (wr (List.append_toArray _ _) rfl)
theorem Ho {n m:Nat}{l k:List V}{v:V}{cx cy:Value}(r:RH b s.heap Φ H) (xa:VR b Φ (.ref n) cx) (xb:VR b Φ (.ref m) cy) (h1:H.at_ n=some (.tup l)) (h2:H.at_ m=some (.tup k)) (hl:l≠[]) (hk:k≠[]) (e:ba (.tup (l++k)) H=some (v,H')):
  wpAny (model prog w) A (binaryOp .Add cx cy) (Gt b X Φ s v H') no s:=by
 obtain⟨p,hp,rfl,-,vs,n1,g1,w1⟩:=r.at xa h1;obtain⟨q,hq,rfl,-,us,n2,g2,w2⟩:=r.at xb h2;refine dR e λf=>?_;have hs:=kq f;have w3:=w1.app w2;rw[w3.len,List.length_append] at hs;refine P.add_tuple g1 g2 ?_ ?_ ?_ (by refine wr List.size_toArray (wr List.size_toArray ?_);exact hs)
 .have:vs≠[]:=λq=>hl (List.length_eq_zero_iff.mp (by refine wr w1.len (wr q ?_);rfl))
  simpa using this
 .have:us≠[]:=λq=>hk (List.length_eq_zero_iff.mp (by refine wr w2.len (wr q ?_);rfl))
  simpa using this
 refine r.push (o:=.tup (l++k)) (ob:={cls:=.type "tuple",data:=.seq (vs.toArray++us.toArray)}) f ⟨vs++us,0,?_,w3.mono (bT _ _)⟩;refine wr (Heap.get?_push_size _ rfl) (wr (List.append_toArray _ _) ?_);rfl
theorem Hp {n m:Nat}{l:List V}{cx cy:Value}(r:RH b s.heap Φ H) (xa:VR b Φ (.ref n) cx) (xb:VR b Φ (.ref m) cy) (h1:H.at_ n=some (.tup l)) (h2:H.at_ m=some (.tup [])) (hl:l≠[]):
  wpAny (model prog w) A (binaryOp .Add cx cy) (Gt b X Φ s (.ref n) H) no s:=by
 have xa':=xa;obtain⟨p,hp,rfl,-,vs,n1,g1,w1⟩:=r.at xa h1;obtain⟨q,hq,rfl,-,us,n2,g2,w2⟩:=r.at xb h2
 induction us with
 |cons=>exact w2.elim
 |nil=>
  have hv:vs.toArray.size≠0:=by refine wr List.size_toArray (wr (w1.len.symm) ?_);exact λq=>hl (List.length_eq_zero_iff.mp q)
  exact concat_meets ⟨_,g1,rfl⟩ ⟨_,g2,rfl⟩ noFill_tuple_add seq_tuple_add F.slot_tuple_add F.entry_tuple_add (F.args_tuple_add_2 _ _)
   (AutoSeq1.tuple___add___tuple_tuple_1 p.1 vs.toArray n1 q.1 #[] n2 (by simpa using hv) (by rfl)) ⟨g1,g2,.now r xa'⟩
theorem EV {vs:List Value}{n:Nat}:List.foldl (λx1 x2=>x1++x2) (#[]:Array Value) (List.replicate (if vs.toArray.isEmpty=true then 0 else n) vs.toArray)=(List.replicate n vs).flatten.toArray:=by
 apply Array.ext'
 refine wr (EW _ _) ?_
 rcases vs with _|⟨x,vs⟩
 .have:∀n:Nat,(List.replicate n ([]:List Value)).flatten=[]:=λn=>by induction n with|zero=>rfl|succ n ih=>refine wr List.replicate_succ (wr List.flatten_cons (wr ih ?_));rfl
  simp[this]
 .simp
theorem Gx {n:Nat}{j:Int}{l:List V}{v:V}{cx cy:Value}(r:RH b s.heap Φ H) (xa:VR b Φ (.ref n) cx) (xb:VR b Φ (.int j) cy) (h1:H.at_ n=some (.list l)) (hj:¬(1000<j\/j< -1000)) (e:ba (.list (rep l j.toNat)) H=some (v,H')):
  wpAny (model prog w) A (binaryOp .Mult cx cy) (Gt b X Φ s v H') no s:=by
 obtain⟨u,rfl⟩:=xb;obtain⟨p,hp,rfl,hfit,vs,n1,g1,w1⟩:=r.at xa h1;refine dR e λf=>?_;have hvl:vs.length<=1000:=by refine wr (w1.len.symm) ?_;exact Nat.le_of_ble_eq_true hfit
 have hm:vs.length*j.toNat<=1000*1000:=Nat.mul_le_mul hvl (by lia);refine wpAny_binaryOp_repeat_ref (T:="list") (U:="int") (by decide) ⟨_,g1,rfl⟩ (λs'=>typeIs_int s' j u) noFill_list_mul F.fills_int_mul F.slot_int_rmul repeat_list F.slot_int_index.lookup
  (call_meets F.slot_int_rmul (typeIs_int s j u) F.entry_int_rmul (F.args_int_rmul_2 _ _) (int___rmul___int_list j u p.1 vs.toArray n1)
  ⟨g1,rfl,⟨_,g1,rfl⟩,call_meets F.slot_list_mul ⟨_,g1,rfl⟩ F.entry_list_mul (F.args_list_mul_2 _ _)
   (AutoListH.list___mul___list_int_3 p.1 vs.toArray n1 j u (by simp[Builtin.List.listFitsIndex];lia) (by refine wr List.size_toArray ?_;lia) (by simp[Builtin.List.listTooLong,sizeLine];exact Nat.le_add_left_of_le (by assumption))) ⟨g1,?_⟩⟩)
 refine r.push (o:=.list (rep l j.toNat)) (ob:={cls:=.type "list",data:=.seq (List.foldl (λx1 x2=>x1++x2) #[] (List.replicate (if vs.toArray.isEmpty=true then 0 else j.toNat) vs.toArray))}) f ⟨(List.replicate j.toNat vs).flatten,0,?_,(w1.rep j.toNat).mono (bT _ _)⟩;exact wr (Heap.get?_push_size _ rfl) (wr EV rfl)
def BG (prog:Program) (w:World) (A:Around) (b:Bs) (X:Addr->Prop) (Φ:Fi) (s:Shared) (H H':AH) (v:V) (op:Operator) (x y:V):Prop:=∀cx cy,VR b Φ x cx->VR b Φ y cy->dI op x y H=some (v,H')->wpAny (model prog w) A (binaryOp op cx cy) (Gt b X Φ s v H') no s
theorem JE {x y v:V}(r:RH b s.heap Φ H):BG prog w A b X Φ s H H' v .Add x y:=by
 refine LP (P:=BG prog w A b X Φ s H H' v .Add) (λno u_ u_ u_ u_ e=>ag H (no▸e)) (λu_ u_ xa xb e=>aw e (Hr r xa xb)) λ{n m} _ _ xa xb e=>aG e λo h1 e=>aG e λo' h2 e=>?_;revert h1 h2 e;refine KO (P:=λo o'=>H.at_ n=some o->H.at_ m=some o'->JF n o o' H=some (v,H')->_) (λno u_ u_ e=>ag H (no▸e)) (λh1 h2 e=>Hq r xa xb h1 h2 e) (λh1 h2 e=>aw e (Hp r xa xb h1 h2 (List.cons_ne_nil _ _))) λh1 h2 e=>Ho r xa xb h1 h2 (List.cons_ne_nil _ _) (List.cons_ne_nil _ _) e
theorem Iv {x y v:V}(r:RH b s.heap Φ H):BG prog w A b X Φ s H H' v .Mult x y:=by
 refine LD (P:=BG prog w A b X Φ s H H' v .Mult) (λno u_ u_ u_ u_ e=>ag H (no▸e)) (λu_ u_ xa xb e=>pU e (λhs e=>aw e (Gy r xa xb hs)) λu_ e=>ag H e) λ{n j} _ _ xa xb e=>pU e (λu_ e=>ag H e) λhj e=>aG e λo h1 e=>?_;revert h1 e;exact Ko (f:=λl=>ba (.list (rep l j.toNat))) (P:=λo=>H.at_ n=some o->(match o with|.list l=>ba (.list (rep l j.toNat))|_=>ak:AM V) H=some (v,H')->_) (λno u_ e=>ag H (no▸e)) λh1 e=>Gx r xa xb h1 hj e
theorem Jy {op:Operator}{x y v:V}{cx cy:Value}(r:RH b s.heap Φ H) (xa:VR b Φ x cx) (xb:VR b Φ y cy) (e:dI op x y H=some (v,H')):
  wpAny (model prog w) A (binaryOp op cx cy) (Gt b X Φ s v H') no s:=by
 refine(?_:BG prog w A b X Φ s H H' v op x y) cx cy xa xb e
 clear xa xb e
 have two:∀{op},(∀i j,BG prog w A b X Φ s H H' v op (.int i) (.int j))->(∀x y,BG prog w A b X Φ s H H' v op x y\/∃f:Int->Int->AM V,dI op x y=(do let i<-aR x;let j<-aR y;f i j))->BG prog w A b X Φ s H H' v op x y:=λ{op} h g=>by
  rcases g x y with g|⟨f,g⟩
  .exact g
  .intro cx cy xa xb e;refine JB (g▸e) λi j z1 z2 u_=>?_;subst z1;subst z2;exact h i j _ _ xa xb e
 cases op<;>first|exact λu_ u_ u_ u_ e=>ag H e|exact JE r|exact Iv r|skip
 .exact two (op:=.Sub) (λi j u_ u_ xa xb e=>aw e (HX r xa xb)) λu_ u_=>.inr ⟨_,rfl⟩
 .exact two (op:=.Mod) (λi j u_ u_ xa xb e=>pU e (λhs e=>aw e (Iw r xa xb hs)) λu_ e=>ag H e) λu_ u_=>.inr ⟨_,rfl⟩
 .exact two (op:=.FloorDiv) (λi j u_ u_ xa xb e=>pU e (λhs e=>aw e (G3 r xa xb hs)) λu_ e=>ag H e) λu_ u_=>.inr ⟨_,rfl⟩
end
end Mi
namespace Mi
open PySem PySem.W PyProof.Rows PySem.SeqAt
section
variable {A:Around}{b:Bs}{Φ:Fi}{s:Shared}{H H':AH}
theorem rJ {f:V->V->Option Bool}{x y:V}{l m:List V}{r:Bool}(e:ax f (x::l) (y::m)=some r):∃u v,f x y=some u/\ax f l m=some v/\r=(u&&v):=by
 have e:(match f x y,ax f l m with|some x,some y=>some (x&&y)|_,_=>none)=some r:=e
 rcases h1:f x y with _|u
 .rw[h1] at e;exact ns e
 .rcases h2:ax f l m with _|v
  .rw[h1,h2] at e;exact ns e
  .rw[h1,h2] at e;obtain rfl:=Option.some.inj e;exact⟨u,v,rfl,rfl,rfl⟩
theorem rI {f:V->V->Option Bool}{l:List V}(h:∀x∈l,∀r,f x x=some r->r=true):∀r,ax f l l=some r->r=true:=by
 induction l with
 |nil=>intro r e;obtain rfl:=Option.some.inj e;rfl
 |cons x l ih=>
  intro r e;refine bV (rJ e) λu v h1 h2 z1=>?_;subst z1;refine wr (h x (.head _) u h1) (wr (ih (λy hy=>h y (.tail _ hy)) v h2) ?_);rfl
theorem E2 (n:Nat):∀(x:V) (r:Bool),eT n H x x=some r->r=true:=by
 induction n with
 |zero=>intro x r e;exact ns e
 |succ n ih=>
  intro x r e
  induction x with
  |none=>obtain rfl:=Option.some.inj e;rfl
  |bool y=>obtain rfl:=Option.some.inj e;exact beq_self_eq_true _
  |int y=>obtain rfl:=Option.some.inj e;exact beq_self_eq_true _
  |str y=>obtain rfl:=Option.some.inj e;exact beq_self_eq_true _
  |ext l=>exact ns e
  |ref y=>
   have e:(match H.at_ y,H.at_ y with
    |some (.list l),some (.list m)=>if l.length=m.length then ax (eT n H) l m else some false
    |some (.tup l),some (.tup m)=>match ax (eT n H) l m with
     |some r=>some (r&&decide (l.length=m.length))
     |none=>none
    |_,_=>none)=some r:=e
   revert e;generalize H.at_ y=o_;rcases o_ with _|o
   .intro e;exact ns e
   .intro e
    induction o with
    |list l=>
     have e:(if l.length=l.length then ax (eT n H) l l else some false)=some r:=e;rw[if_pos rfl] at e;exact rI (λx u_=>ih x) r e
    |tup l=>
     have e:(match ax (eT n H) l l with|some r=>some (r&&decide (l.length=l.length))|none=>none)=some r:=e
     rcases h:ax (eT n H) l l with _|v
     .rw[h] at e;exact ns e
     .rw[h] at e;obtain rfl:=Option.some.inj e;refine wr (rI (λx u_=>ih x) v h) (wr (decide_eq_true rfl) ?_);rfl
    |_=>exact ns e
theorem uF {f:V->V->Option Bool}{l:List V}:∀{m:List V} {r:Bool},ax f l m=some r->
  ∃e:Nat->Bool,(∀j x y,l[j]? =some x->m[j]? =some y->f x y=some (e j))/\r=(List.range (min l.length m.length)).all e:=by
 induction l with
 |nil=>
  intro m r h;obtain rfl:=Option.some.inj h;exact⟨λu_=>true,λj x y hx=>by simp at hx,by simp⟩
 |cons x l ih=>
  intro m r h
  rcases m with _|⟨y,m⟩
  .obtain rfl:=Option.some.inj h;exact⟨λu_=>true,λj x y u_ hy=>by simp at hy,by simp⟩
  .refine bV (rJ h) λu v h1 h2 z2=>?_;subst z2;refine bW (ih h2) λe he hr=>⟨λj=>match j with|0=>u|j+1=>e j,λj x' y' hx hy=>?_,?_⟩
   .rcases j with _|j
    .obtain rfl:=Option.some.inj hx;obtain rfl:=Option.some.inj hy;exact h1
    .exact he j x' y' hx hy
   .refine wr List.length_cons (wr List.length_cons (wr (Nat.succ_min_succ _ _) (wr List.range_succ_eq_map (wr List.all_cons (wr List.all_map (wr hr ?_))))));rfl
structure KU (A:Around) (s:Shared) (cx cy:Value) (r:Bool):Prop where
 eq:EqAt A s cx cy r
 rc:RcAt A s cx cy r
 ne:RcNeAt A s cx cy (!r)
theorem dF.get' {l:List V}{vs:List Value}(x:dF b Φ l vs) {j:Nat}(h:j<vs.toArray.size):∃v,l[j]? =some v/\VR b Φ v vs.toArray[j]:=by
 have hl:j<l.length:=by refine wr x.len ?_;simpa using h
 refine bW (x.get (List.getElem?_eq_getElem hl)) λc hc r=>?_;refine⟨_,List.getElem?_eq_getElem hl,?_⟩;have:vs.toArray[j]=c:=by
  have hj:j<vs.length:=by simpa using h
  rw[List.getElem?_eq_getElem hj] at hc;obtain rfl:=Option.some.inj hc;simp
 refine wr this ?_;exact r
theorem wY {j:Nat}{c:Value}{k:Bool}(r:RH b s.heap Φ H) (e:(match H.at_ j with|some (.tup _)=>some false|_=>none)=some k) (hx:VR b Φ (.ref j) c):k=false/\∃p vs,c=.ref p/\s.heap.IsTuple p vs:=by
 rcases q:H.at_ j with _|o
 .rw[q] at e;exact ns e
 .rw[q] at e;refine RH.sD r hx q λp hp u_ z=>?_
  induction o<;>try(cases e;done)
  obtain rfl:=Option.some.inj e;refine cF z λvs n1 g1 w1=>⟨rfl,p.1,_,rfl,_,g1,rfl,n1,rfl⟩
section
variable {n:Nat}{p q:Addr}{l m:List V}{vs us:List Value}{k:Bool}
theorem HM (hl:dF b Φ l vs) (hm:dF b Φ m us) (ih:∀(A:Around) {x y:V}{cx cy:Value}{k:Bool},eT n H x y=some k->VR b Φ x cx->VR b Φ y cy->A.units+n<cLine->KU A s cx cy k) (hu:A.units+(n+1)<cLine) {f:Nat->Bool}(hf:∀j x y,l[j]? =some x->m[j]? =some y->eT n H x y=some (f j)):
  ∀j (h1:j<vs.toArray.size) (h2:j<us.toArray.size),EqAt A.in1 s vs.toArray[j] us.toArray[j] (f j):=λj h1 h2=>by
 refine bW (hl.get' h1) λx ex rx=>bW (hm.get' h2) λy ey ry=>?_;exact(ih A.in1 (hf j x y ex ey) rx ry (by show A.units+1+n<cLine;lia)).eq
theorem E1 (hl:dF b Φ l vs) (hm:dF b Φ m us) (i1:s.heap.IsList p vs.toArray) (i2:s.heap.IsList q us.toArray) (ih:∀(A:Around) {x y:V}{cx cy:Value}{k:Bool},eT n H x y=some k->VR b Φ x cx->VR b Φ y cy->A.units+n<cLine->KU A s cx cy k) (hu:A.units+(n+1)<cLine)
  (e:(if l.length=m.length then ax (eT n H) l m else some false)=some k):RcAt A s (.ref p) (.ref q) k/\RcNeAt A s (.ref p) (.ref q) (!k):=by
 have hu':A.units<cLine:=Nat.lt_of_le_of_lt (Nat.le_add_right _ _) (by assumption);have e1:l.length=vs.toArray.size:=wr hl.len (wr List.size_toArray rfl);have e2:m.length=us.toArray.size:=wr hm.len (wr List.size_toArray rfl)
 by_cases h:l.length=m.length
 .rw[if_pos h] at e;refine bW (uF e) λf hf z4=>?_;subst z4;have he:=HM hl hm ih hu hf;refine wr (h.symm) (wr (Nat.min_self _) (wr e1 ?_));exact⟨RcAt.lists i1 i2 (by exact wr (e1.symm) (wr (e2.symm) (wr h rfl))) hu' he,RcNeAt.lists i1 i2 (by exact wr (e1.symm) (wr (e2.symm) (wr h rfl))) hu' he⟩
 .rw[if_neg h] at e;obtain rfl:=Option.some.inj e;have hl':(vs.toArray.size !=us.toArray.size)=true:=by refine wr (e1.symm) (wr (e2.symm) ?_);simpa using h
  exact⟨RcAt.lists_lengths i1 i2 hl' hu',RcNeAt.lists_lengths i1 i2 hl' hu'⟩
theorem G6 (hl:dF b Φ l vs) (hm:dF b Φ m us) (i1:s.heap.IsTuple p vs.toArray) (i2:s.heap.IsTuple q us.toArray) (ih:∀(A:Around) {x y:V}{cx cy:Value}{k:Bool},eT n H x y=some k->VR b Φ x cx->VR b Φ y cy->A.units+n<cLine->KU A s cx cy k) (hu:A.units+(n+1)<cLine)
  (e:(match ax (eT n H) l m with|some r=>some (r&&decide (l.length=m.length))|none=>none)=some k):RcAt A s (.ref p) (.ref q) k/\RcNeAt A s (.ref p) (.ref q) (!k):=by
 have hu':A.units<cLine:=Nat.lt_of_le_of_lt (Nat.le_add_right _ _) (by assumption)
 rcases hk:ax (eT n H) l m with _|k'
 .rw[hk] at e;exact ns e
 .rw[hk] at e;obtain rfl:=Option.some.inj e;refine bW (uF hk) λf hf z5=>?_;subst z5;have he:=HM hl hm ih hu hf;have hd:decide (vs.toArray.size=us.toArray.size)=(vs.toArray.size==us.toArray.size):=by
   rcases h:(vs.toArray.size==us.toArray.size) with _|_
   .simpa using h
   .simpa using h
  refine wr (show l.length=vs.toArray.size by rw[hl.len,List.size_toArray]) (wr (show m.length=us.toArray.size by rw[hm.len,List.size_toArray]) (wr hd ?_));exact⟨RcAt.tuples i1 i2 hu' he,RcNeAt.tuples i1 i2 hu' he⟩
end
theorem E4 (r:RH b s.heap Φ H) (n:Nat):∀(A:Around) {x y:V} {cx cy:Value} {k:Bool},eT n H x y=some k->VR b Φ x cx->VR b Φ y cy->A.units+n<cLine->KU A s cx cy k:=by
 induction n with
 |zero=>intro _ _ _ _ _ _ e;exact ns e
 |succ n ih=>
  intro A x y cx cy k e hx hy hu;have hu':A.units<cLine:=Nat.lt_of_le_of_lt (Nat.le_add_right _ _) (by assumption)
  induction x<;>induction y<;>try(cases e;done)
  case none.none=>obtain rfl:=Option.some.inj e;subst hx;subst hy;exact⟨.same _,.none_none,.none_none⟩
  case bool.bool i j=>obtain rfl:=Option.some.inj e;subst hx;subst hy;exact⟨.bool_bool _ _,.bool_bool _ _,.bool_bool _ _⟩
  case int.int i j=>
   refine xE hx λt z6=>?_;subst z6;refine xE hy λu z7=>?_;subst z7;obtain rfl:=Option.some.inj e;exact⟨.int_int _ _ _ _,.int_int _ _ _ _,.int_int _ _ _ _⟩
  case str.str i j=>
   refine xE hx λt z8=>?_;subst z8;refine xE hy λu z9=>?_;subst z9;obtain rfl:=Option.some.inj e;exact⟨.str_str _ _ _ _,.str_str _ _ _ _,.str_str _ _ _ _⟩
  case none.int j=>
   refine xE hy λu z10=>?_;subst z10;subst hx;obtain rfl:=Option.some.inj e;exact⟨.none_int _ _,.none_int _ _,.none_int _ _⟩
  case int.none j=>
   refine xE hx λu z11=>?_;subst z11;subst hy;obtain rfl:=Option.some.inj e;exact⟨.int_none _ _,.int_none _ _,.int_none _ _⟩
  case none.ref j=>
   subst hx;refine AY (wY r e hy) λz12 p vs z13 g=>?_;subst z12;subst z13;exact⟨.none_tuple g hu',.none_tuple g hu',.none_tuple g hu'⟩
  case ref.none j=>
   subst hy;refine AY (wY r e hx) λz14 p vs z15 g=>?_;subst z14;subst z15;exact⟨.tuple_none g hu',.tuple_none g hu',.tuple_none g hu'⟩
  case int.ref i j=>
   refine xE hx λt z16=>?_;subst z16;refine AY (wY r e hy) λz17 p vs z18 g=>?_;subst z17;subst z18;exact⟨.int_tuple _ _ g hu',.int_tuple _ _ g hu',.int_tuple _ _ g hu'⟩
  case ref.int j i=>
   refine xE hy λt z19=>?_;subst z19;refine AY (wY r e hx) λz20 p vs z21 g=>?_;subst z20;subst z21;exact⟨.tuple_int _ _ g hu',.tuple_int _ _ g hu',.tuple_int _ _ g hu'⟩
  case ref.ref i j=>
   have same:∀p q:Addr×Addr,Φ[i]? =some p->Φ[j]? =some q->p.1=q.1->k=true:=λp q hp hq hpq=>by
    by_cases hij:i=j
    .exact E2 _ _ _ (hij▸e)
    .exact absurd hpq (r.apart i j p q hij hp hq).1
   have e:(match H.at_ i,H.at_ j with
    |some (.list l),some (.list m)=>if l.length=m.length then ax (eT n H) l m else some false
    |some (.tup l),some (.tup m)=>match ax (eT n H) l m with
     |some r=>some (r&&decide (l.length=m.length))
     |none=>none
    |_,_=>none)=some k:=e
   rcases q1:H.at_ i with _|o
   .rw[q1] at e;exact ns e
   .rcases q2:H.at_ j with _|o'
    .rw[q1,q2] at e;induction o<;>exact ns e
    .rw[q1,q2] at e;refine RH.sD r hx q1 λp hp u_ z=>RH.sD r hy q2 λq hq u_ z'=>?_;have done:RcAt A s (.ref p.1) (.ref q.1) k/\RcNeAt A s (.ref p.1) (.ref q.1) (!k)->KU A s (.ref p.1) (.ref q.1) k:=λh=>⟨by
      by_cases hpq:p.1=q.1
      .refine wr hpq (wr (same p q hp hq hpq) ?_);exact .same _
      .exact .of_refs hpq h.1,h.1,h.2⟩
     induction o<;>induction o'<;>try(cases e;done)
     case list.list l m=>
      refine cF z λvs n1 g1 w1=>cF z' λus n2 g2 w2=>done (E1 w1 w2 ⟨_,g1,rfl,n1,rfl⟩ ⟨_,g2,rfl,n2,rfl⟩ ih hu e)
     case tup.tup l m=>
      refine cF z λvs n1 g1 w1=>cF z' λus n2 g2 w2=>done (G6 w1 w2 ⟨_,g1,rfl,n1,rfl⟩ ⟨_,g2,rfl,n2,rfl⟩ ih hu e)
end
end Mi
namespace Mi
open PySem PySem.W PyProof.Rows PySem.SeqAt
section
variable {prog:Program}{w:World}{A:Around}{b:Bs}{Φ:Fi}{s:Shared}{H H':AH}
theorem FN {x y:V}{k:Bool}(e:KG x y H=some (k,H')):eT 8 H x y=some k/\H=H':=by
 unfold KG at e
 split at e<;>cases e
 exact⟨by assumption,rfl⟩
theorem z0 {i:Int}:∀{l:List V} {vs:List Value} {k:Bool},gZ i l=some k->dF b Φ l vs->(∀v∈vs,∃j t,v=Value.int j t)/\k=vs.any (λv=>match v with|.int j _=>j==i|_=>false)
 :=by
 intro l
 induction l with
 |nil=>
  intro vs k e x
  rcases vs with _|⟨c,vs⟩
  .exact⟨λv hv=>nm hv,(Option.some.inj e).symm⟩
  .exact x.elim
 |cons x l ih=>
  intro vs k e h
  rcases vs with _|⟨c,vs⟩
  .exact h.elim
  .induction x with
   |int j=>
    unfold gZ at e
    split at e
    .rename_i r' hr;obtain rfl:=Option.some.inj e;refine xA h λz1 h2=>?_;obtain⟨t,rfl⟩:=z1;refine xA (ih hr h2) λg1 g2=>⟨λv hv=>?_,?_⟩
     .cases hv with
      |head=>exact⟨_,_,rfl⟩
      |tail _ hv=>exact g1 v hv
     .refine wr List.any_cons (wr (g2.symm) ?_);rfl
    .exact ns e
   |_=>exact ns e
theorem gP {i:Int}:∀{es:List (Int×V)} {ds:List DictEntry},DA b Φ es ds->(∀d∈ds,∃k t,d.key=.int k t/\d.hash=hashInt k)/\
  match dictFind i es,(ds.find? λd=>Value.isInt i d.key).map (·.val) with
  |none,none=>True
  |some v,some c=>VR b Φ v c
  |_,_=>False:=by
 intro es
 induction es with
 |nil=>
  intro ds h
  rcases ds with _|⟨d,ds⟩
  .exact⟨λd hd=>nm hd,trivial⟩
  .exact h.elim
 |cons p es ih=>
  intro ds h
  rcases ds with _|⟨d,ds⟩
  .exact h.elim
  obtain⟨⟨t,h1⟩,h2,h3,h4⟩:=h;refine xA (ih h4) λg1 g2=>⟨λd' hd=>?_,?_⟩
  .cases hd with
   |head=>exact⟨_,_,h1,h2⟩
   |tail _ hd=>exact g1 d' hd
  .unfold dictFind;refine wr (List.find?_cons) (wr h1 ?_)
   by_cases hp:p.1=i
   .have:Value.isInt i (.int p.1 t)=true:=by simp[Value.isInt,hp]
    refine wr this (wr (if_pos hp) ?_);exact h3
   .have:Value.isInt i (.int p.1 t)=false:=by simpa [Value.isInt] using hp
    refine wr this (wr (if_neg hp) ?_);exact g2
theorem E8 {es:List (Int×V)}{ds:List DictEntry}{n:Nat}{a:Addr}(g:s.heap.get? a=some (dictOf ds n)) (x:DA b Φ es ds):
  s.heap.IntMap a (λk=>(ds.find? λd=>Value.isInt k d.key).map (·.val)):=by
 refine⟨_,ds.toArray,n,g,rfl,rfl,λe he=>?_,λk=>by unfold findBy;exact wr ((List.find?_toArray) _ _) rfl⟩;exact(gP (i:=0) x).1 e (by simpa using he)
noncomputable abbrev JJ (s:Shared) (k:Bool) (H H':AH):Value->Shared->Prop:=λc s'=>c=.bool k/\H'=H/\∃tk,s'={s with toks:=tk}
theorem JJ.self {k:Bool}:JJ s k H H (.bool k) s:=⟨rfl,rfl,s.toks,rfl⟩
theorem HH {x y:V}{k:Bool}{cx cy:Value}(r:RH b s.heap Φ H) (xa:VR b Φ x cx) (xb:VR b Φ y cy) (e:I6 x y H=some (k,H')):
  wpAny (model prog w) A (compareOp .Is cx cy) (JJ s k H H') no s/\wpAny (model prog w) A (compareOp .IsNot cx cy) (JJ s (!k) H H') no s:=by
 induction x<;>induction y<;>try exact ag H e
 case none.none=>
  refine aw e ?_;subst xa;subst xb;exact⟨wpAny_is_self rfl .self,wpAny_isNot_self rfl .self⟩
 case none.ref=>
  refine aw e ?_;subst xa;refine bW xb λp u_ z6=>?_;subst z6;exact⟨wpAny_is_other rfl (by intro h;exact FX h rfl) .self,wpAny_isNot_other rfl (by intro h;exact FX h rfl) .self⟩
 case ref.none=>
  refine aw e ?_;subst xb;refine bW xa λp u_ z9=>?_;subst z9;exact⟨wpAny_is_other rfl (by intro h;exact FX h rfl) .self,wpAny_isNot_other rfl (by intro h;exact FX h rfl) .self⟩
 case ref.ref i j=>
  refine aG e λo h1 e=>?_
  induction o with
  |inst c fs=>
   refine aw e ?_;refine RH.sD r xa h1 λp hp u_ z12=>?_;obtain⟨C,es,n,z1,z2,z3,z4,z5⟩:=z12;refine bW xb λq hq z13=>?_;subst z13
   by_cases hij:i=j
   .subst hij;rw[hp] at hq;obtain rfl:=Option.some.inj hq;refine wr (Nat.beq_refl _)<|⟨wpAny_is_ref_self .self,wpAny_isNot_ref_self .self⟩
   .have ap:=r.apart i j p q hij hp hq;refine xA (r.live j q hq) λz14 u_=>?_;obtain⟨o,hl⟩:=z14;refine wr (nU hij) ?_;exact⟨wpAny_is_ref_other ap.1 z3 hl (by intro h;exact FX h rfl) .self,wpAny_isNot_ref_other ap.1 z3 hl (by intro h;exact FX h rfl) .self⟩
  |_=>exact ag H e
theorem HI {x y:V}{k:Bool}{cx cy:Value}(r:RH b s.heap Φ H) (xa:VR b Φ x cx) (xb:VR b Φ y cy) (e:JQ x y H=some (k,H')):
  wpAny (model prog w) A (compareOp .In cx cy) (JJ s k H H') no s/\wpAny (model prog w) A (compareOp .NotIn cx cy) (JJ s (!k) H H') no s:=by
 induction x<;>induction y<;>try exact ag H e
 case int.ref i j=>
  refine aG e λo h1 e=>?_;refine xE xa λt z15=>?_;subst z15;refine RH.sD r xb h1 λq hq u_ z=>?_
  induction o with
  |tup l=>
   refine cF z λvs n g w1=>?_;have e:(match gZ i l with|some r=>(pure r:AM Bool)|none=>ak) H=some (k,H'):=e
   rcases hk:gZ i l with _|k'
   .rw[hk] at e;exact ag H e
   .rw[hk] at e;refine aw e ?_;refine xA (z0 hk w1) λg1 z19=>?_;subst z19;have it:s.heap.IsTuple q.1 vs.toArray:=⟨_,g,rfl,n,rfl⟩;have he:∀y,y∈vs.toArray->EqAt A.in1 s y (.int i t) (match y with|.int j _=>j==i|_=>false):=λy hy=>by
     refine fP (g1 y (by simpa using hy)) λj u z20=>?_;subst z20;exact .int_int _ _ _ _
    refine⟨in_tupleAt _ it he ?_,notIn_tupleAt _ it he ?_⟩<;>refine wr (Array.any_toList.symm) ?_<;>exact .self
  |dict es=>
   refine aw e<|cF z λds n g w1=>?_
   have m:=E8 g w1;have q2:=(gP (i:=i) w1).2;have hk:((ds.find? λd=>Value.isInt i d.key).map (·.val)).isSome=(dictFind i es).isSome:=by
    revert q2
    induction (dictFind i es)<;>induction (ds.find? λd=>Value.isInt i d.key).map (·.val)<;>intro q2<;>first|rfl|exact q2.elim
   refine⟨wpAny_in_intMap m ?_,?_⟩
   .refine wr hk ?_;exact⟨rfl,rfl,_,rfl⟩
   .show wpAny (model prog w) A (do return Value.bool (!(<-contains (.ref q.1) (.int i t)))) _ _ s;have P:wpAny (model prog w) A (do return Value.bool (<-contains (.ref q.1) (.int i t))) (λc s'=>c=.bool (dictFind i es).isSome/\∃tk,s'={s with toks:=tk}) no s:=
     wpAny_in_intMap m (by refine wr hk ?_;exact⟨rfl,_,rfl⟩)
    intro Γ p hΓ;have P:=P Γ p hΓ;rw[Sem.wp_bind'] at P⊢;refine Sem.wp_mono _ _ _ ?_ (λu_ u_ u_ x=>x) _ _ P;intro c p' s' x;obtain⟨x1,x2⟩:Value.bool c=.bool (dictFind i es).isSome/\∃tk,s'={s with toks:=tk}:=x
    cases x1
    exact⟨rfl,rfl,x2⟩
  |_=>exact ag H e
theorem AF {op:CmpOp}{x y:V}{k:Bool}{cx cy:Value}(r:RH b s.heap Φ H) (xa:VR b Φ x cx) (xb:VR b Φ y cy) (hu:A.units+8<cLine) (e:bQ op x y H=some (k,H')):
  wpAny (model prog w) A (compareOp op cx cy) (JJ s k H H') no s:=by
 have two:∀{f:Int->Int->Bool},(do let i<-aR x;let j<-aR y;pure (f i j):AM Bool) H=some (k,H')->∃i j t u,cx=.int i t/\cy=.int j u/\k=f i j/\H'=H:=by
  intro f e;refine ai e λi H1 e1 e=>?_;obtain⟨rfl,rfl⟩:=rT e1;obtain⟨j,H1,e1,e⟩:=pW e;obtain⟨rfl,rfl⟩:=rT e1;refine aw e ?_;refine xE xa λt z27=>?_;subst z27;refine xE xb λu z28=>?_;subst z28;exact⟨i,j,t,u,rfl,rfl,rfl,rfl⟩
 induction op
 case Lt=>refine ed (two e) λi j t u z29 z30 z31 z32=>?_;subst z29;subst z30;subst z31;subst z32;exact P.lt_int .self
 case LtE=>refine ed (two e) λi j t u z33 z34 z35 z36=>?_;subst z33;subst z34;subst z35;subst z36;exact P.le_int .self
 case Gt=>refine ed (two e) λi j t u z37 z38 z39 z40=>?_;subst z37;subst z38;subst z39;subst z40;exact P.gt_int .self
 case GtE=>refine ed (two e) λi j t u z41 z42 z43 z44=>?_;subst z41;subst z42;subst z43;subst z44;exact P.ge_int .self
 case Eq=>
  refine xA (FN e) λe2 z45=>?_;subst z45;exact EqBoolInt.of_rc (E4 r 8 A e2 xa xb hu).rc .self
 case NotEq=>
  refine ai e λk' H1 e1 e=>?_;refine xA (FN e1) λe2 z46=>?_;subst z46;refine aw e<|EqBoolInt.of_rcne (E4 r 8 A e2 xa xb hu).ne .self
 case Is=>exact(HH r xa xb e).1
 case IsNot=>
  refine ai e λk' H1 e1 e=>aw e<|(HH r xa xb e1).2
 case In=>exact(HI r xa xb e).1
 case NotIn=>
  refine ai e λk' H1 e1 e=>aw e<|(HI r xa xb e1).2
end
end Mi
namespace Mi
open PySem PySem.W PyProof.Rows PySem.SeqAt
structure FV (K:Frag) (C:Addr) (c:Str):Prop where
 ga:findIn K (.ref C) "__getattribute__"=some (some (.builtin "object.__getattribute__"))
 gk:findIn K (.ref C) "__getattr__"=some none
 sa:findIn K (.ref C) "__setattr__"=some (some (.builtin "object.__setattr__"))
 dict:hasDictIn K C=true
 over:plainOver K C=true
 fl:(By c).all (λf=>findIn K (.ref C) f==some none)=true
structure fy (b:Bs):Prop where
 L8:b.K.In b.h
 Gb:∃o,b.h.get? sysModules=some o
 glob:∃mg mb,b.h.Ns mainGlobals mg/\b.h.Ns builtinsNs mb/\∀x v,b.gl x=some v->x≠("__debug__":Str)/\(mg x=some v\/(mg x=none/\mb x=some v))
 MA:∀x k,Dj x=some k->b.gl x=some (match k with
  |.len=>.builtin "len"|.list=>.type "list"|.tuple=>.type "tuple"|.range=>.type "range"|.sum=>.builtin "sum"
  |.sorted=>.builtin "sorted"|.abs=>.builtin "abs"|.min=>.builtin "min"|.max=>.builtin "max")
 Mz:b.gl "isinstance"=some (.builtin "isinstance")
 L9:b.gl "tuple"=some (.type "tuple")/\b.gl "bool"=some (.type "bool")
 My:∃t,b.gl "LONGEST"=some (.int 4194304 t)
 Mx:b.gl "NAMES"=some (.ref b.nm)
 lim:b.h.NoLimit
 names:∃t1 t2 t3 t4 t5 n,b.h.get? b.nm=some (DG [.str "category" t1,.str "front-sticky" t2,.str "rear-nonsticky" t3,.str "evaporate" t4,.str "priority" t5] n)
 cls:∀c C,b.cl c=some C->FV b.K C c
section
variable {prog:Program}{w:World}{A:Around}{b:Bs}{X:Addr->Prop}{Φ:Fi}{s:Shared}{H H':AH}
theorem FV.none {K:Frag}{C:Addr}{c f:Str}(x:FV K C c) (h:fld c f=true):findIn K (.ref C) f=some none:=by
 have:=List.all_eq_true.mp x.fl f (List.contains_iff_mem.mp h);exact beq_iff_eq.mp this
theorem RH.K (r:RH b s.heap Φ H) (o:fy b):b.K.In s.heap:=o.L8.keeps r.base
theorem pO:∀{fs:List (Str×V)} {es:List DictEntry},Dz b Φ fs es->es.any (·.refKey)=false
 |[],[],_=>rfl
 |_::_,e::es,⟨⟨t,h⟩,_,h3⟩=>by
  refine wr List.any_cons (wr (pO h3) ?_);simp[DictEntry.refKey,h]
 |[],_::_,x=>x.elim
 |_::_,[],x=>x.elim
theorem wD {f:Str}:∀{fs:List (Str×V)} {es:List DictEntry},Dz b Φ fs es->
  match fs.lookup f with
  |some v=>∃c,getL f es=some (some c)/\VR b Φ v c
  |none=>getL f es=some none
 |[],[],_=>rfl
 |p::fs,e::es,x=>by
  have nk:=pO x;refine mE x λz1 h2 h3=>?_;obtain⟨t,h1⟩:=z1;have ih:=wD (f:=f) h3;have nk':=pO h3;obtain⟨y,o⟩:=p;dsimp only at h1 h2;refine wr List.lookup_cons ?_
  rcases hy:f==y with _|_
  .have hn:Value.isStr (.str y t) f=false:=by
    show(y==f)=false;refine wr Bool.beq_comm ?_;exact hy
   have g:getL f (e::es)=getL f es:=by
    unfold getL;exact wr (List.find?_cons) (wr h1 (wr hn (wr nk (wr nk' rfl))))
   refine wr g ?_;exact ih
  .dsimp only;refine⟨e.val,?_,h2⟩;unfold getL;exact wr (List.find?_cons) (wr h1 (wr (show Value.isStr (.str y t) f=true from by show(y==f)=true;rw[eq_of_beq hy];exact beq_self_eq_true _) rfl))
 |[],_::_,x=>x.elim
 |_::_,[],x=>x.elim
theorem ER {f:Str}{v:V}{c:Value}{hsh:Int}{t:Tok}(hc:VR b Φ v c):∀{fs:List (Str×V)} {es:List DictEntry},Dz b Φ fs es->Dz b Φ (dM fs f v) (putL f hsh (.str f t) c es)
 |[],[],_=>⟨⟨t,rfl⟩,hc,trivial⟩
 |(y,o)::fs,e::es,⟨⟨u,h1⟩,h2,h3⟩=>by
  have ih:=ER (f:=f) (hsh:=hsh) (t:=t) hc h3;unfold dM putL;have hk:e.key.isStr f=(y==f):=by
   have h1:e.key=.str y u:=h1;refine wr h1 ?_;rfl
  refine wr hk ?_
  rcases y==f with _|_
  .exact⟨⟨u,h1⟩,h2,ih⟩
  .exact⟨⟨u,h1⟩,hc,h3⟩
 |[],_::_,x=>x.elim
 |_::_,[],x=>x.elim
theorem ES:∀{fs:List (Str×V)} {es:List DictEntry},Dz b Φ fs es->fs.length=es.length
 |[],[],_=>rfl
 |_::_,_::_,x=>by exact wr List.length_cons (wr List.length_cons (wr (ES x.2.2) rfl))
 |[],_::_,x=>x.elim
 |_::_,[],x=>x.elim
theorem VR.handed {v:V}{c:Value}(x:VR b Φ v c):handedIn c=true:=by
 induction v
 case none=>subst x;rfl
 case bool=>subst x;rfl
 case int=>refine xE x λt z2=>?_;subst z2;rfl
 case str=>refine xE x λt z3=>?_;subst z3;rfl
 case ref=>refine bW x λp u_ z4=>?_;subst z4;rfl
 case ext=>refine cF x λa its z5 u_=>?_;subst z5;rfl
theorem pM {h:Heap}{C:Addr}{p:Addr×Addr}{es:List DictEntry}{n:Nat}(g1:h.get? p.1=some (instObj C p.2)) (g2:h.get? p.2=some (dictOf es n)):InstAt h p.1 (instObj C p.2) C (some (dictOf es n)):=⟨g1,rfl,rfl,g2⟩
theorem GX {f:Str}{x v:V}{cx:Value}{ex:Bool}(B:fy b) (r:RH b s.heap Φ H) (xa:VR b Φ x cx) (e:aV x f H=some (v,H')):wpAny (model prog w) A (getAttr cx f ex) (Gt b X Φ s v H') no s:=by
 induction x<;>try exact ag H e
 case ref i=>
  refine aG e λo h1 e=>RH.sD r xa h1 λp hp u_ z=>?_
  induction o with
  |inst c fs=>
   refine xe z λC es n z1 z2 z3 z4 z5=>?_
   rcases hf:fld c f with _|_
   .dsimp only at e;rw[hf] at e;exact ag H e
   .dsimp only at e;rw[hf] at e;dsimp only[cond] at e;have g:=wD (f:=f) z5
    rcases hl:fs.lookup f with _|u
    .rw[hl] at e;exact ag H e
    .rw[hl] at e g;refine aw e<|bW g λd g1 g2=>?_
     have ok:=B.cls c C z1;exact get_value (r.K B) (pM z3 z4) ok.ga (findObj_own (attr:=.none) ok.dict (ok.none hf) rfl g1) g2.handed (.here r g2)
  |_=>exact ag H e
theorem C6 {f:Str}{fs:List (Str×V)}{es:List DictEntry}(x:Dz b Φ fs es):∃o,getL f es=some o:=by
 have g:=wD (f:=f) x;revert g;generalize fs.lookup f=o_;rcases o_ with _|u
 .intro g;exact⟨_,g⟩
 .intro g;refine bW g λc g u_=>?_;exact⟨_,g⟩
theorem Gi {f:Str}{x v:V}{cx cv:Value}{u:Unit}(B:fy b) (r:RH b s.heap Φ H) (xa:VR b Φ x cx) (xv:VR b Φ v cv) (e:bZ x f v H=some (u,H')):wpAny (model prog w) A (setAttr cx f cv) (sE b X Φ s H') no s:=by
 induction x<;>try exact ag H e
 case ref i=>
  refine aG e λo h1 e=>RH.sD r xa h1 λp hp u_ z=>?_
  induction o with
  |inst c fs=>
   refine xe z λC es n z1 z2 z3 z4 z5=>?_
   rcases hf:fld c f with _|_
   .dsimp only at e;rw[hf] at e;exact ag H e
   .dsimp only at e;rw[hf] at e;dsimp only[cond] at e;refine mf e λhfit=>?_;have ok:=B.cls c C z1;have XK:=r.K B;have ht:takerIn b.K C f=some none:=by unfold takerIn;refine wr (ok.none hf) ?_;rfl
    refine set_plain XK (pM z3 z4) ok.sa<|osa_open (s:={s with toks:=s.toks+1}) XK (pM z3 z4) ok.over ht λbb=>bW (any_some ok.dict) λcd hc hd'=>xE (C6 (f:=f) z5) λo hg=>?_
    have upd:Obj.putName f (PyData.keyHash w.params f) (.str f (s.toks+1)) cv (dictOf es n)=dictOf (putL f (PyData.keyHash w.params f) (.str f (s.toks+1)) cv es) (PySem.W.putN f es n):=putName_dict _ _ _ _ _ _;have fs':=ER (f:=f) (hsh:=PyData.keyHash w.params f) (t:=s.toks+1) xv z5;have D':(s.heap.update p.2 (Obj.putName f (PyData.keyHash w.params f) (.str f (s.toks+1)) cv)).get? p.2=some (dictOf (putL f (PyData.keyHash w.params f) (.str f (s.toks+1)) cv es) (PySem.W.putN f es n)):=by
     refine wr (upd.symm) ?_;exact Heap.get?_update_self _ z4 (by refine wr upd ?_;rfl)
    have D1:(s.heap.update p.2 (Obj.putName f (PyData.keyHash w.params f) (.str f (s.toks+1)) cv)).get? p.1=some (instObj C p.2):=(Heap.get?_update_ne _ _ _ _ z2).trans z3;have K2:∀a o,a≠p.1->a≠p.2->s.heap.get? a=some o->(s.heap.update p.2 (Obj.putName f (PyData.keyHash w.params f) (.str f (s.toks+1)) cv)).get? a=some o:=λa o u_ hn e=>(Heap.get?_update_ne _ _ _ _ hn).trans e;refine wpAny_bind (wpAny_pure (wpAny_bind (wpAny_bind (wpAny_loadPart (s:={s with toks:=s.toks+1}) z3 (wpAny_bind (Looks.here (s:={s with toks:=s.toks+1}) (looks_clsIn XK hc) ?_))))));refine wr hd'<|wpAny_pure (a:=some p.2) (wpAny_bind (wpAny_pure (wpAny_bind ?_)))
    unfold nsSet;refine wpAny_bind (wpAny_bind (wpAny_askSetting (wpAny_pure (wpAny_bind (wpAny_mkText (wpAny_bind (wpAny_loadPart z4 ?_)))))));have hz:(putL f (PyData.keyHash w.params f) (.str f (s.toks+1)) cv es).length<=1000:=by
     refine wr ((ES fs').symm) ?_;have:(dM fs f v).length<=100:=Nat.le_of_ble_eq_true hfit;exact Nat.le_add_left_of_le (by assumption)
    dsimp only;have c0:(!es.toArray.any (·.key.isStr f)&&es.toArray.any (·.refKey))=false:=by
     exact wr List.any_toArray (wr List.any_toArray (wr (pO z5) (wr (Bool.and_false _) rfl)))
    refine wr (aRefKeyMayBeTheName_at _ _) (wr c0 ?_);refine wpAny_updatePart z4 ?_;refine wpAny_bind (wpAny_lookBehind D' (pastItsLine_dict (by refine wr List.size_toArray (wr sizeLine_eq ?_);exact Nat.le_trans (by assumption) (by decide))) ?_);refine wpAny_pure<|⟨Φ,r.put hp K2 hfit ⟨C,_,_,z1,z2,D1,D',fs'⟩ ⟨_,D1⟩ ⟨_,D'⟩,.put hp K2 ⟨_,D1⟩ ⟨_,D'⟩ rfl rfl rfl⟩
  |_=>exact ag H e
end
end Mi
namespace Mi
open PySem PySem.W PyProof.Rows PySem.SeqAt
section
variable {prog:Program}{w:World}{A:Around}{b:Bs}{X:Addr->Prop}{Φ:Fi}{s:Shared}{H H':AH}
theorem EC {x i v:V}{cx ci:Value}(r:RH b s.heap Φ H) (xa:VR b Φ x cx) (xb:VR b Φ i ci) (e:gn x i H=some (v,H')):
  ∃T id,s.TypeIs cx T/\typeLookup (.type T) "__getitem__"=pure (some (.builtin id))/\wpAny (model prog w) A (getItem cx ci) (Gt b X Φ s v H') no s:=by
 induction x<;>induction i<;>try exact ag H e
 case ref.int n i=>
  refine aG e λo h1 e=>RH.sD r xa h1 λp hp hfit z=>?_;refine xE xb λt z2=>?_;subst z2
  by_cases hi:i<0
  .rw[if_pos hi] at e;exact ag H e
  rw[if_neg hi] at e;have h0:0<=i:=Int.not_lt.mp (by assumption)
  induction o with
  |list l=>
   refine cF z λvs m g w1=>?_;dsimp only at e
   rcases q:l[i.toNat]? with _|u
   .rw[q] at e;exact ag H e
   .rw[q] at e;refine aw e<|bW (w1.get q) λc hc rc=>?_
    have il:s.heap.IsList p.1 vs.toArray:=⟨_,g,rfl,m,rfl⟩;have hlt:i.toNat<l.length:=(List.getElem?_eq_some_iff.mp q).1;have hl:l.length<=1000:=Nat.le_of_ble_eq_true hfit;exact⟨"list",_,il.typeIs,slot_list_getitem.lookup,wpAny_getItem_list il h0 (by lia) (by simpa using hc) (.now r rc)⟩
  |tup l=>
   refine cF z λvs m g w1=>?_;dsimp only at e
   rcases q:l[i.toNat]? with _|u
   .rw[q] at e;exact ag H e
   .rw[q] at e;refine aw e<|bW (w1.get q) λc hc rc=>?_
    have it:IsTup s.heap p.1 vs.toArray:=⟨_,g,rfl,m,rfl⟩;have hlt:i.toNat<l.length:=(List.getElem?_eq_some_iff.mp q).1;have hl:l.length<=1000:=Nat.le_of_ble_eq_true hfit;have hv:vs.length=l.length:=w1.len.symm;refine⟨"tuple",_,it.typeIs,slot_tuple_getitem.lookup,getItem_tuple (j:=i.toNat) it (by lia) (by lia) ?_ (by simpa using hc) (.now r rc)⟩;refine wr List.size_toArray (wr hv ?_);unfold seqIndex?;simp only[show¬i<0 from hi,if_false];rw[if_pos];simp only[Bool.and_eq_true,decide_eq_true_eq];exact⟨Int.not_lt.mp (by assumption),(Int.toNat_lt (Int.not_lt.mp (by assumption))).mp (by assumption)⟩
  |_=>exact ag H e
theorem wO {i:Int}{n:Nat}(h:0<=i):max 0 (min i (n:Int))=((min i.toNat n:Nat):Int):=by
 obtain⟨k,rfl⟩:=Int.eq_ofNat_of_zero_le h;refine wr (Int.toNat_natCast _) ?_
 rcases Nat.le_total k n with q|q
 .refine wr (Nat.min_eq_left q) (wr (Int.min_eq_left (Int.ofNat_le.mpr q)) ?_);exact Int.max_eq_right (Int.natCast_nonneg k)
 .refine wr (Nat.min_eq_right q) (wr (Int.min_eq_right (Int.ofNat_le.mpr q)) ?_);exact Int.max_eq_right (Int.natCast_nonneg n)
theorem uM {lo hi:Option Int}{n a c:Nat}(h:bounds lo hi n=some (a,c)):sliceBounds lo hi none n=((a:Int),(c:Int),1)/\a<=n/\c<=n:=by
 unfold bounds at h
 split at h
 .rename_i h0;obtain⟨rfl,rfl⟩:=Prod.mk.inj (Option.some.inj h);refine⟨?_,Nat.min_le_right _ _,Nat.min_le_right _ _⟩
  induction lo<;>induction hi<;>simp only[Option.getD_none,Option.getD_some,Option.map_none,Option.map_some] at h0⊢<;>
   simp only[sliceBounds,Option.getD_none,show(1:Int)>0 by decide,if_true]
  .simp
  .exact wr (if_neg (Int.not_lt.mpr h0.2)) (wr (wO h0.2) (wr (show((min (Int.toNat 0) n:Nat):Int)=0 from congrArg _ (Nat.zero_min n)) rfl))
  .exact wr (if_neg (Int.not_lt.mpr h0.1)) (wr (wO h0.1) (wr (Nat.min_self _) rfl))
  .exact wr (if_neg (Int.not_lt.mpr h0.1)) (wr (if_neg (Int.not_lt.mpr h0.2)) (wr (wO h0.1) (wr (wO h0.2) rfl)))
 .exact ns h
theorem dF.cut {l:List V}{m:List Value}(a c:Nat) (x:dF b Φ l m):dF b Φ (cut l a c) ((m.drop a).take (c-a)):=by
 refine wr (List.drop_take.symm)<|(x.take c).drop a
theorem EE:∀{vs:List Value} {ns:List Int},IntsAre vs ns->dF b Φ (ns.map V.int) vs:=by
 intro vs ns h
 induction h with
 |nil=>trivial
 |cons _ _ _ ih=>exact⟨⟨_,rfl⟩,ih⟩
noncomputable abbrev xD (vl vu:Value):Obj:={cls:=.type "slice",data:=.fields #[vl,vu,.none]}
noncomputable abbrev sW (s:Shared) (vl vu:Value):Shared:={s with heap:=s.heap.push (xD vl vu)}
theorem RH.gW {s:Shared}{o:Obj}(r:RH b s.heap Φ H):RH b (s.heap.push o) Φ H:=r.grow λu_ u_ e=>Heap.get?_push_of_some _ e
theorem Gt.gW {s:Shared}{o:Obj}{v:V}{c:Value}{s':Shared}(x:Gt b X Φ {s with heap:=s.heap.push o} v H' c s'):Gt b X Φ s v H' c s':=by
 refine be x λΦ' x1 x2 x3=>⟨Φ',x1,x2,(dw.trans (s₁:={s with heap:=s.heap.push o}) (.grow (λu_ u_ e=>Heap.get?_push_of_some _ e) rfl rfl rfl) x3 x2)⟩
theorem sE.gW {s:Shared}{o:Obj}{u:Unit}{s':Shared}(x:sE b X Φ {s with heap:=s.heap.push o} H' u s'):sE b X Φ s H' u s':=by
 refine bW x λΦ' x2 x3=>⟨Φ',x2,(dw.trans (s₁:={s with heap:=s.heap.push o}) (.grow (λu_ u_ e=>Heap.get?_push_of_some _ e) rfl rfl rfl) x3 x2)⟩
noncomputable def ki (o:V) (H:AH):String:=match o with
 |.ref n=>match H.at_ n with|some (.tup _)=>"tuple"|_=>"list"
 |_=>"list"
theorem Cd {x v:V}{lo hi:Option Int}{cx vl vu:Value}(r:RH b s.heap Φ H) (xa:VR b Φ x cx) (pl:IsPart vl lo) (pu:IsPart vu hi) (e:bH x lo hi H=some (v,H')):
  (sW s vl vu).TypeIs cx (ki x H)/\wpAny (model prog w) A (getItem cx (.ref s.heap.objs.size)) (Gt b X Φ s v H') no (sW s vl vu):=by
 induction x<;>try exact ag H e
 case ext ns=>
  induction lo with
  |some _=>exact ag H e
  |none=>
   induction hi with
   |none=>exact ag H e
   |some k=>
    have e:(if 0<=k then ba (.list ((ns.take k.toNat).map V.int)) else(ak:AM V)) H=some (v,H'):=e
    split at e
    .rename_i hk;refine dR e λf=>?_;refine pY xa λa its z9 hl hi hz=>?_;subst z9;have hl':(sW s vl vu).heap.IsList a its:=by
      refine bW hl λo ho hr=>⟨o,Heap.get?_push_of_some _ (r.base _ _ ho),hr⟩
     refine⟨hl'.typeIs,wpAny_getItem_list_slice hl' (Heap.IsSliceOf.new ..) pl pu .none (by simp) (Gt.gW (o:=xD vl vu) ?_) hz⟩;have hu:=kmk_upto (vs:=its.toList) (ns:=ns) hi hk;rw[Array.toArray_toList] at hu;refine RH.push (s:=sW s vl vu) r.gW (o:=.list ((ns.take k.toNat).map V.int)) f ⟨(slicePick its none (some k) none).toList,0,?_,(EE hu).mono (bT _ _)⟩;exact wr (Heap.get?_push_size _ rfl) (wr Array.toArray_toList rfl)
    .exact ag H e
 case ref n=>
  refine aG e λo h1 e=>RH.sD r xa h1 λp hp hfit z=>?_
  induction o with
  |list l=>
   refine cF z λvs m g w1=>?_;have hv:vs.length=l.length:=w1.len.symm;have hl:l.length<=1000:=Nat.le_of_ble_eq_true hfit;have il:(sW s vl vu).heap.IsList p.1 vs.toArray:=⟨_,Heap.get?_push_of_some _ g,rfl,m,rfl⟩;have ht:ki (.ref n) H="list":=by simp only[ki,h1]
   refine wr ht<|⟨il.typeIs,?_⟩
   dsimp only at e
   rcases q:bounds lo hi l.length with _|ac
   .rw[q] at e;exact ag H e
   .obtain⟨a,c⟩:=ac;rw[q] at e;refine dR e λf=>mE (uM q) λhb u_ u_=>?_;refine wpAny_getItem_list_slice il (Heap.IsSliceOf.new ..) pl pu .none (by simp) (Gt.gW (o:=xD vl vu) ?_) (by refine wr List.size_toArray (wr sizeLine_eq ?_);exact Nat.le_trans (Nat.le_of_eq (by assumption)) (Nat.le_trans (by assumption) (by decide)));have hpk:slicePick vs.toArray lo hi none=((vs.drop a).take (c-a)).toArray:=kmk_pick_nat _ (by refine wr List.size_toArray (wr hv ?_);exact hb);refine wr hpk<|RH.push (s:=sW s vl vu) r.gW (o:=.list (Mi.cut l a c)) f ⟨(vs.drop a).take (c-a),0,Heap.get?_push_size _ rfl,(w1.cut a c).mono (bT _ _)⟩
  |tup l=>
   refine cF z λvs m g w1=>?_;have hv:vs.length=l.length:=w1.len.symm;have hl:l.length<=1000:=Nat.le_of_ble_eq_true hfit
   induction lo with
   |none=>exact ag H e
   |some k=>
    induction hi with
    |some _=>exact ag H e
    |none=>
     have e:(if 0<k/\k.toNat<=l.length then ba (.tup (l.drop k.toNat)) else(ak:AM V)) H=some (v,H'):=e
     split at e
     .rename_i hk;refine dR e λf=>?_;have it:IsTup (sW s vl vu).heap p.1 vs.toArray:=⟨_,Heap.get?_push_of_some _ g,rfl,m,rfl⟩;have ht:ki (.ref n) H="tuple":=by simp only[ki,h1]
      refine wr ht ?_
      cases pl with
      |int _ t=>
       cases pu
       have hk':Value.int k t=.int ((k.toNat:Nat):Int) t:=wr (Int.toNat_of_nonneg (by lia)) rfl;refine⟨it.typeIs,?_⟩;refine getItem_tuple_from (a:=k.toNat) (u:=t) it (by refine wr (hk'.symm) ?_;exact Heap.IsSliceOf.new ..) (by lia) (by refine wr List.size_toArray (wr hv ?_);exact hk.2) (Gt.gW (o:=xD (.int k t) .none) ?_) (by refine wr List.size_toArray (wr sizeLine_eq ?_);exact Nat.le_trans (Nat.le_of_eq (by assumption)) (Nat.le_trans (by assumption) (by decide)));exact RH.push (s:=sW s (.int k t) .none) r.gW (o:=.tup (l.drop k.toNat)) f ⟨vs.drop k.toNat,0,Heap.get?_push_size _ rfl,(w1.drop _).mono (bT _ _)⟩
     .exact ag H e
  |_=>exact ag H e
end
end Mi
namespace Mi
open PySem PySem.W PyProof.Rows PySem.SeqAt
section
variable {prog:Program}{w:World}{A:Around}{b:Bs}{X:Addr->Prop}{Φ:Fi}{s:Shared}{H H':AH}
theorem FK {α:Type}{c:Prop} [Decidable c] {m:AM α}{r:α×AH}(h:(if c then m else ak) H=some r):c/\m H=some r:=by
 split at h
 .exact⟨by assumption,h⟩
 .exact ag H h
theorem RH.chg {n:Nat}{p:Addr×Addr}{o:O}{h':Heap}(r:RH b s.heap Φ H) (hp:Φ[n]? =some p) (f:fits o=true) (x:OR b h' Φ p o) (sb:Heap.SameBut p.1 s.heap h') (l1:∃o,h'.get? p.1=some o)
  {tk:Nat} {u:Unit}:sE b X Φ s (H.put n o) u {s with heap:=h',toks:=tk}:=by
 have K2:∀a o,a≠p.1->a≠p.2->s.heap.get? a=some o->h'.get? a=some o:=λa o hn u_ e=>(sb.2 a hn).trans e;refine Md (r.live n p hp) λu_ o2 h2=>?_;have l2:∃o,h'.get? p.2=some o:=by
  by_cases q:p.2=p.1
  .refine wr q ?_;exact l1
  .exact⟨o2,(sb.2 _ q).trans h2⟩
 exact⟨Φ,r.put hp K2 f x l1 l2,.put hp K2 l1 l2 rfl rfl rfl⟩
theorem yS:∀{es:List (Int×V)} {ds:List DictEntry},DA b Φ es ds->Pairs (intKind prog w) ds ((es.map (·.1)).zip (ds.map (·.val)))
 |[],[],_=>.nil
 |p::es,d::ds,⟨⟨t,h1⟩,h2,h3,h4⟩=>.cons (by show Value.isInt p.1 d.key=true;refine wr h1 ?_;simp[Value.isInt]) rfl (yS h4)
 |[],_::_,h=>h.elim
 |_::_,[],h=>h.elim
theorem BC:∀{es:List (Int×V)} {ds:List DictEntry},DA b Φ es ds->((es.map (·.1)).zip (ds.map (·.val))).map (·.1)=es.map (·.1)
 |[],[],_=>rfl
 |p::es,d::ds,⟨_,_,_,h4⟩=>by
  have:=BC h4;simp only[List.map_cons,List.zip_cons_cons,List.cons.injEq,true_and];exact this
 |[],_::_,h=>h.elim
 |_::_,[],h=>h.elim
theorem KH:∀{es:List (Int×V)} {ds ds':List DictEntry} {i:Int} {v:V} {c:Value},DA b Φ es ds->VR b Φ v c->Pairs (intKind prog w) ds' ((es.map (·.1)).zip (ds.map (·.val))++[(i,c)])->
  (∀e∈ds',∃k,(intKind prog w).is k e.key=true/\e.hash=(intKind prog w).hash k)->DA b Φ (es++[(i,v)]) ds':=by
 intro es
 induction es with
 |nil=>
  intro ds ds' i v c x hv hp hk
  rcases ds with _|⟨d,ds⟩
  case cons=>exact x.elim
  cases hp with
  |cons h1 h2 h3=>
   cases h3
   refine bW (hk _ (.head _)) λk k1 k2=>?_;have:=Value.isInt_inj _ _ _ k1 h1;subst this;refine xE (Value.isInt_shape h1) λt ht=>⟨⟨t,ht⟩,k2,h2▸hv,trivial⟩
 |cons p es ih=>
  intro ds ds' i v c x hv hp hk
  rcases ds with _|⟨d,ds⟩
  case nil=>exact x.elim
  refine JX x λu_ u_ h3 h4=>?_
  cases hp with
  |cons g1 g2 g3=>
   refine bW (hk _ (.head _)) λk k1 k2=>?_;have:=Value.isInt_inj _ _ _ k1 g1;subst this;refine xE (Value.isInt_shape g1) λt ht=>⟨⟨t,ht⟩,k2,g2▸h3,ih h4 hv g3 λe he=>hk e (.tail _ he)⟩
theorem EZ {o:Obj}{es:Array DictEntry}{n:Nat}(h:o.ExactDict) (e:o.data=.dict es n):o=dictOf es.toList n:=by
 obtain⟨c,d,dt,sl⟩:=o;refine mE h λz1 z2 z3=>?_;subst z1;subst z2;subst z3;dsimp only at e;subst e;simp[dictOf]
theorem kf {i:Int}:∀{es:List (Int×V)},(dictFind i es).isNone=true->i∉es.map (·.1)
 |[],_=>by simp
 |p::es,h=>by
  unfold dictFind at h
  split at h
  .exact nb h
  .rename_i hp;have:=kf h;simp only[List.map_cons,List.mem_cons,not_or];exact⟨λq=>hp q.symm,this⟩
theorem zN {x i v:V}{cx ci cv:Value}{u:Unit}(r:RH b s.heap Φ H) (xa:VR b Φ x cx) (xi:VR b Φ i ci) (xv:VR b Φ v cv) (e:putItem x i v H=some (u,H')):wpAny (model prog w) A (setItem cx ci cv) (sE b X Φ s H') no s:=by
 induction x<;>induction i<;>try exact ag H e
 case ref.int n i=>
  refine aG e λo h1 e=>RH.sD r xa h1 λp hp hfit z=>?_;refine xE xi λt z5=>?_;subst z5
  induction o with
  |list l=>
   refine xA (FK e) λz6 e=>?_;obtain⟨hi,hlt⟩:=z6;refine mf e λf=>cF z λvs m g w1=>?_;have hv:vs.length=l.length:=w1.len.symm;have hl:l.length<=1000:=Nat.le_of_ble_eq_true hfit;have il:s.heap.IsList p.1 vs.toArray:=⟨_,g,rfl,m,rfl⟩;unfold setItem
   try with_reducible refine wpAny_holding ?_
   refine wpAny_bind (wpAny_sequenceKey il.typeIs (by decide) ?_);refine wpAny_bind (wpAny_callSpecial?_slot (name:=Str.ofString "__setitem__") il.typeIs slot_list_setitem
    (wpAny_call_entry slot_list_setitem il.typeIs entry_list_setitem ?_ (args_list_setitem _ _ _)))
   show wpAny _ _ (Builtin.List.listSubscript? (.int i t)>>=_) _ _ s;refine wpAny_bind (wpAny_listSubscript_int (fitsIndex_of hi (by lia)) ?_);refine xE (Int.eq_ofNat_of_zero_le hi) λj z8=>?_;subst z8;have hj:j<vs.toArray.size:=by refine wr List.size_toArray (wr hv ?_);simpa using hlt
   have hx':vs.toArray[j]? =some vs.toArray[j]:=Array.getElem?_eq_getElem hj;show wpAny _ _ ((seqItemAt p.1 j>>=λr=>pure (r.map (j,·)))>>=_) _ _ s;refine wpAny_bind (wpAny_bind (wpAny_seqItemAt g rfl (wpAny_pure ?_)));refine wr hx' ?_;show wpAny _ _ (setSeqItemAt p.1 j cv>>=_) _ _ s;have upd:(listOf vs.toArray m).mapSeq (·.setIfInBounds j cv)=listOf (vs.set j cv).toArray (if(vs.set j cv).toArray.size=vs.toArray.size then m else m+1):=by
    simp[Obj.mapSeq]
   have hg:(s.heap.update p.1 (Obj.mapSeq (·.setIfInBounds j cv))).get? p.1=some (listOf (vs.set j cv).toArray (if(vs.set j cv).toArray.size=vs.toArray.size then m else m+1)):=by
    refine wr (upd.symm) ?_;exact Heap.get?_update_self _ g (by refine wr upd ?_;rfl)
   have fin:sE b X Φ s (H.put n (.list (l.set j v))) () {s with heap:=s.heap.update p.1 (Obj.mapSeq (·.setIfInBounds j cv))}:=
    RH.chg (tk:=s.toks) r hp f ⟨vs.set j cv,_,hg,w1.set j xv⟩ (Heap.SameBut.update ..) ⟨_,hg⟩
   refine wpAny_bind (wpAny_setSeqItemAt g rfl ?_)
   first
    |exact wpAny_bind (wpAny_pure (wpAny_pure ⟨.none,rfl,wpAny_pure fin⟩))
    |exact wpAny_pure ⟨.none,rfl,wpAny_pure fin⟩
  |dict es=>
   refine xA (FK e) λz9 e=>?_;obtain⟨hn,hnd⟩:=z9;refine mf e λf=>cF z λds m g w1=>?_;have hk:=BC w1;have hes:es.length<=1000:=Nat.le_of_ble_eq_true hfit;have hD:s.heap.DictOf (intKind prog w) p.1 ((es.map (·.1)).zip (ds.map (·.val))):=by
    refine⟨_,ds.toArray,m,g,⟨rfl,rfl,rfl⟩,rfl,λe he=>?_,yS w1,(by refine wr hk ?_;exact hnd)⟩;obtain⟨k,t,k1,k2⟩:=(gP (i:=0) w1).1 e (by simpa using he);exact⟨k,by show Value.isInt k e.key=true;refine wr k1 ?_;simp[Value.isInt],k2⟩
   have hst:stored ((es.map (·.1)).zip (ds.map (·.val))) i cv=(es.map (·.1)).zip (ds.map (·.val))++[(i,cv)]:=by
    unfold stored;rw[if_neg];intro q;refine bW (List.any_eq_true.mp q) λkv hkv hq=>kf hn<|wr (hk.symm)<|List.mem_map.mpr ⟨kv,hkv,by simpa using hq⟩
   refine wpAny_setItem_pairs (intKind_is prog w i t) hD (λh' hd sb=>?_) (by refine wr List.length_zip (wr (List.length_map _) ?_);refine wr sizeLine_eq ?_;lia);rw[hst] at hd;refine BZ hd λo es' ep g' hex hdat hkey hpairs u_=>?_;have ho:=EZ hex hdat;subst ho;exact RH.chg r hp f ⟨es'.toList,ep,g',KH w1 xv hpairs λe he=>hkey e (by simpa using he)⟩ sb ⟨_,g'⟩
  |_=>exact ag H e
theorem xU {x v:V}{lo hi:Option Int}{cx vl vu cv:Value}{u:Unit}(r:RH b s.heap Φ H) (xa:VR b Φ x cx) (xv:VR b Φ v cv) (pl:IsPart vl lo) (pu:IsPart vu hi) (e:cM x lo hi v H=some (u,H')):
  wpAny (model prog w) A (setItem cx (.ref s.heap.objs.size) cv) (sE b X Φ s H') no (sW s vl vu):=by
 induction x<;>induction v<;>try exact ag H e
 case ref.ref n k=>
  refine aG e λo h1 e=>aG e λo' h2 e=>RH.sD r xa h1 λp hp hfit z=>RH.sD r xv h2 λq hq hfit' z'=>?_
  induction o with
  |list l=>
   induction o' with
   |list l'=>
    dsimp only at e
    rcases hb:bounds lo hi l.length with _|ac
    .rw[hb] at e;exact ag H e
    .obtain⟨a,c⟩:=ac;rw[hb] at e;refine xA (FK e) λz13 e=>?_;obtain⟨hac,hnk⟩:=z13;refine mf e λf=>cF z λvs m g w1=>cF z' λus m' g' w2=>?_;have hv:vs.length=l.length:=w1.len.symm;have hl:l.length<=1000:=Nat.le_of_ble_eq_true hfit;have hu:us.length=l'.length:=w2.len.symm;have hl':l'.length<=1000:=Nat.le_of_ble_eq_true hfit';refine mE (uM hb) λhb1 hb2 hb3=>?_;have hne:p.1≠q.1:=(r.apart n k p q (by rintro rfl;exact hnk (Nat.beq_refl _)) hp hq).1;have G1:(sW s vl vu).heap.get? p.1=some (listOf vs.toArray m):=Heap.get?_push_of_some _ g;have G2:(sW s vl vu).heap.get? q.1=some (listOf us.toArray m'):=Heap.get?_push_of_some _ g';have hsl:(sW s vl vu).heap.IsSliceOf s.heap.objs.size vl vu .none:=Heap.IsSliceOf.new ..;refine be (id hsl) λos hos hcs hds=>?_;have hTs:(sW s vl vu).TypeIs (.ref s.heap.objs.size) "slice":=⟨os,hos,hcs⟩;have T1:(sW s vl vu).TypeIs (.ref p.1) "list":=⟨_,G1,rfl⟩;have T2:(sW s vl vu).TypeIs (.ref q.1) "list":=⟨_,G2,rfl⟩;unfold setItem
     try with_reducible refine wpAny_holding ?_
     refine wpAny_bind (wpAny_sequenceKey T1 (by decide) ?_);refine wpAny_bind (wpAny_callSpecial?_slot (name:=Str.ofString "__setitem__") T1 slot_list_setitem
      (wpAny_call_entry slot_list_setitem T1 entry_list_setitem ?_ (args_list_setitem _ _ _)))
     show wpAny _ _ (Builtin.List.listSubscript? (.ref s.heap.objs.size)>>=_) _ _ (sW s vl vu);refine wpAny_bind ?_;unfold Builtin.List.listSubscript?;refine wpAny_bind (wpAny_specialOf hTs slice_no_index ?_);simp only[Option.isNone_none,if_true];refine wpAny_pure ?_;show wpAny _ _ (typeOf (.ref s.heap.objs.size)>>=_) _ _ (sW s vl vu);refine wpAny_bind (wpAny_typeOf hTs ?_);refine wr (if_neg (by decide))<|wpAny_bind (m:=Builtin.List.listSliceParts (.ref s.heap.objs.size))<|wr (listSliceParts_eq _)<|wpAny_bind (wpAny_field hos hds (x:=.none) rfl (wpAny_bind (wpAny_listPart .none ?_)))
     refine wr (if_neg (show¬((rawPart none==rawInt 0)=true) from Bool.false_ne_true))<|wpAny_bind (wpAny_field hos hds (x:=vl) rfl (wpAny_bind (wpAny_listPart pl ?_)))
     refine wpAny_bind (wpAny_field hos hds (x:=vu) rfl (wpAny_bind (wpAny_listPart pu (wpAny_pure ?_))));refine wr (show Builtin.List.listSameRef (.ref p.1) (.ref q.1)=false from beq_eq_false_iff_ne.mpr hne) ?_;simp only[Bool.false_eq_true,if_false];refine wpAny_bind (m:=Builtin.List.listAllItems (.ref q.1) _) ?_;unfold Builtin.List.listAllItems;refine wpAny_bind (wpAny_typeOf T2 ?_);refine wr (if_pos (by decide))<|wpAny_listItems G2 rfl<|wpAny_bind (wpAny_listItems G1 rfl ?_)
     refine wpAny_bind (wpAny_of_eq (sliceIndices_raw lo hi none vs.toArray.size (by simp)) ?_);refine wr List.size_toArray (wr hv (wr hb1 ?_));dsimp only;refine wr (if_pos (by decide))<|wpAny_bind (wpAny_rule ?_)
     have hlen:(l.take a++l'++l.drop c).length<=1000:=Nat.le_of_ble_eq_true f;refine wr (if_neg (by simp[Builtin.List.listTooLong,sizeLine,hv,hu];lia)) ?_;have e1:(max (a:Int) (c:Int)).toNat=c:=Mg (by assumption);have e2:((a:Int)).toNat=a:=rfl;refine wr e1 (wr e2 ?_);have fx:(vs.toArray.extract 0 a++us.toArray++vs.toArray.extract c)=(vs.take a++us++vs.drop c).toArray:=by
      apply Array.ext'
      simp[List.extract];exact List.take_of_length_le (by refine wr List.length_drop ?_;exact Nat.le_refl _)
     obtain⟨m2,upd⟩:∃m2,(listOf vs.toArray m).mapSeq (λxs=>xs.extract 0 a++us.toArray++xs.extract c)=listOf (vs.take a++us++vs.drop c).toArray m2:=
      ⟨_,by unfold Obj.mapSeq;exact wr (fx.symm) rfl⟩
     have hg:((sW s vl vu).heap.update p.1 (Obj.mapSeq (λxs=>xs.extract 0 a++us.toArray++xs.extract c))).get? p.1=some (listOf (vs.take a++us++vs.drop c).toArray m2):=by
      refine wr (upd.symm) ?_;exact Heap.get?_update_self _ G1 (by refine wr upd ?_;rfl)
     have w3:dF b Φ (l.take a++l'++l.drop c) (vs.take a++us++vs.drop c):=((w1.take a).app w2).app (w1.drop c);have fin:sE b X Φ s (H.put n (.list (l.take a++l'++l.drop c))) () {(sW s vl vu) with heap:=(sW s vl vu).heap.update p.1 (Obj.mapSeq (λxs=>xs.extract 0 a++us.toArray++xs.extract c))}:=
      sE.gW (o:=xD vl vu) (RH.chg (s:=sW s vl vu) (tk:=s.toks) r.gW hp f ⟨_,_,hg,w3⟩ (Heap.SameBut.update ..) ⟨_,hg⟩)
     refine wpAny_bind (m:=updateSeq p.1 _) (wpAny_updateSeq G1 rfl ?_ (by refine wr List.size_toArray (wr sizeLine_eq ?_);exact Nat.le_trans (Nat.le_of_eq (by assumption)) (Nat.le_trans (by assumption) (by decide))) (by
      refine wr fx (wr List.size_toArray (wr (w3.len.symm) (wr sizeLine_eq ?_)));exact Nat.le_trans (by assumption) (by decide)))
     refine wpAny_bind (wpAny_letGo ?_);exact wpAny_pure ⟨.none,rfl,wpAny_pure fin⟩
   |_=>exact ag H e
  |_=>induction o'<;>exact ag H e
end
end Mi
namespace Mi
open PySem PySem.W PyProof.Rows PySem.SeqAt
section
variable {prog:Program}{w:World}{A:Around}{b:Bs}{X:Addr->Prop}{Φ:Fi}{s:Shared}{H H':AH}
theorem RH.make {o:O}{ob:Obj}{a:Addr}{h':Heap}{tk:Nat}(r:RH b s.heap Φ H) (k:∀a o,s.heap.get? a=some o->h'.get? a=some o) (n:s.heap.get? a=none) (g:h'.get? a=some ob) (f:fits o=true)
  (x:OR b h' (Φ++[(a,a)]) (a,a) o):Gt b X Φ s (.ref H.nx) (H.add o) (.ref a) {s with heap:=h',toks:=tk}:=by
 refine⟨Φ++[(a,a)],⟨(a,a),?_,rfl⟩,r.add k n n f x ⟨_,g⟩ ⟨_,g⟩,dw.add k n n rfl rfl rfl⟩;refine wr (r.len.symm) ?_;exact nz _ _
theorem RH.keep {v:V}{c:Value}{h':Heap}{tk:Nat}(r:RH b s.heap Φ H) (k:∀a o,s.heap.get? a=some o->h'.get? a=some o) (x:VR b Φ v c):Gt b X Φ s v H c {s with heap:=h',toks:=tk}:=
 ⟨Φ,x,r.grow k,.grow k rfl rfl rfl⟩
theorem jr {v:V}{p:Nat×List V}(h:fJ v H=some (p,H')):v=.ref p.1/\H.at_ p.1=some (.list p.2)/\H'=H:=by
 induction v<;>try exact ag H h
 refine aG h λo h1 e=>?_
 induction o<;>try exact ag H e
 refine aw e<|⟨rfl,h1,rfl⟩
theorem dF.qU {v:V}{cs:List Value}(x:dF b Φ [v] cs):∃c,cs=[c]/\VR b Φ v c:=by
 rcases cs with _|⟨c,cs⟩
 .exact x.elim
 .rcases cs with _|_
  .exact⟨c,rfl,x.1⟩
  .exact x.2.elim
theorem dF.DF {v v':V}{cs:List Value}(x:dF b Φ [v,v'] cs):∃c c',cs=[c,c']/\VR b Φ v c/\VR b Φ v' c':=by
 rcases cs with _|⟨c,cs⟩
 .exact x.elim
 .refine bW (dF.qU x.2) λc' z3 h=>?_;subst z3;exact⟨c,c',rfl,x.1,h⟩
theorem dF.Iu {cs:List Value}(x:dF b Φ [] cs):cs=[]:=by induction cs with|nil=>rfl|cons _ _=>exact x.elim
theorem B7:∀{l:List V} {vs:List Value} {k:Int},sumInts l=some k->dF b Φ l vs->∃ys:List (Int×Tok),vs=ys.map (λp=>Value.int p.1 p.2)/\(∀p∈ys,p.1.natAbs<=1000000)/\k=(ys.map (·.1)).sum:=by
 intro l
 induction l with
 |nil=>
  intro vs k e x
  rcases vs with _|⟨c,vs⟩
  .exact⟨[],rfl,λp hp=>nm hp,(Option.some.inj e).symm⟩
  .exact x.elim
 |cons v l ih=>
  intro vs k e x
  rcases vs with _|⟨c,vs⟩
  .exact x.elim
  induction v<;>try(cases e;done)
  rename_i i;unfold sumInts at e
  split at e
  .rename_i hi;refine bW (Option.map_eq_some_iff.mp e) λk' hk' z4=>?_;subst z4;refine xA x λz5 x2=>?_;obtain⟨t,rfl⟩:=z5;refine be (ih hk' x2) λys z6 h1 z7=>?_;subst z6;subst z7;refine⟨(i,t)::ys,rfl,λp hp=>?_,rfl⟩
   cases hp with
   |head=>exact hi
   |tail _ hp=>exact h1 p hp
  .exact ns e
theorem zO (ys:List (Int×Tok)):preSum (numAt ys.toArray) ys.length=(ys.map (·.1)).sum:=by
 have key:∀(ys:List (Int×Tok)) (f:Nat->Int),(∀j,f j=(ys[j]?.map (·.1)).getD 0)->preSum f ys.length=(ys.map (·.1)).sum:=by
  intro ys
  induction ys with
  |nil=>intro f _;rfl
  |cons y ys ih=>
   intro f hf;refine wr List.length_cons (wr (kdu_shift _ _) (wr List.map_cons (wr List.sum_cons (wr (ih _ (λj=>by rw[hf];rfl)) (wr (hf 0) ?_)))));rfl
 exact key ys _ λj=>by simp[numAt]
theorem vD {f:Nat->Int}(h:∀j,(f j).natAbs<=1000000) (n:Nat):(preSum f n).natAbs<=n*1000000:=by
 induction n with
 |zero=>exact Nat.le_refl 0
 |succ n ih=>refine wr (Nat.succ_mul _ _) ?_;exact Nat.le_trans (Int.natAbs_add_le _ _) (Nat.add_le_add ih (h n))
theorem uy {i:Int}{n:Nat}(h:i.natAbs<=n) (hn:n<=1001000000):InLong i:=by
 have h1:i<=n:=Int.le_trans Int.le_natAbs (Int.ofNat_le.mpr h);have h2: -i<=n:=Int.le_trans (Int.natAbs_neg i▸Int.le_natAbs) (Int.ofNat_le.mpr h);unfold InLong;lia
theorem Gg {acc:Array Value}{n:Nat}(h:ItemsOf (λi v=>∃t,v=Value.int (0+(i:Int)*1) t) acc n):dF b Φ ((List.range n).map λi=>V.int (Int.ofNat i)) acc.toList:=by
 have key:∀(l:List Value) (k:Nat),(∀j v,l[j]? =some v->∃t,v=Value.int (Int.ofNat (k+j)) t)->dF b Φ ((List.range' k l.length).map λi=>V.int (Int.ofNat i)) l:=by
  intro l
  induction l with
  |nil=>intro k _;trivial
  |cons v l ih=>
   intro k hl;refine⟨?_,?_⟩
   .refine xE (hl 0 v rfl) λt ht=>⟨t,ht⟩
   .exact ih (k+1) λj v' hj=>by
     refine xE (hl (j+1) v' hj) λt ht=>?_;exact⟨t,by refine wr ht ?_;congr 2;lia⟩
 have:=key acc.toList 0 λj v hj=>by
  refine xE (h.2 j v (by refine wr ((Array.getElem?_toList).symm) ?_;exact hj)) λt ht=>?_;exact⟨t,by refine wr ht ?_;congr 1;simp⟩
 rw[Array.length_toList,h.1] at this;refine wr List.range_eq_range'<|this
noncomputable def BP:BK->Value
 |.len=>.builtin "len"
 |.list=>.type "list"
 |.tuple=>.type "tuple"
 |.range=>.type "range"
 |.sum=>.builtin "sum"
 |.sorted=>.builtin "sorted"
 |.abs=>.builtin "abs"
 |.min=>.builtin "min"
 |.max=>.builtin "max"
theorem RH.Gb (r:RH b s.heap Φ H) (B:fy b) {n:Nat}{p:Addr×Addr}(hp:Φ[n]? =some p):(p.1==sysModules)=false:=by
 refine xE B.Gb λo ho=>beq_eq_false_iff_ne.mpr λq=>?_;have:=(r.fresh n p hp).1;rw[q,ho] at this;exact sn this
def KW (k:BK) (args:List V):Prop:=match k with
  |.len=>∃a,args=[a]|.list=>∃a,args=[a]|.tuple=>∃a,args=[a]|.sum=>∃a,args=[a]|.range=>∃i,args=[.int i]|.abs=>∃i,args=[.int i]|.sorted=>∃n,args=[.ref n]|.min=>∃i j,args=[.int i,.int j]|.max=>∃i j,args=[.int i,.int j]
theorem dp {k:BK}{args:List V}{q:V×AH}(e:cE k args H=some q):KW k args:=by
 obtain _|⟨a,_|⟨c,_|⟨d,l⟩⟩⟩:=args<;>induction k<;>first|exact ag H e|exact⟨_,rfl⟩|skip
 case cons.nil.range=>induction a<;>first|exact ag H e|exact⟨_,rfl⟩
 case cons.nil.sorted=>induction a<;>first|exact ag H e|exact⟨_,rfl⟩
 case cons.nil.abs=>induction a<;>first|exact ag H e|exact⟨_,rfl⟩
 case cons.nil.min=>induction a<;>exact ag H e
 case cons.nil.max=>induction a<;>exact ag H e
 all_goals(induction a<;>first|exact ag H e|(induction c<;>first|exact ag H e|exact⟨_,_,rfl⟩))
theorem Fx {k:BK}{args:List V}{cs:List Value}{v:V}(B:fy b) (hh:A.handled=none) (r:RH b s.heap Φ H) (xs:dF b Φ args cs) (e:cE k args H=some (v,H')):
  wpAny (model prog w) A (call (BP k) cs) (Gt b X Φ s v H') no s:=by
 induction k with
 |len=>
  refine xE (dp e) λa z8=>?_;subst z8;refine bW xs.qU λc z9 x=>?_;subst z9;refine ai e λq H1 e1 e2=>?_
  clear e
  refine mE (jr e1) λz10 h1 z11=>?_;subst z10;subst z11;have e:=e2
  clear e2
  refine aw e ?_;refine RH.sD r x h1 λp hp hfit z14=>?_;obtain⟨vs,m,g,w1⟩:=z14;have hl:q.2.length<=1000:=Nat.le_of_ble_eq_true hfit;have hv:=w1.len;refine len_list ⟨_,g,rfl,m,rfl⟩ (by refine wr List.size_toArray ?_;lia) ?_;exact .here r ⟨_,by exact wr List.size_toArray (wr hv rfl)⟩
 |list=>
  refine xE (dp e) λvv z16=>?_;subst z16;refine bW xs.qU λc z17 x=>?_;subst z17;refine ai e λl H1 e1 e=>?_
  induction vv<;>try exact ag H e1
  refine aG e1 λo h1 e1=>RH.sD r x h1 λp hp hfit z=>?_
  induction o with
  |list l'=>
   refine xA (bL e1) λz19 z20=>?_;subst z19;subst z20;obtain⟨f,rfl,rfl⟩:=gT e;refine cF z λvs m g w1=>?_;refine call_list_seq p.1 (.inl rfl) g rfl rfl (λh' c' k' g'=>?_) (by refine wr List.size_toArray (wr (w1.len.symm) ?_);exact kq f);exact RH.make (tk:=s.toks) r k' (cW _) g' f ⟨vs,c',g',w1.mono (bT _ _)⟩
  |tup l'=>
   refine xA (bL e1) λz23 z24=>?_;subst z23;subst z24;obtain⟨f,rfl,rfl⟩:=gT e;refine cF z λvs m g w1=>?_;refine call_list_seq p.1 (.inr rfl) g rfl rfl (λh' c' k' g'=>?_) (by refine wr List.size_toArray (wr (w1.len.symm) ?_);exact kq f);exact RH.make (tk:=s.toks) r k' (cW _) g' f ⟨vs,c',g',w1.mono (bT _ _)⟩
  |rng k=>
   refine xA (bL e1) λz27 z28=>?_;subst z27;subst z28;obtain⟨f,rfl,rfl⟩:=gT e;refine zj z λt u v' hr=>?_;have hk:0<=k/\k<=1000:=by
    have:(decide (0<=k)&&decide (k<=1000))=true:=hfit
    simpa using this
   have hs:Builtin.Range.rangeSize 0 k 1=(k.toNat:Int):=by
    unfold Builtin.Range.rangeSize;refine wr (if_pos (by decide)) ?_
    split<;>lia
   have h24:k.toNat<=2^24:=by
    have:(2:Nat)^24=16777216:=by decide
    lia
   refine call_list_range hh hr ?_ hs h24 λh' tk acc' c' k' g' hi=>?_
   .have h1:=hk.1;have h2:=hk.2;simp[Builtin.Range.small,hs,Builtin.Range.rangeFitsLong];exact⟨⟨⟨by lia,by lia⟩,by lia,by lia⟩,.inr ⟨by lia,by lia⟩⟩
   .refine RH.make r k' (cW _) g' f ⟨acc'.toList,c',?_,(Gg hi)⟩;exact wr g' (wr Array.toArray_toList rfl)
  |_=>exact ag H e1
 |tuple=>
  refine xE (dp e) λa z31=>?_;subst z31;refine bW xs.qU λc z32 x=>?_;subst z32;refine ai e λq H1 e1 e2=>?_
  clear e
  refine mE (jr e1) λz33 h1 z34=>?_;subst z33;subst z34;have e:=e2
  clear e2
  refine dR e λf=>?_;refine RH.sD r x h1 λp hp hfit z37=>?_;obtain⟨vs,m,g,w1⟩:=z37;refine call_tuple_list ⟨_,g,rfl,m,rfl⟩ (λh' k'=>?_) (by refine wr List.size_toArray (wr (w1.len.symm) ?_);exact kq f);have g':=Heap.get?_push_size h' (o:={cls:=.type "tuple",data:=.seq vs.toArray}) rfl;refine RH.make (tk:=s.toks) r (λa o e=>Heap.get?_push_of_some _ (k' a o e)) ?_ g' f ⟨vs,0,g',w1.mono (bT _ _)⟩
  rcases q:s.heap.get? h'.objs.size with _|o
  .rfl
  .exact absurd (Heap.lt_size (k' _ _ q)) (Nat.lt_irrefl _)
 |range=>
  refine xE (dp e) λi z39=>?_;subst z39;refine JV xs.qU λc z40 t z41=>?_;subst z40;subst z41;refine dR e λf=>call_range_1 ?_;have g':=Heap.get?_push_size s.heap (o:={cls:=.type "range",data:=.fields #[.int 0 s.toks,.int ‹Int› t,.int 1 (s.toks+1)]}) rfl;exact RH.make r (λa o e=>Heap.get?_push_of_some _ e) (cW _) g' f ⟨_,_,_,g'⟩
 |sum=>
  refine xE (dp e) λa z44=>?_;subst z44;refine bW xs.qU λc z45 x=>?_;subst z45;refine ai e λq H1 e1 e2=>?_
  clear e
  refine mE (jr e1) λz46 h1 z47=>?_;subst z46;subst z47;have e:=e2
  clear e2
  refine RH.sD r x h1 λp hp hfit z48=>?_;obtain⟨vs,m,g,w1⟩:=z48;dsimp only at e
  rcases hs:sumInts q.2 with _|k
  .rw[hs] at e;exact ag _ e
  .rw[hs] at e;refine aw e ?_;have hl:q.2.length<=1000:=Nat.le_of_ble_eq_true hfit;have hvl:=w1.len;refine be (B7 hs w1) λys z52 hsm z53=>?_;subst z52;subst z53;rw[List.length_map] at hvl;have il:s.heap.IsList p.1 (intItems ys.toArray):=⟨_,g,rfl,m,by simp[intItems]⟩;have sm:∀j,(numAt ys.toArray j).natAbs<=1000000:=λj=>by
    unfold numAt
    rcases hj:ys.toArray[j]? with _|q'
    .simp
    .simp;exact hsm q' (by simpa using Array.mem_of_getElem? hj)
   refine sum_intList hh il (λj hj=>⟨?_,?_⟩) λh' tk t' k'=>?_
   .exact uy (sm j) (by decide)
   .have hj:j<ys.length:=by simpa using hj
    exact uy (vD sm (j+1)) (by lia)
   .refine wr List.size_toArray (wr (zO _) ?_);exact r.keep k' ⟨_,rfl⟩
 |sorted=>
  refine xE (dp e) λn z54=>?_;subst z54;refine bW xs.qU λc z55 x=>?_;subst z55;refine aG e λo h1 e=>RH.sD r x h1 λp hp hfit z=>?_
  induction o with
  |dict es=>
   rcases es with _|_
   .refine dR e λf=>cF z λds m g w1=>?_
    rcases ds with _|_
    .have hD:s.heap.DictOf (intKind prog w) p.1 []:=⟨_,#[],m,g,⟨rfl,rfl,rfl⟩,rfl,λe he=>by(simp at he),.nil,.nil⟩;refine xE hD.dictAt λep hat=>Calls.call_function_entry kind_sorted plain_sorted entry_sorted (args_sorted1 _) ?_;unfold Builtin.«sorted»;refine wpAny_bind (m:=checkCount "sorted" 1 1 _) (wpAny_pure ?_);refine wpAny_bind (kdu_collect (A:=A.in1) (kdl_dict (knd:=intKind prog w) (kvs:=[]) (ep:=ep) (r.Gb B hp)) hh hat (Nat.zero_le _) λh' tk acc hk hacc=>?_);have ha:acc.toList=[]:=List.eq_nil_of_length_eq_zero (by refine wr Array.length_toList ?_;exact hacc.1);refine wr ha<|wpAny_bind (wpAny_newList ?_ (Nat.zero_le _))
     have g1:=Heap.get?_push_size h' (o:=seqObj "list" ([]:List Value).toArray 0) rfl;refine wpAny_bind (wpAny_holding (wpAny_call_entry PyProof.Rows.slot_list_sort ⟨_,g1,rfl⟩ PyProof.Rows.entry_list_sort (list_sort_tree (n:=0) (vs:=[]) g1 .nil (by decide) λout ns' a1 a2 a3=>⟨.none,rfl,?_⟩) (PyProof.Rows.args_list_sort _)));refine wpAny_pure ⟨_,rfl,?_⟩;have hout:out= #[]:=by
      have:=a2.length_eq;have h3:ns'=[]:=List.eq_nil_of_length_eq_zero this;subst h3
      induction out with
      |mk l=>cases a1;rfl
     subst hout;have hn:s.heap.get? h'.objs.size=none:=by
      rcases q:s.heap.get? h'.objs.size with _|o
      .rfl
      .exact absurd (Heap.lt_size (hk _ _ q)) (Nat.lt_irrefl _)
     have U1:=get?_update_seq g1 (λu_=> #[]);have U2:(((h'.push (seqObj "list" ([]:List Value).toArray 0)).update h'.objs.size (Obj.mapSeq λu_=> #[])).push (seqObj "tuple" ([]:List Value).toArray 0)).get? h'.objs.size=_:=Heap.get?_push_of_some _ U1;have U3:((((h'.push (seqObj "list" ([]:List Value).toArray 0)).update h'.objs.size (Obj.mapSeq λu_=> #[])).push (seqObj "tuple" ([]:List Value).toArray 0)).push (seqObj "list" #[] 0)).get? h'.objs.size=_:=Heap.get?_push_of_some _ U2;have U4:=get?_update_seq U3 (λu_=> #[]);refine RH.make r (λa o e=>?_) hn U4 f ⟨[],_,U4,trivial⟩;have hne:a≠h'.objs.size:=λq=>by rw[q,hn] at e;exact ns e
     unfold sortedHeap;refine wr (Heap.get?_update_ne _ _ _ _ hne) ?_;refine Heap.get?_push_of_some _ (Heap.get?_push_of_some _ ?_);refine wr (Heap.get?_update_ne _ _ _ _ hne) ?_;exact Heap.get?_push_of_some _ (hk a o e)
    .exact w1.elim
   .exact ag H e
  |_=>exact ag H e
 |abs=>
  refine xE (dp e) λi z59=>?_;subst z59;refine JV xs.qU λc z60 t z61=>?_;subst z60;subst z61;refine aw e<|call_abs_int λu tk=>.here r ⟨u,rfl⟩
 |min=>
  refine fP (dp e) λi j z64=>?_;subst z64;refine bV xs.DF λc c' z65 z66 z67=>?_;subst z65;obtain⟨t,rfl⟩:=z66;obtain⟨u,rfl⟩:=z67;refine aw e<|min_two_ints hh λh' tk k'=>r.keep k' ?_
  unfold CJ
  split
  .exact⟨_,rfl⟩
  .exact⟨_,rfl⟩
 |max=>
  refine fP (dp e) λi j z70=>?_;subst z70;refine bV xs.DF λc c' z71 z72 z73=>?_;subst z71;obtain⟨t,rfl⟩:=z72;obtain⟨u,rfl⟩:=z73;refine aw e<|max_two_ints hh λh' tk k'=>r.keep k' ?_
  unfold CM
  by_cases h:i<j
  .refine wr (if_pos h) (wr (if_pos (show j>i from h)) ?_);exact⟨_,rfl⟩
  .refine wr (if_neg h) (wr (if_neg (show¬j>i from h)) ?_);exact⟨_,rfl⟩
end
end Mi
namespace Mi
open PySem PySem.W PyProof.Rows PySem.SeqAt
section
variable {prog:Program}{w:World}{A:Around}{b:Bs}{X:Addr->Prop}{Φ:Fi}{s:Shared}{H H':AH}
noncomputable def xk (x:Str):Value:=if x==("tuple":Str) then .type "tuple" else .type "bool"
theorem C0 {x:Str}{v k:V}{c:Value}(r:RH b s.heap Φ H) (xv:VR b Φ v c) (e:isType x v H=some (k,H')):
  (x=("tuple":Str)\/x=("bool":Str))/\wpAny (model prog w) A (call (.builtin "isinstance") [c,xk x]) (Gt b X Φ s k H') no s:=by
 have nb:(("bool":Str)==("tuple":Str))=false:=by decide+kernel
 have two:∀{bt bb:Bool},(if x==("tuple":Str) then pure (.bool bt) else if x==("bool":Str) then pure (.bool bb) else ak:AM V) H=some (k,H')->
   (x=("tuple":Str)/\k=.bool bt/\H'=H)\/(x=("bool":Str)/\k=.bool bb/\H'=H):=by
  intro bt bb e
  split at e
  .rename_i h;refine aw e ?_;exact .inl ⟨eq_of_beq h,rfl,rfl⟩
  .split at e
   .rename_i h;refine aw e ?_;exact .inr ⟨eq_of_beq h,rfl,rfl⟩
   .exact ag H e
 have tt:xk "tuple"=.type "tuple":=by unfold xk;exact wr (if_pos (beq_self_eq_true _)) rfl
 have tb:xk "bool"=.type "bool":=by unfold xk;refine wr nb ?_;rfl
 induction v<;>try exact ag H e
 case bool=>
  subst xv
  rcases two e with⟨rfl,rfl,rfl⟩|⟨rfl,rfl,rfl⟩
  .exact⟨.inl rfl,tt▸IsiPair.bool_tuple (.here r rfl)⟩
  .exact⟨.inr rfl,tb▸IsiPair.bool_bool (.now r rfl)⟩
 case int=>
  refine xE xv λt z5=>?_;subst z5
  rcases two e with⟨rfl,rfl,rfl⟩|⟨rfl,rfl,rfl⟩
  .exact⟨.inl rfl,tt▸IsiPair.int_tuple (.here r rfl)⟩
  .exact⟨.inr rfl,tb▸IsiPair.int_bool (.here r rfl)⟩
 case none=>
  subst xv
  rcases two e with⟨rfl,rfl,rfl⟩|⟨rfl,rfl,rfl⟩
  .exact⟨.inl rfl,tt▸IsiPair.NoneType_tuple (.here r rfl)⟩
  .exact⟨.inr rfl,tb▸IsiPair.NoneType_bool (.here r rfl)⟩
 case ref n=>
  refine aG e λo h1 e=>?_
  induction o<;>try exact ag H e
  refine RH.sD r xv h1 λp hp u_ z6=>?_;obtain⟨vs,m,g,w1⟩:=z6
  rcases two e with⟨rfl,rfl,rfl⟩|⟨rfl,rfl,rfl⟩
  .exact⟨.inl rfl,tt▸IsiPair.tuple_tuple g rfl (.now r rfl)⟩
  .exact⟨.inr rfl,tb▸IsiPair.tuple_bool g rfl (.here r rfl)⟩
noncomputable def Kn:LM->String
 |.append=>"list.append"
 |.pop=>"list.pop"
 |.extend=>"list.extend"
 |.get=>"dict.get"
noncomputable def Ey:LM->Str
 |.append=>"append"
 |.pop=>"pop"
 |.extend=>"extend"
 |.get=>"get"
theorem GC {x:Str}{k:LM}(h:v9 x=some k):x=Ey k:=AU.look (P:=λp:Str×LM=>p.1=Ey p.2) (l:=L5) ⟨rfl,rfl,rfl,rfl,trivial⟩ h
theorem GW {x:Str}{k:LM}{o:O}{n:Nat}{c:Value}{pl:Sem Bool}{Q:Value×List Value->Shared->Prop}{E:Value->Shared->Prop}(r:RH b s.heap Φ H) (xv:VR b Φ (.ref n) c) (ho:H.at_ n=some o) (hk:v9 x=some k) (hf:nh k o=true)
  (h:Q (.builtin (Kn k),[c]) s):wpAny (model prog w) A (getMethod c x pl) Q E s:=by
 refine tY (r.at xv ho) λp hp z8 u_ z=>?_;subst z8;have hx:=GC hk;refine wr hx ?_
 induction k with
 |get=>
  revert z;induction o<;>first|exact nb hf|skip
  refine λz=>cF z λvs m g w1=>?_;exact getMethod_builtin ⟨_,g,rfl⟩ PySem.F.plainAttrs_dict PySem.F.slot_dict_get PySem.F.type_dict_get (λa e=>by cases e;exact⟨_,g,rfl⟩) h
 |append=>
  revert z;induction o<;>first|exact nb hf|skip
  refine λz=>cF z λvs m g w1=>?_;exact getMethod_builtin ⟨_,g,rfl⟩ PySem.F.plainAttrs_list PySem.F.slot_list_append PySem.F.type_list_append (λa e=>by cases e;exact⟨_,g,rfl⟩) h
 |pop=>
  revert z;induction o<;>first|exact nb hf|skip
  refine λz=>cF z λvs m g w1=>?_;exact getMethod_builtin ⟨_,g,rfl⟩ PySem.F.plainAttrs_list PySem.F.slot_list_pop PySem.F.type_list_pop (λa e=>by cases e;exact⟨_,g,rfl⟩) h
 |extend=>
  revert z;induction o<;>first|exact nb hf|skip
  refine λz=>cF z λvs m g w1=>?_;exact getMethod_builtin ⟨_,g,rfl⟩ PySem.F.plainAttrs_list PySem.F.slot_list_extend PySem.F.type_list_extend (λa e=>by cases e;exact⟨_,g,rfl⟩) h
theorem RH.turn {n:Nat}{p:Addr×Addr}{l':List V}{vs vs':List Value}{m:Nat}{f:Array Value->Array Value}(r:RH b s.heap Φ H) (hp:Φ[n]? =some p) (g:s.heap.get? p.1=some (listOf vs.toArray m))
  (hf:fits (.list l')=true) (fx:f vs.toArray=vs'.toArray) (x:dF b Φ l' vs') {u:Unit}:sE b X Φ s (H.put n (.list l')) u {s with heap:=s.heap.update p.1 (Obj.mapSeq f)}:=by
 obtain⟨m2,upd⟩:∃m2,(listOf vs.toArray m).mapSeq f=listOf vs'.toArray m2:=⟨_,by unfold Obj.mapSeq;exact wr (fx.symm) rfl⟩;have hg:(s.heap.update p.1 (Obj.mapSeq f)).get? p.1=some (listOf vs'.toArray m2):=by
  refine wr (upd.symm) ?_;exact Heap.get?_update_self _ g (by refine wr upd ?_;rfl)
 exact RH.chg (tk:=s.toks) r hp hf ⟨_,_,hg,x⟩ (Heap.SameBut.update ..) ⟨_,hg⟩
theorem sE.none {c:Value}{s':Shared}(x:sE b X Φ s H' () s') (hc:c=.none):Gt b X Φ s .none H' c s':=by
 refine bW x λΦ' a b=>⟨Φ',hc,a,b⟩
def KS (k:LM) (o:O) (args:List V):Prop:=match k with
  |.append=>∃l a,o=.list l/\args=[a]|.pop=>∃l,o=.list l/\args=[]|.extend=>∃l m,o=.list l/\args=[.ref m]|.get=>∃es i d,o=.dict es/\args=[.int i,d]
theorem iJ {k:LM}{n:Nat}{o:O}{args:List V}{q:V×AH}(e:jm k n o args H=some q):KS k o args:=by
 induction k<;>induction o<;>first|exact ag H e|skip
 case append.list l=>obtain _|⟨a,_|⟨c,r⟩⟩:=args<;>first|exact ag H e|exact⟨_,_,rfl,rfl⟩
 case pop.list l=>obtain _|⟨a,r⟩:=args<;>first|exact ag H e|exact⟨_,rfl,rfl⟩
 case extend.list l=>obtain _|⟨a,_|⟨c,r⟩⟩:=args<;>first|exact ag H e|(induction a<;>first|exact ag H e|exact⟨_,_,rfl,rfl⟩)
 case get.dict l=>obtain _|⟨a,_|⟨c,_|⟨d,r⟩⟩⟩:=args<;>first|exact ag H e|(induction a<;>first|exact ag H e|exact⟨_,_,_,rfl,rfl⟩)
theorem Ft {k:LM}{n:Nat}{o:O}{args:List V}{cs:List Value}{c:Value}{v:V}(B:fy b) (r:RH b s.heap Φ H) (xv:VR b Φ (.ref n) c) (ho:H.at_ n=some o) (xs:dF b Φ args cs) (e:jm k n o args H=some (v,H')):
  wpAny (model prog w) A (call (.builtin (Kn k)) (c::cs)) (Gt b X Φ s v H') no s:=by
 refine RH.sD r xv ho λp hp hfit z=>?_
 induction k with
 |append=>
  refine cF (iJ e) λl a z10 z11=>?_;subst z10;subst z11;refine bW xs.qU λd z12 x=>?_;subst z12;refine ai e λu H1 e1 e2=>?_;refine xA (pT e1) λf z13=>?_;subst z13;obtain⟨rfl,rfl⟩:=bL e2;obtain⟨vs,m,g,w1⟩:=z;have hl:_<=1000:=Nat.le_of_ble_eq_true hfit;have hv:=w1.len;have w2:=w1.app (dF.one x);refine call_meets PySem.F.slot_list_append ⟨_,g,rfl⟩ PySem.F.entry_list_append (args_list_append _ _) (AutoListH.list_append_list_val_0 p.1 vs.toArray m d (by refine wr List.size_toArray (wr sizeLine_eq ?_);lia)) ⟨g,?_⟩;exact sE.none (RH.turn r hp g f (by simp) w2) rfl
 |pop=>
  refine bW (iJ e) λl z16 z17=>?_;subst z16;subst z17;have e:(match l.getLast? with|some v=>do eB n (.list l.dropLast);pure v|none=>ak:AM V) H=some (v,H'):=e;obtain rfl:=xs.Iu
  rcases hq:l.getLast? with _|y
  .rw[hq] at e;exact ag _ e
  .rw[hq] at e;refine ai e λu H1 e1 e2=>?_;refine xA (pT e1) λf z18=>?_;subst z18;obtain⟨rfl,rfl⟩:=bL e2;obtain⟨vs,m,g,w1⟩:=z;have hl:l.length<=1000:=Nat.le_of_ble_eq_true hfit;have hv:=w1.len;have hly:l[l.length-1]? =some v:=by refine wr ((List.getLast?_eq_getElem?).symm) ?_;exact hq
   obtain⟨d,hd,rd⟩:=w1.get hly;have w2:=w1.take (l.length-1);rw[<-List.dropLast_eq_take] at w2;have hd':vs.toArray[vs.toArray.size-1]? =some d:=by refine wr List.size_toArray (wr (hv.symm) ?_);simpa using hd
   refine call_meets PySem.F.slot_list_pop ⟨_,g,rfl⟩ PySem.F.entry_list_pop (PySem.F.args_list_pop_1 _) (PySem.MeetsSeq.list_pop_last p.1 vs.toArray m d hd' (by refine wr List.size_toArray (wr sizeLine_eq ?_);lia)) ⟨g,?_⟩;obtain⟨Φ',t1,t2⟩:=RH.turn (X:=X) (u:=()) (f:=λxs=>xs.eraseIdxIfInBounds (vs.toArray.size-1)) r hp g f (vs':=vs.take (l.length-1)) (by
    have hpos:0<l.length:=by
     rcases l with _|_
     .exact ns hq
     .simp
    rw[List.size_toArray,<-hv,Array.eraseIdxIfInBounds,dif_pos (by refine wr List.size_toArray (wr (hv.symm) ?_);exact Nat.sub_lt (by assumption) Nat.one_pos)]
    apply Array.ext'
    refine wr Array.toList_eraseIdx ?_;show vs.eraseIdx (l.length-1)=vs.take (l.length-1);exact wr (List.eraseIdx_eq_take_drop_succ _ _) (wr (List.drop_of_length_le (by lia)) (wr (List.append_nil _) rfl))) w2
   exact⟨Φ',rd.mono t2.pre,t1,t2⟩
 |extend=>
  refine cF (iJ e) λl m' z21 z22=>?_;subst z21;subst z22;refine bW xs.qU λd z23 x=>?_;subst z23;refine aG e λo' h2 e2=>?_
  induction o'<;>try exact ag _ e2
  rename_i k;refine RH.sD r x h2 λq hq hfit' z24=>?_;obtain⟨us,m2,g2,w2⟩:=z24;refine cF z λvs m g w1=>?_
  rcases hn:Nat.beq n m' with _|_
  .dsimp only at e2;rw[hn,if_neg Bool.false_ne_true] at e2;refine ai e2 λu H1 e3 e4=>?_;refine xA (pT e3) λf z26=>?_;subst z26;obtain⟨rfl,rfl⟩:=bL e4;have hl:l.length<=1000:=Nat.le_of_ble_eq_true hfit;have hl':k.length<=1000:=Nat.le_of_ble_eq_true hfit';have hv:=w1.len;have hu:=w2.len;refine call_meets PySem.F.slot_list_extend ⟨_,g,rfl⟩ PySem.F.entry_list_extend (PySem.F.args_list_extend_2 _ _) (AutoSeq1.list_extend_list_list_0 p.1 vs.toArray m q.1 us.toArray m2 (by
    simp[Builtin.List.listTooLong,sizeLine];lia) (by refine wr List.size_toArray (wr sizeLine_eq ?_);lia) (by refine wr List.size_toArray (wr List.size_toArray (wr sizeLine_eq ?_));lia)) ⟨g,g2,?_⟩
   exact sE.none (RH.turn r hp g f (by simp) (w1.app w2)) rfl
  .dsimp only at e2;rw[hn,if_pos rfl] at e2;exact ag H e2
 |get=>
  refine eZ (iJ e) λes i dv z29 z30=>?_;subst z29;subst z30;refine bV xs.DF λd d' z31 z32 x'=>?_;subst z31;obtain⟨t,rfl⟩:=z32;refine aw e<|cF z λds m g w1=>xA (gP (i:=i) w1) λkk LI=>?_
  have hm:s.heap.MapOf (intKind prog w) p.1 (λk=>(ds.find? λd=>Value.isInt k d.key).map (·.val)):=by
   refine⟨_,ds.toArray,m,g,⟨rfl,rfl,rfl⟩,rfl,λe he=>?_,λk=>by unfold findBy;refine wr ((List.find?_toArray) _ _) ?_;rfl⟩;refine cF (kk e (by simpa using he)) λk t k1 k2=>?_;exact⟨k,by show Value.isInt k e.key=true;refine wr k1 ?_;simp[Value.isInt],k2⟩
  refine call_meetsIn PySem.F.slot_dict_get ⟨_,g,rfl⟩ PySem.F.entry_dict_get (PySem.F.args_dict_get_3 _ _ _) (meets_dict_get_default (intKind prog w) p.1 (intKind_is prog w i t) (r.Gb B hp) d') ⟨_,hm,?_⟩;revert LI
  rcases dictFind i es with _|u
  .cases (ds.find? λd=>Value.isInt i d.key).map (·.val) with
   |none=>intro _;exact .here r x'
   |some _=>intro q;exact q.elim
  .cases (ds.find? λd=>Value.isInt i d.key).map (·.val) with
   |none=>intro q;exact q.elim
   |some u'=>intro q;exact .here r q
end
end Mi
namespace Mi
open PySem PySem.W PyProof.Rows PySem.SeqAt
structure gA (sc:Scope) (env:Env):Prop where
 loc:∀x,sc.names.lookup x=some .local->env.kindOf x=some .local
 cell:∀x,sc.names.lookup x=some .cell->env.kindOf x=some .cell
 free:∀x,sc.names.lookup x=some .free->env.kindOf x=some .cell\/env.kindOf x=some .free
 glob:∀x,sc.names.lookup x=some .globalImplicit->env.kindOf x=some .globalImplicit
section
variable {prog:Program}{w:World}{A:Around}{b:Bs}{X:Addr->Prop}{Φ:Fi}{s:Shared}{H H':AH}{sc:Scope}{ρ ρ':ao}{env:Env}
theorem jE {M:Model}{x:Str}{pos:Pos}{v:Value}{Q:Value->Shared->Prop}{E:Value->Shared->Prop}(B:fy b) (r:RH b s.heap Φ H) (f:cV b s.heap Φ ρ env) (c:gA sc env) (hx:sc.names.lookup x=some .globalImplicit) (hv:b.gl x=some v) (h:Q v s):
  wpAny M A (eval (.Name x pos) env) Q E s:=by
 refine bV B.glob λmg mb n1 n2 hg=>xA (hg x v hv) λhd hg=>?_;have N1:s.heap.Ns env.globals mg:=by refine wr f.glob ?_;exact fG n1 λo e=>r.base _ _ e
 have N2:s.heap.Ns env.builtins mb:=by refine wr f.bi ?_;exact fG n2 λo e=>r.base _ _ e
 refine Calls.Name_function_global f.kind (c.glob x hx) ?_ (beq_eq_false_iff_ne.mpr hd)
 rcases hg with hg|⟨g1,g2⟩
 .exact Calls.loadGlobal_global N1 hg h
 .exact Calls.loadGlobal_builtin N1 g1 N2 g2 h
theorem JC {x:Str}{v:V}(e:ρ.get x H=some (v,H')):ρ.lookup x=some (some v)/\H'=H:=by
 unfold ao.get at e;revert e;generalize ρ.lookup x=o_;rcases o_ with _|o
 .intro e;exact ag H e
 .intro e
  induction o with
  |none=>exact ag H e
  |some u=>
   refine aw e<|⟨rfl,rfl⟩
theorem GB {M:Model}{x:Str}{pos:Pos}{v:V}{E:Value->Shared->Prop}(r:RH b s.heap Φ H) (f:cV b s.heap Φ ρ env) (hd:(x==("__debug__":Str))=false) (hcd:(x==("__classdict__":Str))=false)
  (hk:env.kindOf x=some .local\/env.kindOf x=some .cell\/env.kindOf x=some .free) (e:ρ.get x H=some (v,H')):wpAny M A (eval (.Name x pos) env) (Gt b X Φ s v H') E s:=by
 refine xA (JC e) λhl z3=>?_;subst z3;refine wpAny_Name ?_ hd
 rcases hk with hk|hk|hk
 .refine bW f.ns λm hn hv=>bW (hv x v hk hl) λc hc rc=>wpAny_loadName_local f.kind hk hn hc (.now r rc)
 .refine bV (f.cell x (.inl hk) (by refine wr hl ?_;rfl)) λa cv hc hcell hv=>?_;refine bW (hv v hl) λc z4 rc=>?_;subst z4;exact wpAny_loadName_cell f.kind hk hc hcell (.now r rc)
 .refine bV (f.cell x (.inr hk) (by refine wr hl ?_;rfl)) λa cv hc hcell hv=>?_;refine bW (hv v hl) λc z5 rc=>?_;subst z5;exact wpAny_loadName_free f.kind hk hc hcell (.now r rc) hcd
theorem Bg {M:Model}{x:Str}{pos:Pos}{v:V}{E:Value->Shared->Prop}(B:fy b) (r:RH b s.heap Φ H) (f:cV b s.heap Φ ρ env) (c:gA sc env) (e:nJ sc ρ x H=some (v,H')):
  wpAny M A (eval (.Name x pos) env) (Gt b X Φ s v H') E s:=by
 refine rS e (λu_ e=>ag H e) λhd e=>rS e (λhk e=>?_) λu_ e=>fA e λhk hx e=>?_
 .refine xA (Bool.or_eq_false_iff.mp hd) λhd hcd=>GB r f hd hcd ?_ e
  rcases LF hk with h|h|h
  .exact .inl (c.loc x h)
  .exact .inr (.inl (c.cell x h))
  .exact .inr (c.free x h)
 .refine aw e<|xE B.My λt ht=>jE B r f c (GV hk) (eq_of_beq hx▸ht) (.now r ⟨t,rfl⟩)
theorem cS {x y:Str}{v:V}{ρ:ao}(h:(ρ.lookup x).isSome=true):(ρ.set x v).lookup y=if y=x then some (some v) else ρ.lookup y:=by
 induction ρ with
 |nil=>exact nb h
 |cons p ρ ih=>
  obtain⟨z,o⟩:=p;unfold ao.set
  rcases hz:z==x with _|_
  .dsimp only[cond];have hxz:(x==z)=false:=by refine wr Bool.beq_comm ?_;exact hz
   rw[List.lookup_cons,hxz] at h;refine wr List.lookup_cons (wr List.lookup_cons (wr (ih h) ?_))
   rcases hy:y==z with _|_
   .rfl
   .have hy:=eq_of_beq hy;subst hy;have hyx:¬y=x:=by intro q;rw[q] at hz;simp at hz
    refine wr (if_neg hyx) ?_;simp[hyx]
  .have hz:=eq_of_beq hz;subst hz;dsimp only[cond];refine wr List.lookup_cons ?_
   by_cases hy:y=z
   .subst hy;simp
   .exact wr (beq_eq_false_iff_ne.mpr hy) (wr (if_neg hy) (wr List.lookup_cons (wr (beq_eq_false_iff_ne.mpr hy) rfl)))
theorem fg {x y:Str}{v:V}(h:(ρ.lookup x).isSome=true):((ρ.set x v).lookup y).isSome=(ρ.lookup y).isSome:=by
 refine wr (cS h) ?_
 split
 .rename_i q;refine wr q (wr h ?_);rfl
 .rfl
def JU (b:Bs) (X:Addr->Prop) (Φ:Fi) (s:Shared) (H:AH) (ρ':ao) (env:Env) (s':Shared):Prop:=cV b s'.heap Φ ρ' env/\RH b s'.heap Φ H/\dw X Φ s Φ s'
structure pA (X:Addr->Prop) (sc:Scope) (env:Env):Prop where
 loc:X env.locals
 cell:∀x,sc.names.lookup x=some .cell->∀a,(x,a)∈env.cells->X a
theorem pA.fr (sc:Scope) (env:Env):pA (jP env) sc env:=⟨.inl rfl,λx u_ a h=>.inr ⟨x,h⟩⟩
theorem OR.sameBut {h h':Heap}{p:Addr×Addr}{o:O}{a:Addr}(x:OR b h Φ p o) (sb:Heap.SameBut a h h') (n1:a≠p.1) (n2:a≠p.2):OR b h' Φ p o:=
 x.keeps λc o hc e=>by
  have:c≠a:=by rcases hc with rfl|rfl;exact n1.symm;exact n2.symm
  exact(sb.2 c this).trans e
theorem RH.sameBut {h':Heap}{a:Addr}(r:RH b s.heap Φ H) (sb:Heap.SameBut a s.heap h') (u:pX Φ a) (nb:b.h.get? a=none):RH b h' Φ H:=by
 refine⟨r.len,λn p e=>?_,r.out,r.apart,r.fresh,λc o e=>?_,λn p e=>?_⟩
 .refine be (r.obj n p e) λo h1 h2 h3=>⟨o,h1,h2,h3.sameBut sb (u n p e).1 (u n p e).2⟩
 .refine(sb.2 c ?_).trans (r.base c o e);rintro rfl;rw[nb] at e;exact ns e
 .refine xA (r.live n p e) λz8 z9=>?_;obtain⟨o1,h1⟩:=z8;obtain⟨o2,h2⟩:=z9;exact⟨⟨o1,(sb.2 _ (u n p e).1.symm).trans h1⟩,⟨o2,(sb.2 _ (u n p e).2.symm).trans h2⟩⟩
theorem uH {a:Addr}{cs:List (Str×Addr)}{x y:Str}(h:cs.Pairwise λx y=>x.2≠y.2) (h1:(x,a)∈cs) (h2:(y,a)∈cs):x=y:=by
 induction cs with
 |nil=>exact nm h1
 |cons p cs ih=>
  rw[List.pairwise_cons] at h
  rcases List.mem_cons.mp h1 with g1|g1
  .rcases List.mem_cons.mp h2 with g2|g2
   .have:=g1.trans g2.symm;cases this;rfl
   .exact absurd (by exact wr (g1.symm) rfl) (h.1 _ g2)
  .rcases List.mem_cons.mp h2 with g2|g2
   .exact absurd (by exact wr (g2.symm) rfl) (h.1 _ g1)
   .exact ih h.2 g1 g2
theorem qd {M:Model}{x:Str}{v:V}{c:Value}{E:Value->Shared->Prop}(r:RH b s.heap Φ H) (f:cV b s.heap Φ ρ env) (C:gA sc env) (Z:pA X sc env) (hv:VR b Φ v c) (e:putN sc ρ x v H=some (ρ',H')):
  H'=H/\wpAny M A (storeName env x c) (λu_ s'=>JU b X Φ s H ρ' env s') E s:=by
 refine fA e λhk hs e=>aw e ⟨rfl,?_⟩
 rcases Kq hk with hk|hk
 .have hk:=C.loc x hk;refine bW f.ns λm hn hm=>?_;refine wpAny_storeName_local hk hn (λh' hn' sb=>?_) (by refine wr f.kind ?_;rfl);have lv:∃o,h'.get? env.locals=some o:=let⟨o,_,_,e,_⟩:=hn';⟨o,e⟩
  refine⟨⟨f.kind,f.glob,f.bi,⟨_,hn',λy u hy hl=>?_⟩,λy hy hsy=>?_,f.p7,f.oR,f.yj,f.vT,f.apart,f.hJ,λy a hm=>?_⟩,r.sameBut sb f.p7 f.yj,⟨List.prefix_refl _,λn p q q'=>(by rw[q] at q';exact ns q'),λa o e u nx=>?_,λa ha oe=>xE oe λo e=>?_,rfl,rfl,rfl⟩⟩
  .rw[cS hs] at hl
   by_cases hyx:y=x
   .rw[if_pos hyx] at hl⊢;cases hl;exact⟨c,rfl,hv⟩
   .rw[if_neg hyx] at hl⊢;exact hm y u hy hl
  .rw[fg hs] at hsy;refine bV (f.cell y hy hsy) λa cv h1 h2 h3=>?_;have hne:a≠env.locals:=f.hJ y a (mem_of_lookup h1);refine⟨a,cv,h1,dj h2 λo e=>(sb.2 a hne).trans e,λu hl=>?_⟩;rw[cS hs] at hl;have hyx:y≠x:=by
    rintro rfl
    rcases hy with hy|hy<;>rw[hk] at hy<;>cases hy
   rw[if_neg hyx] at hl;exact h3 u hl
  .refine xE (f.iN y a hm) λo e=>⟨o,(sb.2 a (f.hJ y a hm)).trans e⟩
  .exact(sb.2 a λq=>nx (q▸Z.loc)).trans e
  .by_cases q:a=env.locals
   .refine wr q ?_;exact lv
   .exact⟨o,(sb.2 a q).trans e⟩
 .have hkc:=hk;have hk:=C.cell x hk;refine bV (f.cell x (.inl hk) hs) λa cv h1 h2 h3=>?_;have hmem:=mem_of_lookup h1;have hne:a≠env.locals:=f.hJ x a hmem;refine wpAny_storeName_cell f.kind hk h1 h2 λh' hn' sb=>?_;have lv:∃o,h'.get? a=some o:=let⟨o,e,_⟩:=hn';⟨o,e⟩
  have ua:=f.oR x a hmem;refine⟨⟨f.kind,f.glob,f.bi,?_,λy hy hsy=>?_,f.p7,f.oR,f.yj,f.vT,f.apart,f.hJ,λy a' hm=>?_⟩,r.sameBut sb ua (f.vT x a hmem),⟨List.prefix_refl _,λn p q q'=>(by rw[q] at q';exact ns q'),λa' o e u nx=>?_,λa' ha oe=>xE oe λo e=>?_,rfl,rfl,rfl⟩⟩
  .refine bW f.ns λm hn hm=>⟨m,fG hn λo e=>(sb.2 _ hne.symm).trans e,λy u hy hl=>?_⟩;rw[cS hs] at hl;have hyx:y≠x:=by rintro rfl;rw[hk] at hy;cases hy
   rw[if_neg hyx] at hl;exact hm y u hy hl
  .rw[fg hs] at hsy;refine bV (f.cell y hy hsy) λa' cv' g1 g2 g3=>?_
   by_cases hyx:y=x
   .subst hyx;rw[h1] at g1;obtain rfl:=Option.some.inj g1;refine⟨a,some c,h1,hn',λu hl=>?_⟩;rw[cS hs,if_pos rfl] at hl
    cases hl
    exact⟨c,rfl,hv⟩
   .have hna:a'≠a:=by
     rintro rfl
     exact hyx (uH f.apart (mem_of_lookup g1) hmem)
    refine⟨a',cv',g1,dj g2 λo e=>(sb.2 a' hna).trans e,λu hl=>?_⟩;rw[cS hs,if_neg hyx] at hl;exact g3 u hl
  .by_cases q:a'=a
   .refine wr q ?_;exact lv
   .refine xE (f.iN y a' hm) λo e=>⟨o,(sb.2 a' q).trans e⟩
  .exact(sb.2 a' λq=>nx (Z.cell x hkc a' (q▸hmem))).trans e
  .by_cases q:a'=a
   .refine wr q ?_;exact lv
   .exact⟨o,(sb.2 a' q).trans e⟩
end
end Mi
namespace Mi
open PySem PySem.W PyProof.Rows PySem.SeqAt
structure cC (k:Nat) (A:Around):Prop where
 hand:A.handled=none
 depth:A.depth+3*k+3<recursionLimit
 units:A.units+20*k+40<cLine
structure jY (prog:Program) (w:World) (b:Bs) (k:Nat) (L:Lv):Prop where
 E:∀{A:Around} {sc:Scope} {ρ:ao} {e:Expr} {env:Env} {s:Shared} {Φ:Fi} {H H':AH} {v:V},cC k A->RH b s.heap Φ H->cV b s.heap Φ ρ env->gA sc env->L.E sc ρ e H=some (v,H')->
  wpAny (model prog w) A (eval e env) (Gt b cQ Φ s v H') no s
 T:∀{A:Around} {sc:Scope} {ρ:ao} {e:Expr} {env:Env} {s:Shared} {Φ:Fi} {H H':AH} {v:Bool},cC k A->RH b s.heap Φ H->cV b s.heap Φ ρ env->gA sc env->L.T sc ρ e H=some (v,H')->
  wpAny (model prog w) A (isTrue e env (eval e env)) (F3 b cQ Φ s v H') no s
theorem JD {α:Type}{c:Bool}{m:AM α}{H:AH}{r:α×AH}(h:(bif c then m else ak) H=some r):c=true/\m H=some r:=by
 induction c with
 |true=>exact⟨rfl,h⟩
 |false=>exact ag H h
section
variable {prog:Program}{w:World}{A:Around}{b:Bs}{X:Addr->Prop}{Φ Φ1:Fi}{s s1 s2:Shared}{H H':AH}{sc:Scope}{ρ ρ':ao}{env:Env}{k:Nat}{L:Lv}
theorem Gt.after {v:V}{c:Value}(st:dw X Φ s Φ1 s1) (g:Gt b X Φ1 s1 v H' c s2):Gt b X Φ s v H' c s2:=by
 refine be g λΦ' x1 x2 x3=>?_;exact⟨Φ',x1,x2,st.trans x3 x2⟩
theorem F3.after {v c:Bool}(st:dw X Φ s Φ1 s1) (g:F3 b X Φ1 s1 v H' c s2):F3 b X Φ s v H' c s2:=by
 refine pZ g λx1 Φ' x2 x3=>?_;exact⟨x1,Φ',x2,st.trans x3 x2⟩
theorem sE.after {c:Unit}(st:dw X Φ s Φ1 s1) (g:sE b X Φ1 s1 H' c s2):sE b X Φ s H' c s2:=by
 refine bW g λΦ' x2 x3=>?_;exact⟨Φ',x2,st.trans x3 x2⟩
theorem cV.cQ (f:cV b s.heap Φ ρ env) (st:dw cQ Φ s Φ1 s1):cV b s1.heap Φ1 ρ env:=f.on st λu_ u_ x=>x
theorem cG {α β:Type}{M:Model}{m:Sem α}{f:α->Sem β}{P:α->Shared->Prop}{Q:β->Shared->Prop}{E:Value->Shared->Prop}(h:wpAny M A m P no s) (g:∀a s',P a s'->wpAny M A (f a) Q E s'):wpAny M A (m>>=f) Q E s:=
 wpAny_bind (wpAny_mono h g λu_ u_ x=>x.elim)
theorem bS {α:Type}{M:Model}{m:Sem α}{P Q:α->Shared->Prop}{E:Value->Shared->Prop}(h:wpAny M A m P no s) (g:∀a s',P a s'->Q a s'):wpAny M A m Q E s:=
 wpAny_mono h g λu_ u_ x=>x.elim
theorem jA (O:jY prog w b k L) (hA:cC k A) (r:RH b s.heap Φ H) (f:cV b s.heap Φ ρ env) (C:gA sc env) {x:Option Expr}{i:Option Int}(e:dH L sc ρ x H=some (i,H')):
  wpAny (model prog w) A (evalPart x env) (λc s'=>IsPart c i/\∃Φ',RH b s'.heap Φ' H'/\dw cQ Φ s Φ' s') no s:=by
 induction x with
 |none=>
  refine aw e<|wr (evalPart_none _)<|wpAny_pure ⟨.none,Φ,r,.refl _ _ _⟩
 |some x=>
  refine ai e λv H1 e1 e=>?_;refine eY e λj z3 e=>?_;subst z3;refine aw e<|wr (evalPart_some _ _)<|bS (O.E hA r f C e1) λc s' z=>be z λΦ' u x2 x3=>xE u λt hc=>⟨?_,Φ',x2,x3⟩
  refine wr hc ?_;exact .int _ _
theorem gG {M:Model}{m:Sem Value}{v:V}{Q:Value->Shared->Prop}{E:Value->Shared->Prop}(h:wpAny M A m (Gt b X Φ s v H') no s) (k:∀c s1 Φ1,VR b Φ1 v c->RH b s1.heap Φ1 H'->dw X Φ s Φ1 s1->Q c s1):wpAny M A m Q E s:=bS h λc s1 g=>be g (k c s1)
theorem gH {M:Model}{β:Type}{m:Sem Value}{f:Value->Sem β}{v:V}{Q:β->Shared->Prop}{E:Value->Shared->Prop}(h:wpAny M A m (Gt b X Φ s v H') no s) (k:∀c s1 Φ1,VR b Φ1 v c->RH b s1.heap Φ1 H'->dw X Φ s Φ1 s1->wpAny M A (f c) Q E s1):wpAny M A (m>>=f) Q E s:=cG h λc s1 g=>be g (k c s1)
theorem DB {M:Model}{m:Sem Bool}{v:Bool}{Q:Bool->Shared->Prop}{E:Value->Shared->Prop}(h:wpAny M A m (F3 b X Φ s v H') no s) (k:∀s1 Φ1,RH b s1.heap Φ1 H'->dw X Φ s Φ1 s1->Q v s1):wpAny M A m Q E s:=bS h λc s1 g=>g.1▸bW g.2 (k s1)
theorem Hy {M:Model}{β:Type}{m:Sem Bool}{f:Bool->Sem β}{v:Bool}{Q:β->Shared->Prop}{E:Value->Shared->Prop}(h:wpAny M A m (F3 b X Φ s v H') no s) (k:∀s1 Φ1,RH b s1.heap Φ1 H'->dw X Φ s Φ1 s1->wpAny M A (f v) Q E s1):wpAny M A (m>>=f) Q E s:=cG h λc s1 g=>g.1▸bW g.2 (k s1)
theorem JY {M:Model}{m:Sem (List Value)}{v:List V}{Q:List Value->Shared->Prop}{E:Value->Shared->Prop}(h:wpAny M A m (LR b X Φ s v H') no s) (k:∀c s1 Φ1,dF b Φ1 v c->RH b s1.heap Φ1 H'->dw X Φ s Φ1 s1->Q c s1):wpAny M A m Q E s:=bS h λc s1 g=>be g (k c s1)
theorem fz {e:Expr}{es:List Expr}(h:noStar e=true):starEach (e::es) env=(false,eval e env)::starEach es env:=by
 revert h;refine Expr.casesOn e ?_ ?_ ?_ ?_ ?_ ?_ ?_ ?_ ?_ ?_ ?_ ?_ ?_ ?_ ?_ ?_ ?_ ?_ ?_ ?_ ?_ ?_ ?_ ?_ ?_ ?_ ?_<;>(repeat intro u_)<;>first|exact nb u_|rfl
theorem k5 {es:List Expr}{vs:List V}(e:eJ L sc ρ es H=some (vs,H')):(starEach es env).all (!·.1)=true:=by
 induction es generalizing vs H H' with
 |nil=>rfl
 |cons e0 es ih=>
  refine cD e λhs e=>ai e λv H1 u_ e=>ai e λus H2 e2 u_=>?_;refine wr (fz hs) (wr List.all_cons (wr (ih e2) ?_));rfl
theorem FJ {pos:Pos}{l:List (Bool×Sem Value)}(h:l.all (!·.1)=true):(backTo pos l).any (·.1)=false:=by
 induction l with
 |nil=>rfl
 |cons x l ih=>
  refine xA (Bool.and_eq_true_iff.mp h) λh1 h2=>?_;show(x.1||(backTo pos l).any (·.1))=false;refine wr (ih h2) (wr (Bool.not_eq_true' _|>.mp h1) ?_);rfl
theorem rK (O:jY prog w b k L) (hA:cC k A) (C:gA sc env) {pos:Pos}{es:List Expr}{vs:List V}(r:RH b s.heap Φ H) (f:cV b s.heap Φ ρ env) (e:eJ L sc ρ es H=some (vs,H')):
  wpAny (model prog w) A (spliced (backTo pos (starEach es env))) (LR b cQ Φ s vs H') no s:=by
 induction es generalizing vs H H' s Φ with
 |nil=>
  refine aw e<|wpAny_pure ⟨Φ,trivial,r,.refl _ _ _⟩
 |cons e0 es ih=>
  refine cD e λhs e=>ai e λv H1 e1 e=>ai e λus H2 e2 e=>aw e<|wr (fz hs)<|Calls.spliced_cons (gG (O.E hA r f C e1) λc s1 Φ1 x1 x2 x3=>JY (ih x2 (f.cQ x3) e2) λcs s2 Φ2 y1 y2 y3=>?_)
  exact⟨Φ2,⟨x1.mono y3.pre,y1⟩,y2,x3.trans y3 y2⟩
theorem wW {op:CmpOp}{e:Expr}(h:i9 e=true):behindInMarks op e=false:=by
 revert h;refine Expr.casesOn e ?_ ?_ ?_ ?_ ?_ ?_ ?_ ?_ ?_ ?_ ?_ ?_ ?_ ?_ ?_ ?_ ?_ ?_ ?_ ?_ ?_ ?_ ?_ ?_ ?_ ?_ ?_<;>(repeat intro u_)<;>first|exact Eq.refl false|exact nb u_
theorem rM (O:jY prog w b k L) (hA:cC k A) (C:gA sc env) {β:Type}{pos:Pos}{op:CmpOp}{x:Expr}{left rv:V}{cl:Value}{c:Bool}{H1:AH}{K F:Value->Sem β}{Q:β->Shared->Prop}(r:RH b s.heap Φ H) (f:cV b s.heap Φ ρ env) (hl:VR b Φ left cl)
  (e1:L.E sc ρ x H=some (rv,H1)) (e2:bQ op left rv H1=some (c,H')) (h:∀cv s2 Φ1,VR b Φ1 rv cv->RH b s2.heap Φ1 H'->dw cQ Φ s Φ1 s2->wpAny (model prog w) A (if c=true then K cv else F (.bool c)) Q no s2):
  wpAny (model prog w) A (do
   let rv<-holding [cl] (eval x env)
   standAt pos
   let c<-holding [cl,rv] (compareOp op cl rv)
   release [cl,rv] [c]
   if<-holding [c,rv] (truthy c) then K rv else F c) Q no s:=by
 refine gH (wpAny_holding (O.E hA r f C e1)) λcv s1 Φ1 x1 x2 x3=>wpAny_bind (wpAny_standAt (cG (wpAny_holding (AF x2 (hl.mono x3.pre) x1 (by have:=hA.units;lia) e2)) λc' s2 hc=>?_));obtain⟨rfl,rfl,tk,rfl⟩:=hc;exact wpAny_bind (wpAny_release (wpAny_bind (wpAny_holding (wpAny_truthy_bool (h cv _ Φ1 x1 x2 (x3.trans (.grow (λu_ u_ e=>e) rfl rfl rfl) x2))))))
theorem yV (O:jY prog w b k L) (hA:cC k A) (C:gA sc env) {pos:Pos}{ops:List CmpOp}{es:List Expr}{left:V}{cl:Value}{v:Bool}(r:RH b s.heap Φ H) (f:cV b s.heap Φ ρ env) (hl:VR b Φ left cl)
  (e:rN L sc ρ left ops es H=some (v,H')):wpAny (model prog w) A (compareChain pos cl ops (markedEach ops es (evalEach es env))) (Gt b cQ Φ s (.bool v) H') no s/\
  wpAny (model prog w) A (testChain pos cl ops (markedEach ops es (evalEach es env))) (F3 b cQ Φ s v H') no s:=by
 induction ops generalizing es left cl s Φ H H' v with
 |nil=>exact ag H e
 |cons op ops ih=>
  rcases es with _|⟨x,es⟩
  .exact ag H e
  rcases ops with _|⟨op',ops⟩
  .refine fA e λhe hn e=>ai e λrv H1 e1 e=>wr (List.isEmpty_iff.mp he)<|wr (show markedEach [op] [x] (evalEach [x] env)=[eval x env] from congrArg (·::[]) (markedBehindIn_of_false (wW hn))) ?_
   have hu:A.units+8<cLine:=by have:=hA.units;lia
   constructor
   .refine gH (wpAny_holding (O.E hA r f C e1)) λc s1 Φ1 x1 x2 x3=>wpAny_bind (wpAny_standAt (wpAny_operating (bS (AF x2 (hl.mono x3.pre) x1 hu e) λc' s2 hc=>?_)));obtain⟨rfl,rfl,tk,rfl⟩:=hc;exact Gt.after x3 (.here x2 rfl)
   .refine gH (wpAny_holding (O.E hA r f C e1)) λc s1 Φ1 x1 x2 x3=>wpAny_bind (wpAny_standAt (cG (wpAny_operating (bS (AF x2 (hl.mono x3.pre) x1 hu e) λc' s2 hc=>hc)) λc' s2 hc=>?_));obtain⟨rfl,rfl,tk,rfl⟩:=hc;exact wpAny_holding (wpAny_truthy_bool ⟨rfl,Φ1,x2,x3.trans (.grow (λu_ u_ e=>e) rfl rfl rfl) x2⟩)
  .refine ai e λrv H1 e1 e=>ai e λc H2 e2 e=>?_;have hm:markedEach (op::op'::ops) (x::es) (evalEach (x::es) env)=eval x env::markedEach (op'::ops) es (evalEach es env):=by
    induction es<;>rfl
   refine wr hm ?_
   constructor
   .refine rM (K:=λrv=>compareChain pos rv (op'::ops) (markedEach (op'::ops) es (evalEach es env))) (F:=pure) O hA C r f hl e1 e2 λcv s2 Φ1 x1 x2 x3=>?_
    induction c with
    |true=>exact bS (ih x2 (f.cQ x3) x1 e).1 λu_ u_ q=>q.after x3
    |false=>exact aw e (wpAny_pure (Gt.after x3 (.here x2 rfl)))
   .refine rM (K:=λrv=>testChain pos rv (op'::ops) (markedEach (op'::ops) es (evalEach es env))) (F:=λu_=>pure false) O hA C r f hl e1 e2 λcv s2 Φ1 x1 x2 x3=>?_
    induction c with
    |true=>exact bS (ih x2 (f.cQ x3) x1 e).2 λu_ u_ q=>q.after x3
    |false=>exact aw e (wpAny_pure ⟨rfl,Φ1,x2,x3⟩)
end
end Mi
namespace Mi
open PySem PySem.W PyProof.Rows PySem.SeqAt
structure Dw (prog:Program) (w:World) (b:Bs) (k:Nat) (c:Value) (g:List V->AM V):Prop where
 run:∀{A:Around} {s:Shared} {Φ:Fi} {H H':AH} {args:List V} {cs:List Value} {v:V},cC k A->RH b s.heap Φ H->dF b Φ args cs->g args H=some (v,H')->
  wpAny (model prog w) A (call c cs) (Gt b cQ Φ s v H') no s
structure jt (prog:Program) (w:World) (b:Bs) (k:Nat) (tab:Tab):Prop where
 fn:∀x g,tab.fn x=some g->∃c,b.gl x=some c/\keepIn b.K c=true/\Dw prog w b k c g
 tg:∀c m g,tab.tg c m=some g->∀C,b.cl c=some C->∃f,findIn b.K (.ref C) m=some (some (.ref f))/\isFn b.K (.ref f)=true/\keepIn b.K (.ref f)=true/\Dw prog w b k (.ref f) g
section
variable {prog:Program}{w:World}{A:Around}{b:Bs}{X:Addr->Prop}{Φ Φ1:Fi}{s s1 s2:Shared}{H H':AH}{sc:Scope}{ρ ρ':ao}{env:Env}{k:Nat}{L:Lv}{tab:Tab}
set_option backward.match.sparseCases true in
theorem FA {op:BoolOp}{t v:Bool}{m:AM Bool}{x y:Sem Value}{G:Sem Value->Prop}(e:qT op t m H=some (v,H')) (h1:t=v->H=H'->G x) (h2:m H=some (v,H')->G y):G (match (generalizing:=false) op,t with
  |.And,false|.Or,true=>x
  |_,_=>y):=by
 induction op<;>induction t
 .obtain⟨rfl,rfl⟩:=Prod.mk.inj (Option.some.inj e);exact h1 rfl rfl
 .exact h2 e
 .exact h2 e
 .obtain⟨rfl,rfl⟩:=Prod.mk.inj (Option.some.inj e);exact h1 rfl rfl
set_option backward.match.sparseCases true in
theorem DK {op:BoolOp}{t v:Bool}{m:AM Bool}{y:Sem Bool}{G:Sem Bool->Prop}(e:qT op t m H=some (v,H')) (h1:t=v->H=H'->G (pure v)) (h2:m H=some (v,H')->G y):G (match (generalizing:=false) op,t with
  |.And,false=>pure false
  |.Or,true=>pure true
  |_,_=>y):=by
 induction op<;>induction t
 .obtain⟨rfl,rfl⟩:=Prod.mk.inj (Option.some.inj e);exact h1 rfl rfl
 .exact h2 e
 .exact h2 e
 .obtain⟨rfl,rfl⟩:=Prod.mk.inj (Option.some.inj e);exact h1 rfl rfl
set_option backward.match.sparseCases true in
theorem Di (O:jY prog w b k L) (hA:cC k A) (C:gA sc env) {pos:Pos}{op:BoolOp}{es:List Expr}{v:Bool}(r:RH b s.heap Φ H) (f:cV b s.heap Φ ρ env)
  (e:Hn L sc ρ op es H=some (v,H')):wpAny (model prog w) A (boolOp pos op (evalEach es env)) (Gt b cQ Φ s (.bool v) H') no s:=by
 induction es generalizing v s Φ H H' with
 |nil=>exact ag H e
 |cons x es ih=>
  rcases es with _|⟨y,es⟩
  .refine ai e λu H1 e1 e=>?_;obtain⟨rfl,rfl⟩:=nX e;exact O.E hA r f C e1
  .refine ai e λu H1 e1 e=>iR e λt z3 e=>?_;subst z3;refine gH (O.E hA r f C e1) λc s1 Φ1 x1 x2 x3=>?_
   cases (show c=.bool t from x1)
   refine wpAny_bind (wpAny_standAt (wpAny_bind (wpAny_holding (wpAny_truthy_bool ?_))));exact FA (G:=λm=>wpAny (model prog w) A m _ no s1) e (λq1 q2=>wpAny_pure ⟨Φ1,congrArg Value.bool q1,q2▸x2,x3⟩) λe=>bS (ih x2 (f.cQ x3) e) λu_ u_ q=>q.after x3
set_option backward.match.sparseCases true in
theorem Hj (O:jY prog w b k L) (hA:cC k A) (C:gA sc env) {op:BoolOp}{es:List Expr}{v:Bool}(r:RH b s.heap Φ H) (f:cV b s.heap Φ ρ env)
  (e:Hl L sc ρ op es H=some (v,H')):wpAny (model prog w) A (allTrue op es env) (F3 b cQ Φ s v H') no s:=by
 induction es generalizing v s Φ H H' with
 |nil=>
  refine aw e ?_
  induction op<;>exact wpAny_pure ⟨rfl,Φ,r,.refl _ _ _⟩
 |cons x es ih=>
  refine ai e λt H1 e1 e=>wr (arm_allTrue_cons _ _ _ _)<|Hy (O.T hA r f C e1) λs1 Φ1 x2 x3=>DK (G:=λm=>wpAny (model prog w) A m _ no s1) e (λu_ q2=>wpAny_pure ⟨rfl,Φ1,q2▸x2,x3⟩) λe=>bS (ih x2 (f.cQ x3) e) λu_ u_ q=>q.after x3
theorem eR {M:Model}{c:Value}(hc:∀a,c≠.ref a) (h:Heap):∃k,(k=Keeper.frame\/k=Keeper.machine\/k=Keeper.boundFrame)/\Looks M h (keeperOf c) k:=by
 refine⟨.machine,.inr (.inl rfl),Looks.of_pure ?_⟩
 induction c<;>first|rfl|exact absurd rfl (hc _)
theorem jl {P:Heap->Prop}{pos:Pos}{c:Value}{first:List Value}{es:List Expr}{vs:List V}{Q:Value->Shared->Prop}(O:jY prog w b k L) (hA:cC k A) (C:gA sc env) (r:RH b s.heap Φ H) (f:cV b s.heap Φ ρ env)
  (hk:∀h,P h->∃k,(k=Keeper.frame\/k=Keeper.machine\/k=Keeper.boundFrame)/\Looks (model prog w) h (keeperOf c) k) (e:eJ L sc ρ es H=some (vs,H'))
  (h:∀cs s',LR b cQ Φ s vs H' cs s'->P s'.heap/\wpAny (model prog w) A (call c (first++cs)) Q no s'):
  wpAny (model prog w) A (callWith pos c first (backTo pos (starEach es env)) []) Q no s:=by
 have h2:=rK (pos:=pos) O hA C r f e;refine callWith_of (P:=P) (by refine wr (FJ (k5 e)) ?_;rfl) hk ?_
 rcases es with _|⟨e0,es⟩
 .obtain⟨rfl,rfl⟩:=bL e;exact evalArgs_nil3 (h [] s ⟨Φ,trivial,r,.refl _ _ _⟩)
 .have hs:=(JD e).1;rw[fz hs] at h2⊢;exact Calls.evalArgs_plain (x:=eval e0 env) (rest:=backTo pos (starEach es env)) (bS h2 h)
theorem m9 {M:Model}{o:Expr}{name:Str}{apos pos:Pos}{args:List Expr}{Q:Value->Shared->Prop}{E:Value->Shared->Prop}(hend:(apos.endLine==pos.line)=true) (hn:args.length<=10) (hs:(starEach args env).all (!·.1)=true)
  (hb:attributeBase o name env (eval o env)=eval o env)
  (h:∀pl,wpAny M A (eval o env) (λov s₁=>wpAny M A (getMethod ov name pl) (λfx s₂=>wpAny M A (callWith pos fx.1 fx.2 (backTo pos (starEach args env)) []) Q E s₂) E s₁) E s):
  wpAny M A (eval (.Call (.Attribute o name apos) args [] pos) env) Q E s:=by
 refine wr (arm_eval_Call _ _ _ _ _ _ _) (wr hb ?_);refine wpAny_bind (wpAny_mono (h (do return (<-importBound o env).getD true)) (λov s₁ h₁=>wpAny_bind (wpAny_standAt ?_)) λu_ u_ x=>x);unfold methodCall;have few:methodCallForm (args.length+([]:List Keyword).length) (backTo pos (starEach args env)) (backToKw pos (keywordEach [] env))=true:=by
  unfold methodCallForm;have:(backTo pos (starEach args env)).all (!·.1)=true:=by
   unfold backTo;refine wr List.all_map<|hs
  refine wr this ?_;simp[backToKw,arm_keywordEach_nil];lia
 refine wr few<|wpAny_bind (wpAny_holding (wpAny_mono h₁ (λfx s₂ h₂=>?_) λu_ u_ x=>x))
 refine wpAny_bind (m:=methodCallPos true o env apos pos) ?_;unfold methodCallPos;refine wr hend<|wpAny_pure h₂
end
end Mi
namespace Mi
open PySem PySem.W PyProof.Rows PySem.SeqAt
section
variable {prog:Program}{w:World}{A:Around}{b:Bs}{X:Addr->Prop}{Φ Φ1:Fi}{s s1 s2:Shared}{H H':AH}
theorem xl {T:Addr}{items:List Value}{n:Nat}{x:Str}{t:Tok}{j:Nat}{Q:Value->Shared->Prop}(g:s.heap.get? T=some (DG items n)) (hj:j<items.length)
  (heq:∀i v,items[i]? =some v->EqAt A.in1 s v (.str x t) (decide (i=j))) (h:Q (.int j s.toks) {s with toks:=s.toks+1}):
  wpAny (model prog w) A (call (.builtin "tuple.index") [.ref T,.str x t]) Q no s:=by
 have it:IsTup s.heap T items.toArray:=⟨_,g,rfl,n,rfl⟩;refine wpAny_call_entry PySem.F.slot_tuple_index it.typeIs PySem.F.entry_tuple_index ?_ (PySem.F.args_tuple_index_2 _ _);unfold Builtin.«tuple.index»;refine wpAny_bind (wpAny_pure ?_);refine wpAny_bind (tupleItemsOf_ it ?_);refine wpAny_bind (wpAny_pure ?_);refine wpAny_bind (wpAny_pure ?_);dsimp only;rw[Std.Legacy.Range.forIn_eq_forIn_range'];have hr:Std.Legacy.Range.size [:min items.toArray.size items.toArray.size]=items.length:=by
  simp[Std.Legacy.Range.size]
 rw[hr];have hst:Std.Legacy.Range.start [:min items.toArray.size items.toArray.size]=0:=rfl;have hsp:Std.Legacy.Range.step [:min items.toArray.size items.toArray.size]=1:=rfl;refine wpAny_bind (wpAny_forIn_list _ (λrest r s'=>∃i,i<=j/\rest=List.range' i (items.length-i)/\r=(none,())/\s'=s) (λr s'=>wpAny (model prog w) A.in1 _ _ no s') ?_ ?_ _ _ ⟨0,Nat.zero_le _,rfl,rfl,rfl⟩)
 .rintro y rest r s' ⟨i,hi,hl,rfl,rfl⟩
  have hil:i<items.length:=Nat.lt_of_le_of_lt hi hj;rw[(Nat.sub_add_cancel (Nat.sub_pos_of_lt hil)).symm,List.range'_succ] at hl;obtain⟨rfl,rfl⟩:=List.cons.inj hl;have hx:items.toArray[y]? =some items[y]:=by simp[hil]
  refine wr hx ?_;dsimp only;refine wpAny_bind (heq y items[y] (by simp[hil]) prog w _ _ ?_)
  by_cases hij:y=j
  .subst hij;refine wr (if_pos (by simp)) ?_;unfold retInt;refine wpAny_bind (wpAny_bind (wpAny_mkInt (wpAny_pure (wpAny_pure ?_))));exact wpAny_pure ⟨_,rfl,h⟩
  .refine wr (if_neg (by simpa using hij))<|wpAny_pure ⟨y+1,Nat.lt_of_le_of_ne hi hij,rfl,rfl,rfl⟩
 .rintro r s' ⟨i,hi,hl,-,-⟩
  rw[(Nat.sub_add_cancel (Nat.sub_pos_of_lt (Nat.lt_of_le_of_lt hi hj))).symm] at hl
  cases hl
theorem rl {vs:List V}{v:V}(e:eC vs H=some (v,H')):∃x i,vs=[.str x]/\HD.findIdx? (·==x)=some i/\v=.int i/\H'=H:=by
 rcases vs with _|⟨u,_|_⟩
 .exact ag H e
 .induction u<;>try exact ag H e
  rename_i x;have e:(match HD.findIdx? (·==x) with|some i=>pure (.int (i:Int))|none=>ak:AM V) H=some (v,H'):=e;revert e
  rcases q:HD.findIdx? (·==x) with _|i
  .exact λe=>ag H e
  .exact λe=>aw e ⟨x,i,rfl,q,rfl,rfl⟩
 .induction u<;>exact ag H e
theorem te {vs:List V}{cs:List Value}{v:V}(B:fy b) (r:RH b s.heap Φ H) (xv:dF b Φ vs cs) (e:eC vs H=some (v,H')):
  wpAny (model prog w) A (call (.builtin "tuple.index") (.ref b.nm::cs)) (Gt b X Φ s v H') no s:=by
 obtain⟨x,j,rfl,q,rfl,rfl⟩:=rl e;obtain⟨c,rfl,t,rfl⟩:=xv.qU;obtain⟨hj,hx,-⟩:=List.findIdx?_eq_some_iff_getElem.mp q;obtain⟨t1,t2,t3,t4,t5,n,g⟩:=B.names;have hr:dF b Φ (HD.map V.str) [.str "category" t1,.str "front-sticky" t2,.str "rear-nonsticky" t3,.str "evaporate" t4,.str "priority" t5]:=⟨⟨_,rfl⟩,⟨_,rfl⟩,⟨_,rfl⟩,⟨_,rfl⟩,⟨_,rfl⟩,trivial⟩;refine xl (j:=j) (r.base _ _ g) hj (λi v hv=>?_) (.here r ⟨_,rfl⟩);have hi:i<HD.length:=(List.getElem?_eq_some_iff.mp hv).1;obtain⟨c,hc,u,rfl⟩:=hr.get (n:=i) (v:=.str HD[i]) (by refine wr (List.getElem?_map) (wr (List.getElem?_eq_getElem hi) ?_);rfl);obtain rfl:=Option.some.inj (hv.symm.trans hc);have key:(HD[i]==x)=decide (i=j):=by
  refine wr ((eq_of_beq hx).symm) ?_
  by_cases c:i=j
  .subst c;refine wr (decide_eq_true rfl) ?_;exact beq_self_eq_true _
  .refine wr (decide_eq_false c) ?_;exact beq_eq_false_iff_ne.mpr λh=>c ((List.getElem_inj (by decide+kernel)).mp h)
 exact key▸.str_str _ _ _ _
end
end Mi
namespace Mi
open PySem PySem.W PyProof.Rows PySem.SeqAt
section
variable {prog:Program}{w:World}{A:Around}{b:Bs}{X:Addr->Prop}{Φ Φ1:Fi}{s s1 s2:Shared}{H H':AH}{sc:Scope}{ρ ρ':ao}{env:Env}{k:Nat}{L:Lv}{tab:Tab}
theorem uJ {ov v:V}{x:Str}{es:List Expr}{G:Prop}(e:eX tab L sc ρ ov x es H=some (v,H'))
  (k1:∀n c fs g vs H2,ov=.ref n->H.at_ n=some (.inst c fs)->fs.lookup x=none->tab.tg c x=some g->eJ L sc ρ es H=some (vs,H2)->g (.ref n::vs) H2=some (v,H')->G)
  (k2:∀n o k vs H2 o',ov=.ref n->H.at_ n=some o->v9 x=some k->nh k o=true->eJ L sc ρ es H=some (vs,H2)->H2.at_ n=some o'->jm k n o' vs H2=some (v,H')->G):G:=by
 induction ov<;>try exact ag H e
 rename_i n;refine aG e λo h1 e=>?_;have oth:∀{m:AM V},m=(match v9 x with
   |some k=>bif nh k o then do
    let vs<-eJ L sc ρ es
    let o<-look n
    jm k n o vs
    else ak
   |none=>ak)->m H=some (v,H')->G:=λ{m} em e=>by
  subst em;revert e;rcases hk:v9 x with _|k
  .exact λe=>ag H e
  .exact λe=>cD e λhf e=>ai e λvs H2 e2 e=>aG e λo' h3 e=>k2 n o k vs H2 o' rfl h1 hk hf e2 h3 e
 induction o with
 |inst c fs=>
  have e:(bif (fs.lookup x).isSome then ak else match tab.tg c x with
    |some g=>do let vs<-eJ L sc ρ es;g (.ref n::vs)
    |none=>ak:AM V) H=some (v,H'):=e
  refine rS e (λu_ e=>ag H e) λhs e=>?_;revert e;rcases hm:tab.tg c x with _|g
  .exact λe=>ag H e
  .exact λe=>ai e λvs H2 e2 e=>k1 n c fs g vs H2 rfl h1 (Option.isNone_iff_eq_none.mp (Option.not_isSome _▸(congrArg not hs))) hm e2 e
 |_=>exact oth rfl e
theorem oO (B:fy b) (T:jt prog w b k tab) (O:jY prog w b k L) (hA:cC k A) (C:gA sc env) (r:RH b s.heap Φ H) (f:cV b s.heap Φ ρ env) {ov:V}{oc:Value}(xo:VR b Φ ov oc) {x:Str}{es:List Expr}{v:V}{pos:Pos}{pl:Sem Bool}
  (e:eX tab L sc ρ ov x es H=some (v,H')):wpAny (model prog w) A (getMethod oc x pl) (λfx s₂=>wpAny (model prog w) A (callWith pos fx.1 fx.2 (backTo pos (starEach es env)) []) (Gt b cQ Φ s v H') no s₂) no s:=by
 refine uJ e (λn c fs g vs H2 eo h1 hl hm e2 e3=>?_) λn o m vs H2 o' eo h1 hk hf e2 h3 e3=>?_
 .subst eo;obtain⟨p,hp,rfl,-,Cc,ds,nn,z1,z2,z3,z4,z5⟩:=r.at xo h1;obtain⟨fa,m1,m2,m3,m4⟩:=T.tg c x g hm Cc z1;have ok:=B.cls c Cc z1;have hg:getL x ds=some none:=by have:=wD (f:=x) z5;rw[hl] at this;exact this
  refine method_fn (r.K B) (pM z3 z4) ok.ga ok.gk m1 (beq_iff_eq.mp m2) (by show(lookIn x (dictOf ds nn)).map _=_;refine wr (lookIn_dict _ _ _) (wr hg ?_);rfl) ?_;refine jl (P:=λh=>b.K.In h) O hA C r f (λh X=>keeps_K m3 h X) e2 λcs s' g=>be g λΦ1 x1 x2 x3=>⟨x2.K B,?_⟩;exact bS (m4.run hA x2 (args:=.ref n::vs) ⟨xo.mono x3.pre,x1⟩ e3) λu_ u_ q=>q.after x3
 .subst eo;refine GW r xo h1 hk hf<|jl (P:=λu_=>True) O hA C r f (λh u_=>eR (λa q=>by exact FX q rfl) h) e2 λcs s' g=>be g λΦ1 x1 x2 x3=>⟨trivial,?_⟩
  exact bS (Ft B x2 (xo.mono x3.pre) h3 x1 e3) λu_ u_ q=>q.after x3
theorem uP {x name:Str}{p:Pos}{M:Sem Value}:attributeBase (.Name x p) name env M=M:=rfl
theorem Dp {o:Expr}{g name:Str}{p:Pos}{M:Sem Value}:attributeBase (.Attribute o g p) name env M=M:=rfl
theorem AQ {o:Expr}{name:Str}{M:Sem Value}(h:jy o=true):attributeBase o name env M=M:=by
 revert h;refine Expr.casesOn o ?_ ?_ ?_ ?_ ?_ ?_ ?_ ?_ ?_ ?_ ?_ ?_ ?_ ?_ ?_ ?_ ?_ ?_ ?_ ?_ ?_ ?_ ?_ ?_ ?_ ?_ ?_<;>(repeat intro u_)<;>first|exact nb u_|exact Eq.refl M|skip
 rename_i f args kws pos
 rcases args with _|⟨a,as⟩
 .exact nb u_
 .refine Expr.casesOn f ?_ ?_ ?_ ?_ ?_ ?_ ?_ ?_ ?_ ?_ ?_ ?_ ?_ ?_ ?_ ?_ ?_ ?_ ?_ ?_ ?_ ?_ ?_ ?_ ?_ ?_ ?_<;>(repeat intro u_)<;>exact Eq.refl M
theorem Fp (B:fy b) (T:jt prog w b k tab) (O:jY prog w b k L) (hA:cC k A) (C:gA sc env) (r:RH b s.heap Φ H) (f:cV b s.heap Φ ρ env) {x:Str}{p pos:Pos}{es:List Expr}{v:V}
  (e:BM tab L sc ρ x es H=some (v,H')):wpAny (model prog w) A (eval (.Call (.Name x p) es [] pos) env) (Gt b cQ Φ s v H') no s:=by
 refine wpAny_Call_Name_kw ?_;show wpAny (model prog w) A (eval (.Name x p) env) (λf s₁=>wpAny (model prog w) A (callWith pos f [] (backTo pos (starEach es env)) []) _ _ s₁) _ s;refine cD e λhx e=>?_;have hx:=GV hx;refine rS e (λhi e=>?_) λhi e=>?_
 .have hi:=eq_of_beq hi
  rcases es with _|⟨a,_|⟨t,_|_⟩⟩
  .exact ag H e
  .exact ag H e
  .have e:(match bI t with
    |some ty=>bif noStar a&&FZ (sc.names.lookup ty) then do let v<-L.E sc ρ a;isType ty v else ak
    |none=>ak:AM V) H=some (v,H'):=e
   revert e;rcases hn:bI t with _|ty
   .exact λe=>ag H e
   intro e;refine jD hn λtp=>fA e λha ht e=>ai e λu H1 e1 e=>?_;have ht:=GV ht;refine jE B r f C hx (hi▸B.Mz)<|wr (show starEach [a,.Name ty tp] env=[(false,eval a env),(false,eval (.Name ty tp) env)] from fz ha)<|callWith_of (P:=λu_=>True) rfl (λh u_=>eR (λa q=>by exact FX q rfl) h)<|Calls.evalArgs_plain (x:=eval a env) (rest:=[(false,eval (.Name ty tp) env)]) (Calls.spliced_cons (gG (O.E hA r f C e1) λc s1 Φ1 x1 x2 x3=>?_))
   refine xA (C0 (prog:=prog) (w:=w) (A:=A) (X:=cQ) x2 x1 e) λh2 h3=>?_;have gt:b.gl ty=some (xk ty):=by
    rcases h2 with rfl|rfl
    .unfold xk;refine wr (if_pos (beq_self_eq_true _)) ?_;exact B.L9.1
    .unfold xk;refine wr (if_neg (by decide+kernel)) ?_;exact B.L9.2
   exact Calls.spliced_cons (jE B x2 (f.cQ x3) C ht gt (Calls.spliced_nil ⟨trivial,bS h3 λu_ u_ q=>q.after x3⟩))
  .exact ag H e
 .revert e;rcases hb:Dj x with _|bk
  .intro e;have e:(match tab.fn x with
     |some g=>do let vs<-eJ L sc ρ es;g vs
     |none=>ak:AM V) H=some (v,H'):=e
   revert e;rcases hg:tab.fn x with _|g
   .exact λe=>ag H e
   intro e;refine ai e λvs H2 e2 e=>be (T.fn x g hg) λc g1 g2 g3=>jE B r f C hx g1<|jl (P:=λh=>b.K.In h) O hA C r f (λh X=>keeps_K g2 h X) e2 λcs s' g=>be g λΦ1 x1 x2 x3=>⟨x2.K B,?_⟩
   exact bS (g3.run hA x2 x1 e) λu_ u_ q=>q.after x3
  .intro e;refine ai e λvs H2 e2 e=>?_;have hv:b.gl x=some (BP bk):=by refine wr (B.MA x bk hb) ?_;induction bk<;>rfl
   refine jE B r f C hx hv ?_;refine jl (P:=λu_=>True) O hA C r f (λh u_=>eR (λa q=>by induction bk<;>exact FX q rfl) h) e2 λcs s' g=>be g λΦ1 x1 x2 x3=>⟨trivial,?_⟩;exact bS (Fx B hA.hand x2 x1 e) λu_ u_ q=>q.after x3
end
end Mi
namespace Mi
open PySem PySem.W PyProof.Rows PySem.SeqAt
section
variable {prog:Program}{w:World}{A:Around}{b:Bs}{X:Addr->Prop}{Φ Φ1:Fi}{s s1 s2:Shared}{H H':AH}{sc:Scope}{ρ ρ':ao}{env:Env}{k:Nat}{L:Lv}{tab:Tab}
def F2 (b:Bs) (X:Addr->Prop) (Φ:Fi) (s:Shared) (H':AH) (ρ':ao) (env:Env) (s':Shared):Prop:=∃Φ',RH b s'.heap Φ' H'/\cV b s'.heap Φ' ρ' env/\dw X Φ s Φ' s'
theorem JU.HJ (g:JU b X Φ s H ρ' env s2):F2 b X Φ s H ρ' env s2:=⟨Φ,g.2.1,g.1,g.2.2⟩
theorem dw.Gr (x:dw cQ Φ s Φ1 s1) (l:∀a,X a->pX Φ a):dw X Φ s Φ1 s1:=x.up (λu_ q=>q.elim) λa y u_=>l a y
theorem cV.La (f:cV b s.heap Φ ρ env):∀a,jP env a->pX Φ a:=by
 rintro a (rfl|⟨x,h⟩)
 .exact f.p7
 .exact f.oR x a h
theorem iQ {x:Str}{p:Pos}{es:List Expr}:assignEach (.Name x p::es) env=(false,assign (.Name x p) env)::assignEach es env:=rfl
theorem lS {h h':Heap}(f:cV b h Φ ρ env) (k:∀a o,h.get? a=some o->h'.get? a=some o):cV b h' Φ ρ env:=by
 refine⟨f.kind,f.glob,f.bi,?_,λy hy hs=>?_,f.p7,f.oR,f.yj,f.vT,f.apart,f.hJ,λy a hm=>(f.iN y a hm).imp λo e=>k _ _ e⟩
 .refine bW f.ns λm hn hv=>⟨m,fG hn λo e=>k _ _ e,hv⟩
 .refine bV (f.cell y hy hs) λa cv e hc hv=>⟨a,cv,e,dj hc λo e=>k _ _ e,hv⟩
theorem DR {x:Str}{p:Pos}{v:V}{c:Value}(r:RH b s.heap Φ H) (f:cV b s.heap Φ ρ env) (C:gA sc env) (Z:pA X sc env) (hv:VR b Φ v c) (e:putN sc ρ x v H=some (ρ',H')):
  wpAny (model prog w) A (assign (.Name x p) env c) (λu_ s'=>JU b X Φ s H ρ' env s') no s:=
 wpAny_assign_Name (qd (M:=model prog w) (A:=A) (E:=no) r f C Z hv e).2
theorem BU {x:Str}{v:V}(e:putN sc ρ x v H=some (ρ',H')):H'=H:=fA e λu_ u_ e=>(bL e).2.symm
theorem gS {t:Expr}{es:List Expr}{v:V}{vs:List V}{G:Prop}(e:hG sc ρ (t::es) (v::vs) H=some (ρ',H')) (k:∀x ρ1,bI t=some x->putN sc ρ x v H=some (ρ1,H)->hG sc ρ1 es vs H=some (ρ',H')->G):G:=by
 have e:(match bI t with
  |some x=>do let ρ<-putN sc ρ x v;hG sc ρ es vs
  |none=>ak:AM ao) H=some (ρ',H'):=e
 revert e;rcases hn:bI t with _|x
 .exact λe=>ag H e
 .exact λe=>ai e λρ1 H1 e1 e2=>by
   have hH:=BU e1;rw[hH] at e1 e2;exact k x ρ1 hn e1 e2
theorem wV (C:gA sc env) {es:List Expr}{vs:List V}{cs:List Value}(e:hG sc ρ es vs H=some (ρ',H')) (xs:dF b Φ vs cs):H'=H/\(assignEach es env).length=cs.length/\(assignEach es env).findIdx? (·.1)=none:=by
 induction es generalizing vs cs ρ with
 |nil=>
  rcases vs with _|_
  .obtain rfl:=xs.Iu;exact⟨(bL e).2.symm,rfl,rfl⟩
  .exact ag H e
 |cons t es ih=>
  rcases vs with _|⟨v,vs⟩
  .exact ag H e
  rcases cs with _|⟨c,cs⟩
  .exact xs.elim
  refine gS e λx ρ1 hn e1 e2=>jD hn λp=>?_;obtain⟨h1,h2,h3⟩:=ih e2 xs.2;refine wr iQ ?_;exact⟨h1,congrArg (·+1) h2,by refine wr (List.findIdx?_cons) (wr h3 ?_);rfl⟩
theorem Dm (C:gA sc env) (Z:pA X sc env) {es:List Expr}{vs:List V}{cs:List Value}(r:RH b s.heap Φ H) (f:cV b s.heap Φ ρ env) (xs:dF b Φ vs cs) (e:hG sc ρ es vs H=some (ρ',H')):
  wpAny (model prog w) A (assignInOrder ((assignEach es env).map (·.2)) cs) (λu_ s'=>JU b X Φ s H ρ' env s') no s:=by
 induction es generalizing vs cs ρ s with
 |nil=>
  rcases vs with _|_
  .obtain rfl:=xs.Iu;refine aw e<|assignInOrder_nil ⟨f,r,.refl _ _ _⟩
  .exact ag H e
 |cons t es ih=>
  rcases vs with _|⟨v,vs⟩
  .exact ag H e
  rcases cs with _|⟨c,cs⟩
  .exact xs.elim
  refine gS e λx ρ1 hn e1 e2=>jD hn λp=>wr iQ<|assignInOrder_cons (wpAny_mono (DR r f C Z xs.1 e1) (λu_ s1 q=>?_) λu_ u_ x=>x.elim)
  exact bS (ih q.2.1 q.1 xs.2 e2) λu_ s2 q2=>⟨q2.1,q2.2.1,q.2.2.trans q2.2.2 q2.2.1⟩
theorem wU {t:Expr}{v:V}{c:Value}(hh:A.handled=none) (r:RH b s.heap Φ H) (f:cV b s.heap Φ ρ env) (C:gA sc env) (Z:pA X sc env) (hv:VR b Φ v c) (e:gR sc t ρ v H=some (ρ',H')):
  H'=H/\wpAny (model prog w) A (assign t env c) (λu_ s'=>JU b X Φ s H ρ' env s') no s:=by
 revert e;refine HS t (λu_ no u_=>?_) ?_ ?_
 .refine wr (no _ _ _) ?_;exact λe=>ag H e
 .exact λ{x p} e=>⟨BU e,DR r f C Z hv e⟩
 .intro es x1 p1 e
  induction v<;>try exact ag H e
  rename_i n;refine aG e λo h1 e2=>RH.sD r hv h1 λp hp hfit z=>?_
  induction o<;>try exact ag H e2
  rename_i l;refine cF z λvs m g w1=>?_;obtain⟨g1,g2,g3⟩:=wV C e2 w1;refine⟨g1,?_⟩;have it:s.heap.IsTuple p.1 vs.toArray:=⟨_,g,rfl,m,rfl⟩;refine wpAny_assign_Tuple hh it (by refine wr List.size_toArray ?_;exact g2) g3 λh' hx=>?_;have gr:∀a o,s.heap.get? a=some o->h'.get? a=some o:=λa o e=>hx a o (Nat.ne_of_lt (Heap.lt_size e)) e;have S0:dw X Φ s Φ {s with heap:=h'}:=.grow gr rfl rfl rfl;exact bS (Dm (s:={s with heap:=h'}) C Z (r.grow gr) (lS f gr) w1 e2) λu_ s2 q2=>⟨q2.1,q2.2.1,S0.trans q2.2.2 q2.2.1⟩
def zi (h:Heap) (p:Addr×Addr) (o:O) (I:Addr) (i:Nat):Prop:=match o with
 |.list _=>h.IsListIter I p.1 i
 |.tup _=>IsTupIter h I p.1 i
 |.rng k=>IsRangeIter h I i (k-i) 1
 |_=>False
noncomputable def Bp:O->Option (Nat×List V)
 |.list l=>some (0,l)
 |.tup l=>some (1,l)
 |.rng k=>some (2,(List.range k.toNat).map λ(i:Nat)=>V.int (Int.ofNat i))
 |_=>none
theorem ig {v:V}{q:Nat×List V}(e:aF v H=some (q,H')):H'=H/\∃n o,v=.ref n/\H.at_ n=some o/\Bp o=some q:=by
 induction v<;>try exact ag H e
 rename_i n;refine aG e λo h1 e2=>?_
 induction o<;>first|exact ag H e2|(refine aw e2 ?_;exact⟨rfl,n,_,rfl,h1,rfl⟩)
theorem D7 {x y:V}(h:A7 x y=true):x=y:=by
 revert h
 induction x<;>induction y<;>first|exact λh=>nb h|exact λu_=>rfl|skip
 .exact λh=>congrArg _ (eq_of_beq h)
 .exact λh=>congrArg _ (of_decide_eq_true h)
 .exact λh=>congrArg _ (eq_of_beq h)
 .exact λh=>congrArg _ (Nat.eq_of_beq_eq_true h)
theorem uo:∀{l m:List V},qy l m=true->l=m
 |[],[],_=>rfl
 |a::l,c::m,h=>by
  refine xA (Bool.and_eq_true_iff.mp h) λh1 h2=>wr (D7 h1) (wr (uo h2) rfl)
 |[],_::_,h=>by exact nb h
 |_::_,[],h=>by exact nb h
theorem rR {v:V}{kl:Nat×List V}{u:Unit}(e:qe v kl H=some (u,H')):H'=H/\∃n o,v=.ref n/\H.at_ n=some o/\Bp o=some kl:=by
 refine ai e λq H1 e1 e2=>?_;refine mC (ig e1) λz6 n o z7 h1 h2=>?_;subst z6;subst z7;refine cD e2 λh3 e2=>xA (Bool.and_eq_true_iff.mp h3) λh4 h5=>⟨(bL e2).2.symm,n,o,rfl,h1,?_⟩;refine wr h2 ?_
 congr 1
 exact Prod.ext (Nat.eq_of_beq_eq_true h4) (uo h5)
theorem Bm {n:Nat}{o:O}{kl:Nat×List V}{c:Value}(r:RH b s.heap Φ H) (xv:VR b Φ (.ref n) c) (ho:H.at_ n=some o) (hk:Bp o=some kl):
  wpAny (model prog w) A (pyIter c) (λit s'=>∃p,Φ[n]? =some p/\it=.ref s.heap.objs.size/\(∀a o,s.heap.get? a=some o->s'.heap.get? a=some o)/\zi s'.heap p o s.heap.objs.size 0/\s'={s with heap:=s'.heap}) no s:=by
 refine RH.sD r xv ho λp hp hfit z=>?_
 induction o<;>try(cases hk;done)
 .refine cF z λvs m g w1=>wpAny_pyIter_list ⟨_,g,rfl,m,rfl⟩ ⟨p,hp,rfl,λa o e=>Heap.get?_push_of_some _ e,⟨_,Heap.get?_push_size _ rfl,rfl,rfl⟩,rfl⟩
 .refine cF z λvs m g w1=>iter_tuple ⟨_,g,rfl,m,rfl⟩ ⟨p,hp,rfl,λa o e=>Heap.get?_push_of_some _ e,⟨_,Heap.get?_push_size _ rfl,rfl,rfl⟩,rfl⟩
 .refine zj z λt u v hr=>?_;rename_i kk;have hkk:0<=kk/\kk<=1000:=by
   have:(decide (0<=kk)&&decide (kk<=1000))=true:=hfit
   simpa using this
  have hs:Builtin.Range.rangeSize 0 kk 1=kk:=by
   unfold Builtin.Range.rangeSize;refine wr (if_pos (by decide)) ?_
   split<;>lia
  refine wpAny_pyIter_range hr ?_ ⟨p,hp,rfl,λa o e=>Heap.get?_push_of_some _ e,?_,rfl⟩
  .simp[Builtin.Range.small,hs,Builtin.Range.rangeFitsLong];exact⟨⟨by lia,by lia⟩,.inr ⟨by lia,by lia⟩⟩
  .show IsRangeIter _ _ _ _ _;refine wr hs ?_;have:=Heap.get?_push_size s.heap (o:={cls:=.type "range_iterator",data:=.fields #[rawInt 0,rawInt kk,rawInt 1]}) rfl
   simpa using this
theorem Bd {n:Nat}{p:Addr×Addr}{o:O}{kl:Nat×List V}{I:Addr}{i:Nat}{x:V}(r:RH b s.heap Φ H) (hp:Φ[n]? =some p) (ho:H.at_ n=some o) (hk:Bp o=some kl) (hi:zi s.heap p o I i) (hx:kl.2[i]? =some x):
  wpAny (model prog w) A (pyNext (.ref I)) (λr s'=>∃c,r=some c/\VR b Φ x c/\zi s'.heap p o I (i+1)/\Heap.SameBut I s.heap s'.heap/\∃tk,s'={s with heap:=s'.heap,toks:=tk}) no s:=by
 refine be (r.obj n p hp) λo' h1 hfit z=>?_;rw[ho] at h1;obtain rfl:=Option.some.inj h1
 induction o<;>try(cases hk;done)
 .obtain rfl:=Option.some.inj hk;refine cF z λvs m g w1=>bW (w1.get hx) λc hc rc=>wpAny_pyNext_list_item hi ⟨_,g,rfl,m,rfl⟩ (by simpa using hc) λh' q sb=>⟨c,rfl,rc,q,sb,_,rfl⟩
 .obtain rfl:=Option.some.inj hk;refine cF z λvs m g w1=>bW (w1.get hx) λc hc rc=>next_tuple_item hi ⟨_,g,rfl,m,rfl⟩ (by simpa using hc) λh' q sb=>⟨c,rfl,rc,q,sb,_,rfl⟩
 .obtain rfl:=Option.some.inj hk;rename_i kk;have hlt:i<kk.toNat:=by
   have:=(List.getElem?_eq_some_iff.mp hx).1
   simpa using this
  have hxe:x=.int (Int.ofNat i):=by
   simp[hlt] at hx;exact hx.symm
  subst hxe;refine wpAny_pyNext_range_item hi (by lia) λh' q sb=>⟨_,rfl,⟨_,rfl⟩,?_,sb,_,rfl⟩;show IsRangeIter h' I ((i+1:Nat):Int) (kk-((i+1:Nat):Int)) 1;refine wr (show((i+1:Nat):Int)=(i:Int)+1 from by lia) (wr (show kk-((i:Int)+1)=kk-i-1 from by lia) ?_);exact q
theorem next_end {n:Nat}{p:Addr×Addr}{o:O}{kl:Nat×List V}{I:Addr}{i:Nat}(hh:A.handled=none) (r:RH b s.heap Φ H) (hp:Φ[n]? =some p) (ho:H.at_ n=some o) (hk:Bp o=some kl) (hi:zi s.heap p o I i) (hx:kl.2.length<=i):
  wpAny (model prog w) A (pyNext (.ref I)) (λr s'=>r=none/\Heap.ExtBut I s.heap s'.heap/\s'={s with heap:=s'.heap}) no s:=by
 refine be (r.obj n p hp) λo' h1 hfit z=>?_;rw[ho] at h1;obtain rfl:=Option.some.inj h1
 induction o<;>try(cases hk;done)
 .obtain rfl:=Option.some.inj hk;refine cF z λvs m g w1=>?_;have hx:vs.length<=i:=by refine wr (w1.len.symm) ?_;exact hx
  exact wpAny_pyNext_list_end hh hi ⟨_,g,rfl,m,rfl⟩ (by simpa using hx) λh' q=>⟨rfl,q,rfl⟩
 .obtain rfl:=Option.some.inj hk;refine cF z λvs m g w1=>?_;have hx:vs.length<=i:=by refine wr (w1.len.symm) ?_;exact hx
  exact next_tuple_end hh hi ⟨_,g,rfl,m,rfl⟩ (by simpa using hx) λh' q=>⟨rfl,q,rfl⟩
 .obtain rfl:=Option.some.inj hk;have hx:=hx;simp at hx;exact wpAny_pyNext_range_end hh hi (by lia) λh' q=>⟨rfl,q,rfl⟩
theorem zi.obj {h:Heap}{p:Addr×Addr}{o:O}{I:Addr}{i:Nat}(x:zi h p o I i):∃ob,h.get? I=some ob/\(ob.cls=.type "list_iterator"\/ob.cls=.type "tuple_iterator"\/ob.cls=.type "range_iterator"):=by
 induction o<;>try exact x.elim
 .refine be x λo h1 h2 u_=>?_;exact⟨o,h1,.inl h2⟩
 .refine be x λo h1 h2 u_=>?_;exact⟨o,h1,.inr (.inl h2)⟩
 .exact⟨_,x,.inr (.inr rfl)⟩
theorem zi.at' {h h':Heap}{p:Addr×Addr}{o:O}{I:Addr}{i:Nat}(x:zi h p o I i) (hk:∀ob,h.get? I=some ob->h'.get? I=some ob):zi h' p o I i:=by
 induction o<;>try exact x.elim
 .refine be x λo h1 h2 h3=>?_;exact⟨o,hk _ h1,h2,h3⟩
 .refine be x λo h1 h2 h3=>?_;exact⟨o,hk _ h1,h2,h3⟩
 .exact hk _ x
noncomputable def I2:Nat×List V->O
 |(0,l)=>.list l
 |(1,l)=>.tup l
 |(_,l)=>.rng l.length
theorem yI {o:O}{kl:Nat×List V}(h:Bp o=some kl) (f:fits o=true):o=I2 kl:=by
 induction o<;>try exact ns h
 .obtain rfl:=Option.some.inj h;rfl
 .obtain rfl:=Option.some.inj h;rfl
 .obtain rfl:=Option.some.inj h;rename_i n;have g:(decide (0<=n)&&decide (n<=1000))=true:=f;show _=O.rng _;exact wr (List.length_map _) (wr List.length_range (wr (Int.toNat_of_nonneg (of_decide_eq_true (Bool.and_eq_true_iff.mp g).1)) rfl))
theorem rp {o o':O}{kl:Nat×List V}(h1:Bp o=some kl) (h2:Bp o'=some kl) (f1:fits o=true) (f2:fits o'=true):o'=o:=(yI h2 f2).trans (yI h1 f1).symm
set_option backward.match.sparseCases true in
theorem xX {M:Model}{t:Expr}{c:Value}{p:Addr×Addr}{o:O}{I:Addr}{i:Nat}{Q:Unit->Shared->Prop}{E:Value->Shared->Prop}(x:zi s.heap p o I i) (h:Q () s):wpAny M A (letOwnedTupleGo t (.ref I) c) Q E s:=by
 refine bW x.obj λob h1 h2=>?_;unfold letOwnedTupleGo;have key:∀a:Addr,wpAny M A (do
    let o<-load I
    match o.cls,o.data with
    |.type n,.fields vs=>
     if["enumerate","zip","dict_itemiterator","dict_reverseitemiterator","odict_iterator","itertools.zip_longest","itertools.pairwise"].contains n&&vs[0]? ==some (rawInt a) then
      rule "for.unpacks-the-owned-tuple"
      updateField I 0 .none
    |_,_=>pure ():Sem Unit) Q E s:=by
  intro a;refine wpAny_bind (wpAny_load h1 ?_)
  split
  .rename_i n vs hc hd;have hn:(["enumerate","zip","dict_itemiterator","dict_reverseitemiterator","odict_iterator","itertools.zip_longest","itertools.pairwise"].contains n)=false:=by
    rcases h2 with q|q|q<;>(rw[hc] at q;cases q;decide)
   refine wr hn<|wpAny_pure h
  .exact wpAny_pure h
 refine Expr.casesOn t ?_ ?_ ?_ ?_ ?_ ?_ ?_ ?_ ?_ ?_ ?_ ?_ ?_ ?_ ?_ ?_ ?_ ?_ ?_ ?_ ?_ ?_ ?_ ?_ ?_ ?_ ?_<;>first|exact λu_ u_=>wpAny_pure h|exact λu_ u_ u_=>wpAny_pure h|exact λu_ u_ u_ u_=>wpAny_pure h|exact λu_ u_ u_ u_ u_=>wpAny_pure h|skip
 .intro u_ u_;induction c<;>first|exact wpAny_pure h|exact key _
 .intro u_ u_ u_;induction c<;>first|exact wpAny_pure h|exact key _
end
end Mi
namespace Mi
open PySem PySem.W PyProof.Rows PySem.SeqAt
section
variable {prog:Program}{w:World}{A:Around}{b:Bs}{X:Addr->Prop}{Φ Φ1 Φ2:Fi}{s s1 s2:Shared}{H H':AH}{sc csc:Scope}{ρ ρ':ao}{env:Env}{k:Nat}{L:Lv}{tab:Tab}
noncomputable def uG (env:Env) (names:List (Str×NameKind)):List (Str×Addr):=((names.filter (·.2==.free)).map λp=>(p.1,(env.cells.lookup p.1).getD 0)).reverse
theorem BJ (h:∀p∈csc.names,p.2=.free->∃a,env.cells.lookup p.1=some a):closureFor csc env=pure (uG env csc.names):=by
 have key:∀(names:List (Str×NameKind)) (acc:List (Str×Addr)),(∀p∈names,p.2=.free->∃a,env.cells.lookup p.1=some a)->
   (forIn names acc (λ(x:Str×NameKind) r=>match x with
    |(name,kind)=>if(kind==NameKind.free)=true then(do let a<-cellOf env name;pure (ForInStep.yield ((name,a)::r))) else pure (ForInStep.yield r)):Sem (List (Str×Addr)))=pure (uG env names++acc):=by
  intro names
  induction names with
  |nil=>intro acc _;rfl
  |cons p names ih=>
   intro acc hp;obtain⟨n,kd⟩:=p;rw[List.forIn_cons];have ih:=λacc=>ih acc λq hq=>hp q (.tail _ hq);unfold uG;refine wr List.filter_cons ?_
   rcases hk:(kd==NameKind.free) with _|_
   .simp only[hk,Bool.false_eq_true,if_false,pure_bind];exact ih acc
   .refine xE (hp _ (.head _) (eq_of_beq hk)) λa ha=>?_;dsimp only at ha;have hc:cellOf env n=pure a:=by unfold cellOf;exact wr ha rfl
    simp only[hk,if_true,hc,pure_bind];refine wr (ih _) ?_;unfold uG;refine wr List.map_cons (wr List.reverse_cons (wr (List.append_assoc _ _ _) (wr ha ?_)));rfl
 have:=key csc.names [] h;rw[List.append_nil] at this;refine wr (this.symm) ?_;unfold closureFor;dsimp only;exact bind_pure _
theorem wN {x:Str}{a:Addr}{names:List (Str×NameKind)}(h:(x,a)∈uG env names):(x,NameKind.free)∈names/\a=(env.cells.lookup x).getD 0:=by
 unfold uG at h;rw[List.mem_reverse,List.mem_map] at h;refine bW h λp hp he=>?_
 cases he
 refine xA (List.mem_filter.mp hp) λh1 h2=>?_;obtain⟨n,kd⟩:=p;have:kd=.free:=eq_of_beq h2;subst this;exact⟨h1,rfl⟩
theorem Gz {x:Str}{names:List (Str×NameKind)}(h:(x,NameKind.free)∈names):(x,(env.cells.lookup x).getD 0)∈uG env names:=by
 unfold uG;refine wr (propext (List.mem_reverse)) (wr (propext (List.mem_map)) ?_);exact⟨(x,.free),List.mem_filter.mpr ⟨h,rfl⟩,rfl⟩
theorem lookup_all {β:Type}{x:Str}{a:β}{l:List (Str×β)}(h:(x,a)∈l) (g:∀c,(x,c)∈l->c=a):l.lookup x=some a:=by
 rcases e:l.lookup x with _|c
 .exact absurd (List.lookup_eq_none_iff.mp e _ h) (by simp)
 .exact wr (g c (mem_of_lookup e)) rfl
theorem Fj {names:List (Str×NameKind)}(h:(names.map (·.1)).Nodup):((uG env names).map (·.1)).Nodup:=by
 unfold uG;refine wr List.map_reverse (wr List.map_map ?_);refine List.pairwise_reverse.mpr ?_;have:((names.filter (·.2==.free)).map (·.1)).Nodup:=h.sublist ((List.filter_sublist).map _);exact this.imp λh=>h.symm
theorem cV.sameBut {a:Addr}{h':Heap}(f:cV b s.heap Φ ρ env) (sb:Heap.SameBut a s.heap h') (n1:a≠env.locals) (n2:∀x c,(x,c)∈env.cells->c≠a):cV b h' Φ ρ env:=by
 refine⟨f.kind,f.glob,f.bi,?_,λy hy hs=>?_,f.p7,f.oR,f.yj,f.vT,f.apart,f.hJ,λy c hm=>(f.iN y c hm).imp λo e=>(sb.2 c (n2 y c hm)).trans e⟩
 .refine bW f.ns λm hn hv=>⟨m,fG hn λo e=>(sb.2 _ n1.symm).trans e,hv⟩
 .refine bV (f.cell y hy hs) λc cv e hc hv=>⟨c,cv,e,dj hc λo e'=>(sb.2 _ (n2 y c (mem_of_lookup e))).trans e',hv⟩
theorem dw.sameBut {a:Addr}{h':Heap}{tk:Nat}(x:dw X Φ s Φ1 s1) (sb:Heap.SameBut a s1.heap h') (n:s.heap.get? a=none) (hX:¬X a):dw X Φ s Φ1 {s1 with heap:=h',toks:=tk}:=by
 refine⟨x.pre,x.new,λc o e u q=>(sb.2 c ?_).trans (x.keep c o e u q),λc q oe=>xE oe λo e=>?_,x.gens,x.drawn,x.os⟩
 .rintro rfl;rw[n] at e;exact ns e
 .refine xE (x.xs c q ⟨o,e⟩) λo' e'=>⟨o',(sb.2 c λq'=>hX (q'▸q)).trans e'⟩
theorem dw.drop (x:dw X Φ s Φ1 s1) (n:∀a,X a->s.heap.get? a=none):dw cQ Φ s Φ1 s1:=
 ⟨x.pre,x.new,λc o e u u_=>x.keep c o e u λq=>(by rw[n c q] at e;exact ns e),λu_ q=>q.elim,x.gens,x.drawn,x.os⟩
theorem RH.ik {a:Addr}(r:RH b s.heap Φ H) (n:s.heap.get? a=none):pX Φ a:=by
 intro m p hm;refine xA (r.live m p hm) λz1 z2=>?_;obtain⟨o1,h1⟩:=z1;obtain⟨o2,h2⟩:=z2
 constructor
 .rintro rfl;rw[n] at h1;exact ns h1
 .rintro rfl;rw[n] at h2;exact ns h2
theorem dw.loc {Y:Addr->Prop}{a:Addr}{H1:AH}(r:RH b s.heap Φ H) (x:dw cQ Φ s Φ1 s1) (y:dw Y Φ1 s1 Φ2 s2) (r2:RH b s2.heap Φ2 H1) (n:∀a,Y a->s.heap.get? a=none):dw cQ Φ s Φ2 s2:=
 let _:=a
 ((x.Gr (X:=Y) λa q=>r.ik (n a q)).trans y r2).drop n
theorem RH.adopt {h:Heap}{o:O}{ob:Obj}{D:Addr}(r:RH b h Φ H) (u:pX Φ D) (nb:b.h.get? D=none) (g:h.get? D=some ob) (f:fits o=true) (x:OR b h (Φ++[(D,D)]) (D,D) o):RH b h (Φ++[(D,D)]) (H.add o):=by
 refine⟨?_,λn q e=>?_,λn e=>?_,λn m q q' hne e e'=>?_,λn q e=>?_,r.base,λn q e=>?_⟩
 .refine wr List.length_append (wr r.len ?_);rfl
 .rcases cX e with⟨hn,e⟩|⟨rfl,rfl⟩
  .refine be (r.obj n q e) λo' h1 h2 h3=>⟨o',?_,h2,h3.mono (bT _ _)⟩;show(bif Nat.beq n H.nx then some o else H.at_ n)=some o';refine wr (show Nat.beq n H.nx=false from nU (Nat.ne_of_lt (r.len▸hn)))<|h1
  .refine⟨o,?_,f,x⟩;show(bif Nat.beq Φ.length H.nx then some o else H.at_ _)=some o;refine wr r.len (wr (show Nat.beq H.nx H.nx=true from Nat.beq_refl _) ?_);rfl
 .have hn:Φ.length<n:=by
   have:=List.getElem?_eq_none_iff.mp e;rw[List.length_append] at this;exact this
  show(bif Nat.beq n H.nx then some o else H.at_ n)=none;refine wr (show Nat.beq n H.nx=false from nU (Nat.ne_of_gt (r.len▸hn)))<|r.out n (List.getElem?_eq_none_iff.mpr (Nat.le_of_lt hn))
 .rcases cX e with⟨hn,e1⟩|⟨hn,hq⟩<;>rcases cX e' with⟨hm,e1'⟩|⟨hm,hq'⟩
  .exact r.apart n m q q' hne e1 e1'
  .have:=u n q e1;refine wr hq'<|⟨this.1.symm,this.1.symm,this.2.symm,this.2.symm⟩
  .have:=u m q' e1';refine wr hq<|⟨this.1,this.2,this.1,this.2⟩
  .exact absurd (hn.trans hm.symm) hne
 .rcases cX e with⟨hn,e⟩|⟨rfl,rfl⟩
  .exact r.fresh n q e
  .exact⟨nb,nb⟩
 .rcases cX e with⟨hn,e⟩|⟨rfl,rfl⟩
  .exact r.live n q e
  .exact⟨⟨_,g⟩,⟨_,g⟩⟩
theorem dw.adopt {D:Addr}(x:dw X Φ s Φ1 s1) (n:s.heap.get? D=none):dw X Φ s (Φ1++[(D,D)]) s1:=
 ⟨x.pre.trans (bT _ _),λm q e e'=>by
  rcases cX e' with⟨hm,e'⟩|⟨rfl,rfl⟩
  .exact x.new m q e e'
  .exact⟨n,n⟩,x.keep,x.xs,x.gens,x.drawn,x.os⟩
theorem zJ (names:List (Str×NameKind)) (x:Str):
  (names.map λ(n,k)=>if(k==NameKind.free&&env.scope.kind==.function&&env.kindOf n==some .cell) then(n,NameKind.cell) else(n,k)).lookup x=
   (names.lookup x).map λk=>if(k==NameKind.free&&env.scope.kind==.function&&env.kindOf x==some .cell) then NameKind.cell else k:=by
 induction names with
 |nil=>rfl
 |cons p r ih=>
  obtain⟨n,kd⟩:=p;rw[List.map_cons,List.lookup_cons]
  by_cases hx:x=n
  .subst hx
   by_cases hc:(kd==NameKind.free&&env.scope.kind==.function&&env.kindOf x==some .cell)=true
   .dsimp only;rw[if_pos hc,List.lookup_cons_self,beq_self_eq_true];dsimp only;exact wr (Option.map_some _ _) (wr (if_pos hc) rfl)
   .dsimp only;rw[if_neg hc,List.lookup_cons_self,beq_self_eq_true];dsimp only;exact wr (Option.map_some _ _) (wr (if_neg hc) rfl)
  .have hb:(x==n)=false:=beq_eq_false_iff_ne.mpr hx;dsimp only;refine wr (show(if(kd==NameKind.free&&env.scope.kind==.function&&env.kindOf n==some .cell)=true then(n,NameKind.cell) else(n,kd)).1=n from by split<;>rfl) (wr hb ?_);refine wr (List.lookup_cons (as:=r)) (wr hb ?_);exact ih
end
end Mi
namespace Mi
open PySem PySem.W PyProof.Rows PySem.SeqAt
section
variable {prog:Program}{w:World}{A:Around}{b:Bs}{X:Addr->Prop}{Φ Φ1 Φ2:Fi}{s s1 s2:Shared}{H H':AH}{sc csc:Scope}{ρ ρ':ao}{env:Env}{k:Nat}{L:Lv}{tab:Tab}
structure Hv (sc csc:Scope) (ρ:ao):Prop where
 nd:(csc.names.map (·.1)).Nodup
 fn:csc.kind=.function
 free:∀x,(x,NameKind.free)∈csc.names->(sc.names.lookup x=some .cell\/sc.names.lookup x=some .free)/\(ρ.lookup x).isSome=true
 vQ:∀p∈csc.names,p.2≠.cell
theorem oN (h:wM sc csc ρ=true):Hv sc csc ρ:=by
 unfold wM at h;refine xA (Bool.and_eq_true_iff.mp h) λh h3=>xA (Bool.and_eq_true_iff.mp h) λh1 h2=>?_;have h3:=List.all_eq_true.mp h3;refine⟨of_decide_eq_true h1,eq_of_beq h2,λx hx=>?_,λp hp hc=>?_⟩
 .have:=h3 _ hx;dsimp only at this;refine xA (Bool.and_eq_true_iff.mp this) λg1 g2=>⟨?_,g2⟩;revert g1;generalize sc.names.lookup x=o_;rcases o_ with _|kd
  .intro g1;exact nb g1
  .intro g1;induction kd<;>first|exact nb g1;done|exact .inl rfl|exact .inr rfl
 .have:=h3 _ hp;obtain⟨n,kd⟩:=p;dsimp only at hc;subst hc;exact nb this
theorem uu {x:Str}{kd:NameKind}:∀{l:List (Str×NameKind)},(l.map (·.1)).Nodup->(x,kd)∈l->l.lookup x=some kd:=by
 intro l h hm;refine lookup_all hm λc hc=>?_
 induction l with
 |nil=>exact nm hm
 |cons p l ih=>
  obtain⟨n,q⟩:=p;rw[List.map_cons,List.nodup_cons] at h
  cases hm with
  |head=>
   cases hc with
   |head=>rfl
   |tail _ hc=>exact absurd (List.mem_map_of_mem hc) h.1
  |tail _ hm=>
   cases hc with
   |head=>exact absurd (List.mem_map_of_mem hm) h.1
   |tail _ hc=>exact ih h.2 hm hc
theorem lookup_mem {x:Str}{kd:NameKind}{l:List (Str×NameKind)}(h:l.lookup x=some kd):(x,kd)∈l:=mem_of_lookup h
theorem fi {binds:List (Str×V)}(x:Str):(own csc binds).lookup x=bif Dy (csc.names.lookup x) then some (binds.lookup x) else none:=by
 have key:∀l:List (Str×NameKind),(l.filterMap λp=>bif Dy (csc.names.lookup p.1) then some (p.1,binds.lookup p.1) else none).lookup x=bif (l.lookup x).isSome&&Dy (csc.names.lookup x) then some (binds.lookup x) else none:=by
  intro l
  induction l with
  |nil=>rfl
  |cons p r ih=>
   refine wr List.filterMap_cons (wr List.lookup_cons ?_)
   rcases hx:x==p.1 with _|_
   .induction (Dy (csc.names.lookup p.1))
    .exact ih
    .exact(List.lookup_cons ..).trans (by refine wr hx ?_;exact ih)
   .refine wr ((eq_of_beq hx).symm) ?_
    cases q:Dy (csc.names.lookup x)
    .rw[q] at ih;exact ih.trans (by refine wr (Bool.and_false _) ?_;rfl)
    .exact List.lookup_cons_self
 refine(key csc.names).trans ?_
 rcases csc.names.lookup x with _|_<;>rfl
theorem rm {x:Str}{l m:ao}:(l++m).lookup x=(l.lookup x).or (m.lookup x):=List.lookup_append
theorem AE {C:Addr}{h:Heap}(f:cV b s.heap Φ ρ env) (r:RH b s.heap Φ H) (c:gA sc env) (K:Hv sc csc ρ) (hC:s.heap.get? C=none) (k:∀a o,s.heap.get? a=some o->h.get? a=some o) (hn:h.Ns C λu_=>none):
  cV b h Φ (own csc []++ρ) (compEnvC csc (uG env csc.names) C env)/\gA csc (compEnvC csc (uG env csc.names) C env):=by
 have cellOf:∀x a,(x,a)∈uG env csc.names->(x,NameKind.free)∈csc.names/\env.cells.lookup x=some a/\∃cv,s.heap.IsCell a cv/\∀v,ρ.lookup x=some (some v)->∃c,cv=some c/\VR b Φ v c:=by
  intro x a hm;refine xA (wN hm) λh1 h2=>xA (K.free x h1) λh3 h4=>?_;have hk:env.kindOf x=some .cell\/env.kindOf x=some .free:=by
   rcases h3 with q|q
   .exact .inl (c.cell x q)
   .exact c.free x q
  refine bV (f.cell x hk h4) λa' cv e1 e2 e3=>?_;rw[e1] at h2;have:a=a':=h2;subst this;exact⟨h1,e1,cv,e2,e3⟩
 have kind:∀x,(compEnvC csc (uG env csc.names) C env).kindOf x=(csc.names.lookup x).map λk=>if(k==NameKind.free&&env.scope.kind==.function&&env.kindOf x==some .cell) then NameKind.cell else k:=λx=>zJ _ _
 have nb:b.h.get? C=none:=r.nb hC;refine⟨⟨?_,f.glob,f.bi,⟨_,hn,λx v hk hl=>?_⟩,λx hk hs=>?_,r.ik hC,λx a hm=>?_,nb,λx a hm=>?_,?_,λx a hm=>?_,λx a hm=>?_⟩,⟨λx hx=>?_,λx hx=>?_,λx hx=>?_,λx hx=>?_⟩⟩
 .show(relabel csc env).kind=.function;exact K.fn
 .exfalso
  rw[kind] at hk;rw[rm,fi] at hl
  rcases q:csc.names.lookup x with _|kd
  .rw[q] at hk;exact ns hk
  .rw[q] at hk hl;rw[Option.map_some] at hk
   split at hk
   .cases hk
   .obtain rfl:=Option.some.inj hk;cases hl
 .rw[kind] at hk;rw[rm,fi] at hs;have hfree:csc.names.lookup x=some .free:=by
   rcases q:csc.names.lookup x with _|kd
   .rw[q] at hk;rcases hk with hk|hk<;>exact ns hk
   .rw[q,Option.map_some] at hk;have nc:=K.vQ _ (lookup_mem q)
    split at hk
    .rename_i z;simp only[Bool.and_eq_true,beq_iff_eq] at z;exact wr z.1.1 rfl
    .rcases hk with hk|hk
     .obtain rfl:=Option.some.inj hk;exact absurd rfl nc
     .obtain rfl:=Option.some.inj hk;rfl
  have hm:=Gz (env:=env) (lookup_mem hfree);refine JW (cellOf x _ hm) λh1 h2 cv h3 h4=>⟨_,cv,lookup_all hm λc' hc'=>(wN hc').2,dj h3 λo e=>k _ _ e,λv hl=>?_⟩;rw[rm,fi,hfree] at hl;exact h4 v hl
 .refine mE (cellOf x a hm) λu_ h2 u_=>?_;exact f.oR x a (mem_of_lookup h2)
 .refine mE (cellOf x a hm) λu_ h2 u_=>?_;exact f.vT x a (mem_of_lookup h2)
 .have hk:=Fj (env:=env) K.nd;have hk':(uG env csc.names).Pairwise λx y=>x.1≠y.1:=by
   rw[List.Nodup,List.pairwise_map] at hk;exact hk
  refine hk'.imp_of_mem λ{p q} hp hq hne e=>?_;obtain⟨x,a⟩:=p;obtain⟨y,a'⟩:=q;dsimp only at e hne;subst e;refine mE (cellOf x a hp) λu_ h2 u_=>mE (cellOf y a hq) λu_ h3 u_=>hne (uH f.apart (mem_of_lookup h2) (mem_of_lookup h3))
 .intro e;have e:a=C:=e;refine mE (cellOf x _ hm) λu_ h2 u_=>xE (f.iN x _ (mem_of_lookup h2)) λo e'=>?_;rw[e,hC] at e';exact ns e'
 .refine mE (cellOf x a hm) λu_ h2 u_=>xE (f.iN x a (mem_of_lookup h2)) λo e=>⟨o,k _ _ e⟩
 .refine wr (kind _) (wr hx ?_);rfl
 .exact absurd rfl (K.vQ _ (lookup_mem hx))
 .refine wr (kind _) (wr hx (wr (Option.map_some _ _) ?_))
  split
  .exact .inl rfl
  .exact .inr rfl
 .refine wr (kind _) (wr hx ?_);rfl
theorem De {elt t iter:Expr}{ifs:List Expr}{cscope:Scope}{pos:Pos}{it acc:Value}{cenv:Env}{R:Result->Shared->Prop}(I:Nat->Shared->Prop)
  (turn:∀n s,I n s->wpAny (model prog w) A (pyNext it) (λr s₁=>match r with
   |none=>R (.ok .next) s₁
   |some v=>wpAny (model prog w) A (letOwnedTupleGo t it v) (λu_ s₁=>wpAny (model prog w) A (assign t cenv v) (λu_ s₂=>
     wpAny (model prog w) A (forIn ifs true λc r=>if r=true then do let ok<-isTrue c cenv (eval c cenv);pure (ForInStep.yield ok) else pure (ForInStep.yield r)) (λok s₃=>
      if ok=true then wpAny (model prog w) A (eval elt cenv) (λx s₄=>
       wpAny (model prog w) A (call (.builtin "list.append") [acc,x]) (λu_ s₅=>∃m,m<n/\I m s₅) no s₄) no s₃
      else∃m,m<n/\I m s₃) no s₂) no s₁) no s₁) no s)
  (n:Nat) (h:I n s):codeAny (model prog w) A (.compLoop (.ListComp elt [⟨t,iter,ifs,0⟩] cscope pos) 0 it acc cenv) R s:=by
 refine codeAny_loop rfl I (λn s hI=>?_) n h;show wpAny _ A ((compTurn (.ListComp elt [⟨t,iter,ifs,0⟩] cscope pos) 0 it acc cenv).onRaise (λx=>do noteFrame x cenv;theTreesLotGoes x)) _ _ s;refine wpAny_noted<|wr (compTurn_list _ _ _ _ _ _ _ _ _)<|wpAny_bind (wpAny_standAt (cG (turn n s hI) λr s₁ h₁=>?_))
 induction r with
 |none=>exact wpAny_pure h₁
 |some v=>
  refine cG h₁ λu_ s₁ h₁=>cG h₁ λu_ s₂ h₂=>cG h₂ λok s₃ h₃=>?_
  induction ok with
  |false=>exact wpAny_pure ⟨rfl,h₃⟩
  |true=>
   exact wpAny_bind (cG h₃ λx s₄ h₄=>cG h₄ λu_ s₅ h₅=>wpAny_pure (wpAny_pure ⟨rfl,h₅⟩))
end
end Mi
namespace Mi
open PySem PySem.W PyProof.Rows PySem.SeqAt
section
variable {prog:Program}{w:World}{A:Around}{b:Bs}{X:Addr->Prop}{Φ Φ1 Φ2:Fi}{s s1 s2:Shared}{H H' H2:AH}{sc csc:Scope}{ρ ρ':ao}{env:Env}{k:Nat}{L:Lv}{tab:Tab}
theorem CX {p:Addr×Addr}{o:O}{I:Addr}{i:Nat}{Q:Value->Shared->Prop}{E:Value->Shared->Prop}(x:zi s.heap p o I i) (h:Q (.ref I) s):wpAny (model prog w) A (pyIter (.ref I)) Q E s:=by
 induction o<;>try exact x.elim
 .exact wpAny_pyIter_listiter x h
 .refine be x λo h1 h2 h3=>wpAny_pyIter_tupleiter ⟨o,h1,h2,h3⟩ h
 .have x:IsRangeIter s.heap I i (_-i) 1:=x;have hT:s.TypeIs (.ref I) "range_iterator":=⟨_,x,rfl⟩;refine wpAny_pyIter_slot hT F.slot_range_iterator_iter (wpAny_call_entry F.slot_range_iterator_iter hT F.entry_range_iterator_iter ?_ (F.args_range_iterator_iter_1 _));show wpAny _ _ (ret (.ref I)) _ _ s;exact wpAny_pure ⟨_,rfl,"range_iterator",_,hT,F.slot_range_iterator_next.lookup,h⟩
noncomputable def CompEnd (b:Bs) (Φ:Fi) (s:Shared) (H2:AH) (out:List V) (D C:Addr) (s':Shared):Prop:=
 s.heap.get? D=none/\s.heap.get? C=none/\D≠C/\∃Φ' vs n m,RH b s'.heap Φ' H2/\dw cQ Φ s Φ' s'/\pX Φ' D/\pX Φ' C/\s'.heap.get? D=some (listOf (List.toArray vs) n)/\dF b Φ' out vs/\s'.heap.Ns C m
theorem CompEnd.ns {out:List V}{D C:Addr}{s':Shared}(x:CompEnd b Φ s H2 out D C s'):∃m,s'.heap.Ns C m:=by
 obtain⟨-,-,-,_,_,_,m,-,-,-,-,-,-,h⟩:=x;exact⟨m,h⟩
theorem lG {h h':Heap}(k:∀a o,h.get? a=some o->h'.get? a=some o):h.get? h'.objs.size=none:=by
 rcases q:h.get? h'.objs.size with _|o
 .rfl
 .exact absurd (Heap.lt_size (k _ _ q)) (Nat.lt_irrefl _)
theorem Dr {D:Addr}{vs:List Value}{n:Nat}{c:Value}{Q:Value->Shared->Prop}{E:Value->Shared->Prop}(g:s.heap.get? D=some (listOf vs.toArray n)) (hl:vs.length<=1000)
  (h:∀h' n',h'.get? D=some (listOf (vs++[c]).toArray n')->Heap.SameBut D s.heap h'->Q .none {s with heap:=h'}):wpAny (model prog w) A (call (.builtin "list.append") [.ref D,c]) Q E s:=by
 refine call_meets PySem.F.slot_list_append ⟨_,g,rfl⟩ PySem.F.entry_list_append (args_list_append _ _) (AutoListH.list_append_list_val_0 D vs.toArray n c (by refine wr List.size_toArray (wr sizeLine_eq ?_);exact Nat.le_add_left_of_le (by assumption))) ⟨g,?_⟩;obtain⟨m2,upd⟩:∃m2,(listOf vs.toArray n).mapSeq (λx=>x.push c)=listOf (vs++[c]).toArray m2:=⟨_,by unfold Obj.mapSeq;simp;rfl⟩;have hg:(s.heap.update D (Obj.mapSeq (λx=>x.push c))).get? D=some (listOf (vs++[c]).toArray m2):=by
  refine wr (upd.symm) ?_;exact Heap.get?_update_self _ g (by refine wr upd ?_;rfl)
 exact h _ m2 hg (Heap.SameBut.update ..)
theorem GN {o:O}{kl:Nat×List V}(h:Bp o=some kl) (f:fits o=true):kl.2.length<=1000:=by
 induction o<;>try exact ns h
 .obtain rfl:=Option.some.inj h;exact Nat.le_of_ble_eq_true f
 .obtain rfl:=Option.some.inj h;exact Nat.le_of_ble_eq_true f
 .rename_i k;obtain rfl:=Option.some.inj h;have f:(decide (0<=k)&&decide (k<=1000))=true:=f;refine wr (List.length_map _) (wr List.length_range ?_);exact Int.toNat_le.mpr (of_decide_eq_true (Bool.and_eq_true_iff.mp f).2)
structure CI (b:Bs) (L:Lv) (csc:Scope) (cenv:Env) (s:Shared) (Φ:Fi) (D I:Addr) (p:Addr×Addr) (nn:Nat) (kl:Nat×List V) (t:Expr) (ifs:List Expr) (elt:Expr) (out:List V) (H2:AH) (o:O) (i:Nat) (s':Shared) (Φ':Fi) (vs:List Value) (m:Nat) (ρc:ao) (Hc:AH) (acc:List V):Prop where
 al:acc.length<=i
 r:RH b s'.heap Φ' Hc
 f:cV b s'.heap Φ' ρc cenv
 st:dw cQ Φ s Φ' s'
 uD:pX Φ' D
 uI:pX Φ' I
 gD:s'.heap.get? D=some (listOf (List.toArray vs) m)
 vs:dF b Φ' acc vs
 it:zi s'.heap p o I i
 go:gy L csc (.ref nn) kl t ifs elt ρc (kl.2.drop i) acc Hc=some (out,H2)
noncomputable def CL (b:Bs) (L:Lv) (csc:Scope) (cenv:Env) (s:Shared) (Φ:Fi) (D I:Addr) (p:Addr×Addr) (nn:Nat) (kl:Nat×List V) (t:Expr) (ifs:List Expr) (elt:Expr) (out:List V) (H2:AH) (o:O) (n:Nat) (s':Shared):Prop:=
 ∃i Φ' vs m ρc Hc acc,n=kl.2.length+1-i/\i<=kl.2.length/\CI b L csc cenv s Φ D I p nn kl t ifs elt out H2 o i s' Φ' vs m ρc Hc acc
section
variable {cenv:Env}{s':Shared}{Φ':Fi}{D I C:Addr}{p:Addr×Addr}{nn i m:Nat}{kl:Nat×List V}{t elt:Expr}{ifs:List Expr}{out acc:List V}{o:O}{vs:List Value}{ρc:ao}{Hc:AH}
theorem Ju (r:RH b s.heap Φ H) (nI:s.heap.get? I=none) (nC:s.heap.get? C=none) (nD:s.heap.get? D=none) (hDC:D≠C) (hDI:D≠I) (hIC:I≠C) (hloc:cenv.locals=C) (hkl:Bp o=some kl) (hfit:fits o=true) (c:CI b L csc cenv s Φ D I p nn kl t ifs elt out H2 o i s' Φ' vs m ρc Hc acc) (hp:Φ'[nn]? =some p) (hle:kl.2.length<=i):
  Hc.at_ nn=some o/\∀s1:Shared,Heap.ExtBut I s'.heap s1.heap->s1={s' with heap:=s1.heap}->CompEnd b Φ s H2 out D C s1:=by
 have hgo:=c.go;rw[List.drop_of_length_le hle] at hgo;refine ai hgo λu H3 e1 e2=>?_;refine mC (rR e1) λz1 n1 o1 hn1 ho1 hk1=>?_;subst z1;obtain rfl:=V.ref.inj hn1;refine aw e2<|be (c.r.obj nn p hp) λo1' h1' hfit1 u_=>?_
 rw[ho1] at h1';obtain rfl:=Option.some.inj h1'
 cases rp hkl hk1 hfit hfit1
 refine⟨ho1,λs1 hx1 hs1=>?_⟩;have nb:b.h.get? I=none:=r.nb nI;have uI:=c.uI;have r':=c.r;have r1:RH b s1.heap Φ' H3:=⟨r'.len,λn q e=>(r'.obj n q e).elim λoo z=>⟨oo,z.1,z.2.1,z.2.2.keeps λa ob ha e'=>hx1 a ob (by
   have:=uI n q e
   rcases ha with rfl|rfl
   .exact this.1.symm
   .exact this.2.symm) e'⟩,r'.out,r'.apart,r'.fresh,λa oo e=>hx1 a oo (λq=>by rw[q,nb] at e;exact ns e) (r'.base a oo e),λn q e=>⟨(r'.live n q e).1.elim λo1 z1=>⟨o1,hx1 _ _ (uI n q e).1.symm z1⟩,(r'.live n q e).2.elim λo2 z2=>⟨o2,hx1 _ _ (uI n q e).2.symm z2⟩⟩⟩
 refine bW c.f.ns λmc hnC u_=>?_;rw[hloc] at hnC;have st:=c.st;refine⟨nD,nC,hDC,Φ',vs,m,mc,r1,?_,c.uD,hloc▸c.f.p7,hx1 _ _ hDI c.gD,c.vs,fG hnC λoo e=>hx1 _ _ hIC.symm e⟩;refine wr hs1 ?_;exact⟨st.pre,st.new,λa oo e u q=>hx1 a oo (λq=>by rw[q,nI] at e;exact ns e) (st.keep a oo e u q),λu_ q=>q.elim,st.gens,st.drawn,st.os⟩
end
theorem GU {itv:Nat}{kl:Nat×List V}{t elt:Expr}{ifs:List Expr}{ρc:ao}{x:V}{l acc:List V}{out:List V}{Φ':Fi}{p:Addr×Addr}{o:O}{Hc:AH}(h:gy L csc (.ref itv) kl t ifs elt ρc (x::l) acc Hc=some (out,H2)) (r:RH b s.heap Φ' Hc) (hp:Φ'[itv]? =some p) (hkl:Bp o=some kl) (hfit:fits o=true):
  ∃ρ1 H4 bt H5,Hc.at_ itv=some o/\gR csc t ρc x Hc=some (ρ1,H4)/\Ja L csc ρ1 ifs H4=some (bt,H5)/\(if bt=true then do let v<-L.E csc ρ1 elt;gy L csc (.ref itv) kl t ifs elt ρ1 l (acc++[v]) else gy L csc (.ref itv) kl t ifs elt ρ1 l acc:AM (List V)) H5=some (out,H2):=by
 refine ai h λu H3 e1 e2=>?_;refine mC (rR e1) λz4 n1 o1 hn1 ho1 hk1=>?_;subst z4;obtain rfl:=V.ref.inj hn1;refine be (r.obj _ p hp) λo1' h1' hfit1 u_=>?_;rw[ho1] at h1';obtain rfl:=Option.some.inj h1'
 cases rp hkl hk1 hfit hfit1
 refine ai e2 λρ1 H4 e3 e4=>ai e4 λbt H5 e5 e6=>⟨ρ1,H4,bt,H5,ho1,e3,e5,e6⟩
section
variable {cenv:Env}{s':Shared}{Φ':Fi}{D I C:Addr}{p:Addr×Addr}{nn i m:Nat}{kl:Nat×List V}{t elt:Expr}{ifs:List Expr}{out acc:List V}{o:O}{vs:List Value}{ρc:ao}{Hc:AH}
theorem Dd {R:Result->Shared->Prop}(O:jY prog w b k L) (hA:cC k A) (r:RH b s.heap Φ H) (nI:s.heap.get? I=none) (nC:s.heap.get? C=none) (nD:s.heap.get? D=none) (hDC:D≠C) (hDI:D≠I) (hIC:I≠C) (hloc:cenv.locals=C) (SR:gA csc cenv) (Z:pA (λa=>a=C) csc cenv)
  (cellNe:∀a,s.heap.get? a=none->∀x c,(x,c)∈cenv.cells->c≠a) (hp:Φ[nn]? =some p) (hkl:Bp o=some kl) (hfit:fits o=true) (hlen:kl.2.length<=1000) (hR:∀s1,CompEnd b Φ s H2 out D C s1->R (.ok .next) s1) (hi:i<=kl.2.length) (c:CI b L csc cenv s Φ D I p nn kl t ifs elt out H2 o i s' Φ' vs m ρc Hc acc):
  wpAny (model prog w) A (pyNext (.ref I)) (λr s₁=>match r with
   |none=>R (.ok .next) s₁
   |some v=>wpAny (model prog w) A (letOwnedTupleGo t (.ref I) v) (λu_ s₁=>wpAny (model prog w) A (assign t cenv v) (λu_ s₂=>
     wpAny (model prog w) A (forIn ifs true λc r=>if r=true then do let ok<-isTrue c cenv (eval c cenv);pure (ForInStep.yield ok) else pure (ForInStep.yield r)) (λok s₃=>
      if ok=true then wpAny (model prog w) A (eval elt cenv) (λx s₄=>
       wpAny (model prog w) A (call (.builtin "list.append") [.ref D,x]) (λu_ s₅=>∃m,m<kl.2.length+1-i/\CL b L csc cenv s Φ D I p nn kl t ifs elt out H2 o m s₅) no s₄) no s₃
      else∃m,m<kl.2.length+1-i/\CL b L csc cenv s Φ D I p nn kl t ifs elt out H2 o m s₃) no s₂) no s₁) no s₁) no s':=by
 have hp':Φ'[nn]? =some p:=Fi.gO c.st.pre hp
 rcases hx:kl.2[i]? with _|x
 .have hle:kl.2.length<=i:=List.getElem?_eq_none_iff.mp hx;have e:=Ju r nI nC nD hDC hDI hIC hloc hkl hfit c hp' hle;refine bS (next_end hA.hand c.r hp' e.1 hkl c.it hle) λrr s1 z=>mE z λhr hx1 hs1=>?_;subst hr;exact hR s1 (e.2 s1 hx1 hs1)
 .have hlt:i<kl.2.length:=(List.getElem?_eq_some_iff.mp hx).1;have hdrop:kl.2.drop i=x::kl.2.drop (i+1):=by
   have:=(List.getElem?_eq_some_iff.mp hx).2;refine wr (this.symm) ?_;exact List.drop_eq_getElem_cons hlt
  have hgo:=c.go;rw[hdrop] at hgo;refine ed (GU hgo c.r hp' hkl hfit) λρ1 H4 bt H5 ho1 e3 e5 e6=>bS (Bd c.r hp' ho1 hkl c.it hx) λrr s1 z=>AX z λcx hr rx hIt1 sb1 tk1 hs1=>?_;subst hr;have nb:∀a,s.heap.get? a=none->b.h.get? a=none:=λa e=>r.nb e;have r1:RH b s1.heap Φ' Hc:=c.r.sameBut sb1 c.uI (nb _ nI);have f1:cV b s1.heap Φ' ρc cenv:=c.f.sameBut sb1 (by refine wr hloc ?_;exact hIC) (cellNe I nI);have st1:dw cQ Φ s Φ' s1:=by refine wr hs1 ?_;exact c.st.sameBut sb1 nI (λq=>q)
  have gD1:=(sb1.2 D hDI).trans c.gD;refine xX hIt1<|xA (wU (prog:=prog) (w:=w) (A:=A) hA.hand r1 f1 SR Z rx e3) λhH4 bk=>?_
  subst hH4;refine bS bk λu_ s2 z=>mE z λf2 r2 st2=>?_;have st2':dw cQ Φ s Φ' s2:=dw.loc (a:=C) r st1 st2 r2 (by rintro a rfl;exact nC);have gD2:s2.heap.get? D=some (listOf (List.toArray vs) m):=st2.keep D _ gD1 c.uD hDC;have hIt2:zi s2.heap p o I (i+1):=hIt1.at' λob e=>st2.keep I ob e c.uI hIC;have after:∀{s3:Shared} {Φ3:Fi},RH b s3.heap Φ3 H5->dw cQ Φ' s2 Φ3 s3->
    if bt=true then wpAny (model prog w) A (eval elt cenv) (λx s₄=>wpAny (model prog w) A (call (.builtin "list.append") [.ref D,x]) (λu_ s₅=>∃m,m<kl.2.length+1-i/\CL b L csc cenv s Φ D I p nn kl t ifs elt out H2 o m s₅) no s₄) no s3
    else∃m,m<kl.2.length+1-i/\CL b L csc cenv s Φ D I p nn kl t ifs elt out H2 o m s3:=by
   intro s3 Φ3 r3 st3;have al:=c.al;have hn:kl.2.length+1-(i+1)<kl.2.length+1-i:=Nat.sub_lt_sub_left (Nat.lt_succ_of_lt hlt) (Nat.lt_succ_self i);have f3:cV b s3.heap Φ3 ρ1 cenv:=f2.cQ st3;have st3':dw cQ Φ s Φ3 s3:=st2'.trans st3 r3;have uD3:pX Φ3 D:=c.uD.on st3 ⟨_,gD2⟩;have uI3:pX Φ3 I:=c.uI.on st3 (let⟨ob,e,_⟩:=hIt2.obj;⟨ob,e⟩);have gD3:s3.heap.get? D=some (listOf (List.toArray vs) m):=st3.keep D _ gD2 c.uD λq=>q;have hIt3:zi s3.heap p o I (i+1):=hIt2.at' λob e=>st3.keep I ob e c.uI λq=>q;have hvs3:=c.vs.mono st3.pre
   induction bt with
   |false=>
    rw[if_neg Bool.false_ne_true] at e6⊢;exact⟨_,hn,i+1,Φ3,vs,m,ρ1,H5,acc,rfl,hlt,by exact Nat.le_add_right_of_le (by assumption),r3,f3,st3',uD3,uI3,gD3,hvs3,hIt3,e6⟩
   |true=>
    rw[if_pos rfl] at e6⊢;refine ai e6 λev H6 e7 e8=>gG (O.E hA r3 f3 SR e7) λcv s4 Φ4 x1 r4 st4=>?_;have hvl:vs.length<=1000:=by refine wr (hvs3.len.symm) ?_;lia
    refine Dr (st4.keep D _ gD3 uD3 λq=>q) hvl λh' n' gD5 sb5=>?_;have uD4:=uD3.on st4 ⟨_,gD3⟩;exact⟨_,hn,i+1,Φ4,vs++[cv],n',ρ1,H6,acc++[ev],rfl,hlt,by refine wr List.length_append (wr List.length_singleton ?_);lia,r4.sameBut sb5 uD4 (nb _ nD),(f3.cQ st4).sameBut sb5 (by refine wr hloc ?_;exact hDC) (cellNe D nD),(st3'.trans st4 r4).sameBut sb5 nD (λq=>q),uD4,uI3.on st4 (let⟨ob,e,_⟩:=hIt3.obj;⟨ob,e⟩),gD5,(hvs3.mono st4.pre).app (dF.one x1),(hIt3.at' λob e=>st4.keep I ob e uI3 λq=>q).at' λob e=>(sb5.2 I hDI.symm).trans e,e8⟩
  rcases ifs with _|⟨cnd,rest⟩
  .refine xA (bL e5) λz5 z6=>?_;subst z5;subst z6;exact wpAny_tests_nil (after r2 (.refl _ _ _))
  .rcases rest with _|_
   .exact wpAny_tests_one (DB (O.T hA r2 f2 SR e5) λs3 Φ3 r3 st3=>after r3 st3)
   .exact ns e5
end
theorem rL {elt t iter:Expr}{ifs:List Expr}{pos:Pos}{itv:V}{itc:Value}{kl:Nat×List V}{out:List V}{RR:Value->Addr->Result->Shared->Prop}
  (O:jY prog w b k L) (hA:cC k A) (r:RH b s.heap Φ H) (f:cV b s.heap Φ ρ env) (c:gA sc env) (K:Hv sc csc ρ)
  (xi:VR b Φ itv itc) (ei:aF itv H=some (kl,H)) (ec:gy L csc itv kl t ifs elt (own csc []++ρ) kl.2 [] H=some (out,H2))
  (hRR:∀D C s',CompEnd b Φ s H2 out D C s'->RR (.ref D) C (.ok .next) s'):
  wpAny (model prog w) A (pyIter itc) (λit s₂=>wpAny (model prog w) A (newList []) (λacc s₃=>wpAny (model prog w) A (newFunctionEnv csc env.globals (uG env csc.names) [] env.qual none .none (some env)) (λcenv s₄=>
   codeAny (model prog w) A (.compStart (.ListComp elt [⟨t,iter,ifs,0⟩] csc pos) 0 it acc {cenv with scope:=relabel csc env}) (RR acc cenv.locals) s₄) no s₃) no s₂) no s:=by
 refine mC (ig ei) λu_ nn o z7 ho hkl=>?_;subst z7;refine bS (Bm r xi ho hkl) λit s₂ z=>uS z λp hp hit k2 hI2 hs2=>?_;subst hit;refine be (r.obj nn p hp) λo' h1' hfit u_=>?_;rw[ho] at h1';obtain rfl:=Option.some.inj h1';have hlen:kl.2.length<=1000:=GN hkl hfit;refine wpAny_newObj_type (wpAny_newFunctionEnv K.vQ (by intro y hy;simp at hy) (λh₁ hns₁ hsb₁=>?_) K.fn);dsimp only at hns₁ hsb₁⊢;have kH2:∀a o,s.heap.get? a=some o->(s₂.heap.push {cls:=.type "list",dict:=none,data:=.seq ([]:List Value).toArray}).get? a=some o:=λa o e=>Heap.get?_push_of_some _ (k2 a o e);generalize hI:s.heap.objs.size=I at hI2⊢;have nI:s.heap.get? I=none:=hI▸cW _;generalize hD:s₂.heap.objs.size=D;have nD:s.heap.get? D=none:=hD▸lG k2;generalize hCe:(s₂.heap.push {cls:=.type "list",dict:=none,data:=.seq ([]:List Value).toArray}).objs.size=C at hns₁ hsb₁⊢;have nC:s.heap.get? C=none:=hCe▸lG kH2;have gD:(s₂.heap.push {cls:=.type "list",dict:=none,data:=.seq ([]:List Value).toArray}).get? D=some (listOf (List.toArray []) 0):=by refine wr (hD.symm) ?_;exact Heap.get?_push_size _ rfl
 have hDC:D≠C:=by
  rintro rfl
  have:=Heap.lt_size gD;rw[hCe] at this;exact Nat.lt_irrefl _ this
 refine bW hI2.obj λobI gI u_=>?_;have hDI:D≠I:=by
  rintro rfl
  have:=Heap.lt_size gI;rw[hD] at this;exact Nat.lt_irrefl _ this
 have hIC:I≠C:=by
  rintro rfl
  have:=Heap.lt_size (Heap.get?_push_of_some {cls:=.type "list",dict:=none,data:=.seq ([]:List Value).toArray} gI);rw[hCe] at this;exact Nat.lt_irrefl _ this
 have k4:∀a o,a≠C->(s₂.heap.push {cls:=.type "list",dict:=none,data:=.seq ([]:List Value).toArray}).get? a=some o->h₁.get? a=some o:=λa o hn e=>hsb₁.extBut a o hn (Heap.get?_push_of_some _ e);have k1:∀a o,s.heap.get? a=some o->h₁.get? a=some o:=λa o e=>k4 a o (by rintro rfl;rw[nC] at e;exact ns e) (kH2 a o e);have hns:h₁.Ns C λu_=>none:=hns₁;refine xA (AE f r c K nC k1 hns) λF0 SR=>?_;have he:(newEnv csc C env.globals (uG env csc.names) env.qual none .none (some env) builtinsNs)={compEnvC csc (uG env csc.names) C env with scope:=csc}:=rfl;show codeAny (model prog w) A (.compStart (.ListComp elt [⟨t,iter,ifs,0⟩] csc pos) 0 (.ref I) (.ref D) (compEnvC csc (uG env csc.names) C env)) (RR (.ref D) C) _;generalize hcenv:compEnvC csc (uG env csc.names) C env=cenv at F0 SR;have hloc:cenv.locals=C:=by refine wr (hcenv.symm) ?_;rfl
 have hcl:∀x c,(x,c)∈cenv.cells->∃o,s.heap.get? c=some o:=by
  refine wr (hcenv.symm) ?_;intro x cc hm;refine xA (wN hm) λh1 h2=>xA (K.free x h1) λh3 h4=>?_;have hk:env.kindOf x=some .cell\/env.kindOf x=some .free:=by
   rcases h3 with q|q
   .exact .inl (c.cell x q)
   .exact c.free x q
  refine bV (f.cell x hk h4) λa' cv e1 e2 e3=>?_;rw[e1] at h2;have:cc=a':=h2;subst this;exact f.iN x cc (mem_of_lookup e1)
 have cellNe:∀a,s.heap.get? a=none->∀x c,(x,c)∈cenv.cells->c≠a:=λa na x c hm q=>by
  refine xE (hcl x c hm) λo e=>?_;rw[q,na] at e;exact ns e
 have Z:pA (λa=>a=C) csc cenv:=⟨hloc,λx hx a u_=>absurd rfl (K.vQ _ (lookup_mem hx))⟩;have nb:∀a,s.heap.get? a=none->b.h.get? a=none:=λa e=>r.nb e;have hI1:zi h₁ p o I 0:=(hI2.at' λob e=>Heap.get?_push_of_some _ e).at' λob e=>k4 _ _ hIC e;have gD1:h₁.get? D=some (listOf (List.toArray []) 0):=k4 _ _ hDC gD;have loop:codeAny (model prog w) A (.compLoop (.ListComp elt [⟨t,iter,ifs,0⟩] csc pos) 0 (.ref I) (.ref D) cenv) (RR (.ref D) C) {s₂ with heap:=h₁,toks:=s₂.toks+([]:List (Str×Value)).length}:=by
  refine De (CL b L csc cenv s Φ D I p nn kl t ifs elt out H2 o) ?_ (kl.2.length+1) ⟨0,Φ,[],0,_,H,[],rfl,Nat.zero_le _,Nat.le_refl _,r.grow k1,F0,?_,r.ik nD,r.ik nI,gD1,trivial,hI1,ec⟩
  .rintro n s' ⟨i,Φ',vs,m,ρc,Hc,acc,rfl,hi,ci⟩
   exact Dd O hA r nI nC nD hDC hDI hIC hloc SR Z cellNe hp hkl hfit hlen (hRR D C) hi ci
  .refine⟨List.prefix_refl _,λn q e e'=>(by rw[e] at e';exact ns e'),λa oo e u_ u_=>k1 a oo e,λu_ q=>q.elim,?_,?_,?_⟩
   .show s₂.gens=s.gens;exact wr hs2 rfl
   .show s₂.drawn=s.drawn;exact wr hs2 rfl
   .show s₂.os=s.os;exact wr hs2 rfl
 refine codeAny_compStart_list ?_ ?_
 .exact loop
 .exact CX hI1 loop
end
end Mi
namespace Mi
open PySem PySem.W PyProof.Rows PySem.SeqAt
section
variable {prog:Program}{w:World}{A:Around}{b:Bs}{X:Addr->Prop}{Φ Φ1 Φ2:Fi}{s s1 s2:Shared}{H H' H2:AH}{sc csc:Scope}{ρ ρ':ao}{env:Env}{k:Nat}{L:Lv}{tab:Tab}
theorem iG {e:Expr}(h:i9 e=true):∀x,foldedSetIterable e env x=pure x:=by
 intro x;revert h;refine Expr.casesOn e ?_ ?_ ?_ ?_ ?_ ?_ ?_ ?_ ?_ ?_ ?_ ?_ ?_ ?_ ?_ ?_ ?_ ?_ ?_ ?_ ?_ ?_ ?_ ?_ ?_ ?_ ?_<;>(repeat intro u_)<;>first|exact Eq.refl (pure x)|exact nb u_
theorem Fk (f:cV b s.heap Φ ρ env) (c:gA sc env) (K:Hv sc csc ρ):∀p∈csc.names,p.2=.free->∃a,env.cells.lookup p.1=some a:=by
 rintro⟨x,kd⟩ hp hk
 dsimp only at hk;subst hk;refine xA (K.free x hp) λh3 h4=>?_;have hk:env.kindOf x=some .cell\/env.kindOf x=some .free:=by
  rcases h3 with q|q
  .exact .inl (c.cell x q)
  .exact c.free x q
 refine cF (f.cell x hk h4) λa' cv e1 u_=>⟨a',e1⟩
theorem CompEnd.done {D C:Addr}{s':Shared}{out:List V}{v:V}{h':Heap}(x:CompEnd b Φ s H2 out D C s') (r:RH b s.heap Φ H) (e:ba (.list out) H2=some (v,H')) (sb:Heap.SameBut C s'.heap h'):
  Gt b cQ Φ s v H' (.ref D) {s' with heap:=h'}:=by
 obtain⟨nD,nC,hDC,Φ',vs,n,m,r',st,uD,uC,gD,hvs,hn⟩:=x;refine dR e λf=>?_;have nb:∀a,s.heap.get? a=none->b.h.get? a=none:=λa e=>r.nb e;have r1:RH b h' Φ' H2:=r'.sameBut sb uC (nb _ nC);have gD1:h'.get? D=some (listOf (List.toArray vs) n):=(sb.2 D hDC).trans gD;refine⟨Φ'++[(D,D)],⟨(D,D),?_,rfl⟩,r1.adopt uD (nb _ nD) gD1 f ⟨vs,n,gD1,hvs.mono (bT _ _)⟩,((st.sameBut (tk:=s'.toks) sb nC (λq=>q)).adopt nD)⟩;refine wr (r'.len.symm) ?_;exact nz _ _
theorem BD (O:jY prog w b k L) (hA:cC k A) (r:RH b s.heap Φ H) (f:cV b s.heap Φ ρ env) (c:gA sc env) {elt t iter:Expr}{ifs:List Expr}{pos:Pos}{v:V}
  (e:lY L sc ρ csc elt t iter ifs H=some (v,H')):wpAny (model prog w) A (eval (.ListComp elt [⟨t,iter,ifs,0⟩] csc pos) env) (Gt b cQ Φ s v H') no s:=by
 refine cD e λhn e=>ai e λitv H1 e1 e=>ai e λkl H2 e2 e4=>?_;refine xA (ig e2) λz3 u_=>?_;subst z3;refine cD e4 λhK e5=>ai e5 λout H3 e3 e6=>?_;have K:=oN hK;refine wr (eval_ListComp _ _ _ _)<|wpAny_comprehension_free (use:=none) rfl (iG hn) (BJ (Fk f c K)) K.fn (λx hx hl=>uu K.nd (hl▸hx))<|gG (O.E hA r f c e1) λitc s1 Φ1 x1 r1 st1=>rL (RR:=λacc C=>compPost (model prog w) A no none (Gt b cQ Φ s v H') acc C) O hA r1 (f.cQ st1) c K x1 e2 e3 λD C s' ce=>xE ce.ns λm hnC=>⟨m,hnC,λh' sb=>(ce.done r1 e6 sb).after st1⟩
theorem E7 {Q:Value->Shared->Prop}{E:Value->Shared->Prop}{M:Model}(h:wpAny M A newDict Q E s):wpAny M A (dictDisplay []) Q E s:=by
 unfold dictDisplay;dsimp only;refine wr List.forIn_nil<|wpAny_bind (wpAny_pure ?_)
 refine wpAny_bind (wpAny_pure ?_);exact h
theorem uv {o v:V}{x:Str}{es:List Expr}(e:eX tab L sc ρ o x es H=some (v,H')):(starEach es env).all (!·.1)=true:=
 uJ e (λu_ u_ u_ u_ u_ u_ u_ u_ u_ u_ e u_=>k5 e) λu_ u_ u_ u_ u_ u_ u_ u_ u_ u_ e u_ u_=>k5 e
theorem Hd {fn:Expr}{args:List Expr}{pos:Pos}{v:V}{G:Prop}(e:uK tab L sc ρ fn args pos H=some (v,H')) (k1:∀x,bI fn=some x->BM tab L sc ρ x args H=some (v,H')->G)
  (k2:∀ob g apos b vs H2,dq fn=some (ob,g,apos)->(apos.endLine==pos.line)=true->bI ob=some b->b="NAMES"->sc.names.lookup b=some .globalImplicit->g="index"->eJ L sc ρ args H=some (vs,H2)->eC vs H2=some (v,H')->G)
  (k3:∀ob g apos b o H1,dq fn=some (ob,g,apos)->(apos.endLine==pos.line)=true->bI ob=some b->nJ sc ρ b H=some (o,H1)->eX tab L sc ρ o g args H1=some (v,H')->G)
  (k4:∀ob g apos o1 g1 p1 o H1,dq fn=some (ob,g,apos)->(apos.endLine==pos.line)=true->dq ob=some (o1,g1,p1)->L.E sc ρ ob H=some (o,H1)->eX tab L sc ρ o g args H1=some (v,H')->G):G:=by
 revert e;unfold uK
 rcases h1:bI fn with _|x
 .rcases h2:dq fn with _|⟨ob,g,apos⟩
  .exact λe=>ag H e
  .refine λe=>cD e λhe e=>?_;revert e
   rcases h3:bI ob with _|b
   .rcases h4:dq ob with _|⟨o1,g1,p1⟩
    .exact λe=>ag H e
    .exact λe=>ai e λo H1 e1 e=>k4 ob g apos o1 g1 p1 o H1 h2 he h4 e1 e
   .refine λe=>rS e (λhb e=>fA e λhg hx e=>ai e λvs H2 e1 e=>?_) λu_ e=>ai e λo H1 e1 e=>?_
    .exact k2 ob g apos b vs H2 h2 he h3 (eq_of_beq hb) (GV hg) (eq_of_beq hx) e1 e
    .exact k3 ob g apos b o H1 h2 he h3 e1 e
 .exact k1 x h1
theorem Fv (B:fy b) (T:jt prog w b k tab) (O:jY prog w b k L) (hA:cC k A) (r:RH b s.heap Φ H) (f:cV b s.heap Φ ρ env) (c:gA sc env) {fn:Expr}{args:List Expr}{pos:Pos}{v:V}(hn:args.length<=10) (h:uK tab L sc ρ fn args pos H=some (v,H')):
  wpAny (model prog w) A (eval (.Call fn args [] pos) env) (Gt b cQ Φ s v H') no s:=by
 refine Hd h (λx h1 e=>jD h1 λp=>Fp B T O hA c r f e) (λob g apos bb vs H2 h1 h2 h3 hb hk hg e1 e=>jH h1 (jD h3 λp=>?a)) (λob g apos bb o H1 h1 h2 h3 e1 e=>jH h1 (jD h3 λp=>?c)) λob g apos o1 g1 p1 o H1 h1 h2 h3 e1 e=>jH h1 ?d
 case a=>
  refine m9 h2 hn (k5 e1) uP λpl=>jE B r f c hk (hb▸B.Mx) ?_;obtain⟨t1,t2,t3,t4,t5,n,gt⟩:=B.names;have gt:=r.base _ _ gt;refine wr hg ?_;refine getMethod_builtin (T:="tuple") ⟨_,gt,rfl⟩ PySem.F.plainAttrs_tuple PySem.F.slot_tuple_index PySem.F.type_tuple_index (λa e=>by cases e;exact⟨_,gt,rfl⟩) ?_;refine jl (P:=λu_=>True) O hA c r f (λh u_=>eR (by intro a q;exact FX q rfl) h) e1 λcs s' g=>be g λΦ1 x1 r1 st1=>⟨trivial,?_⟩;exact bS (te B r1 x1 e) λu_ u_ q=>q.after st1
 case c=>
  refine m9 h2 hn (uv e) uP λpl=>gG (Bg (X:=cQ) B r f c e1) λoc s1 Φ1 x1 r1 st1=>bS (oO B T O hA c r1 (f.cQ st1) x1 e) λfx s2 q=>bS q λu_ u_ q=>q.after st1
 case d=>
  have hb:attributeBase ob g env (eval ob env)=eval ob env:=jH h3 Dp;refine m9 h2 hn (uv e) hb λpl=>gG (O.E hA r f c e1) λoc s1 Φ1 x1 r1 st1=>bS (oO B T O hA c r1 (f.cQ st1) x1 e) λfx s2 q=>bS q λu_ u_ q=>q.after st1
theorem xu {i:Expr}{a c:Value}(hs:ew i=true):subscripted i false a c=operate [a,c] (getItem a c):=by
 revert hs;refine Expr.casesOn i ?_ ?_ ?_ ?_ ?_ ?_ ?_ ?_ ?_ ?_ ?_ ?_ ?_ ?_ ?_ ?_ ?_ ?_ ?_ ?_ ?_ ?_ ?_ ?_ ?_ ?_ ?_<;>(repeat intro u_)<;>first|exact Eq.refl (operate [a,c] (getItem a c))|exact nb u_
theorem B8 (O:jY prog w b k L) (hA:cC k A) (r:RH b s.heap Φ H) (f:cV b s.heap Φ ρ env) (c:gA sc env) {o i:Expr}{pos:Pos}{v:V}(hs:ew i=true) (h:(do let v<-L.E sc ρ o;let k<-L.E sc ρ i;gn v k:AM V) H=some (v,H')):
  wpAny (model prog w) A (eval (.Subscript o i pos) env) (Gt b cQ Φ s v H') no s:=by
 refine ai h λx H1 e1 h=>ai h λy H2 e2 h=>Subscript_ (gG (O.E hA r f c e1) λcx s1 Φ1 x1 r1 st1=>gG (O.E hA r1 (f.cQ st1) c e2) λcy s2 Φ2 x2 r2 st2=>?_);refine bV (EC (prog:=prog) (w:=w) (A:=A) (X:=cQ) r2 (x1.mono st2.pre) x2 h) λT id g1 g2 g3=>tail_any (ops:=[cx,cy]) g1 g2 (bS g3 λu_ u_ q=>(q.after st2).after st1)<|xu hs
theorem DV (O:jY prog w b k L) (hA:cC k A) (r:RH b s.heap Φ H) (f:cV b s.heap Φ ρ env) (c:gA sc env) {o:Expr}{lo hi:Option Expr}{pos p:Pos}{v:V}(h:(do let v<-L.E sc ρ o;let l<-dH L sc ρ lo;let h<-dH L sc ρ hi;bH v l h:AM V) H=some (v,H')):
  wpAny (model prog w) A (eval (.Subscript o (.Slice lo hi none p) pos) env) (Gt b cQ Φ s v H') no s:=by
 refine ai h λx H1 e1 h=>ai h λi H2 e2 h=>ai h λj H3 e3 h=>Subscript_ (gG (O.E hA r f c e1) λcx s1 Φ1 x1 r1 st1=>wpAny_Slice (bS (jA O hA r1 (f.cQ st1) c e2) λcl s2 g2=>pZ g2 λpl Φ2 r2 st2=>bS (jA O hA r2 ((f.cQ st1).cQ st2) c e3) λcu s3 g3=>pZ g3 λpu Φ3 r3 st3=>?_));refine wr (evalPart_none _)<|wpAny_pure<|xA (Cd (prog:=prog) (w:=w) (A:=A) (X:=cQ) r3 ((x1.mono st2.pre).mono st3.pre) pl pu h) λhT hg=>?_
 have hlk:∃id,typeLookup (.type (ki x H3)) "__getitem__"=pure (some (.builtin id)):=by
  unfold ki
  split
  .split
   .exact⟨_,slot_tuple_getitem.lookup⟩
   .exact⟨_,slot_list_getitem.lookup⟩
  .exact⟨_,slot_list_getitem.lookup⟩
 exact xE hlk λid hid=>tail_any (ops:=[.ref s3.heap.objs.size,cx]) hT hid (bS hg λu_ u_ q=>((q.after st3).after st2).after st1) rfl
def EG (prog:Program) (w:World) (A:Around) (b:Bs) (Φ:Fi) (s:Shared) (H H':AH) (sc:Scope) (ρ:ao) (env:Env) (L:Lv) (tab:Tab) (v:V) (e:Expr):Prop:=K7 tab L sc ρ e H=some (v,H')->wpAny (model prog w) A (eval e env) (Gt b cQ Φ s v H') no s
theorem Jn (B:fy b) (T:jt prog w b k tab) (O:jY prog w b k L) (hA:cC k A) (r:RH b s.heap Φ H) (f:cV b s.heap Φ ρ env) (c:gA sc env) {e:Expr}{v:V}:EG prog w A b Φ s H H' sc ρ env L tab v e:=by
 refine HL (tab:=tab) (L0:=L) (L:=lk tab 0) (sc:=sc) (ρ:=ρ) e ?_ ?_ ?_ ?_ ?_ ?_ ?_ ?_ ?_ ?_ ?_ ?_ ?_ ?_ ?_
 .exact λno u_ h=>ag H (no▸h)
 .intro op vs p h;refine ai h λx H1 e1 h=>aw h<|wr (arm_eval_BoolOp _ _ _ _)<|Di O hA c r f e1
 .intro l op rr p h;refine ai h λx H1 e1 h=>ai h λy H2 e2 h=>wpAny_BinOp (gG (O.E hA r f c e1) λcx s1 Φ1 x1 r1 st1=>gG (O.E hA r1 (f.cQ st1) c e2) λcy s2 Φ2 x2 r2 st2=>?_);exact bS (Jy r2 (x1.mono st2.pre) x2 h) λu_ u_ q=>(q.after st2).after st1
 .intro op x p h
  cases op<;>try exact ag H h
  .refine ai h λu H1 e1 h=>iR h λt z6 h=>aw h ?_;subst z6;refine wr (arm_eval_UnaryOp _ _ _ _)<|gH (O.E hA r f c e1) λcx s1 Φ1 x1 r1 st1=>?_
   cases (show cx=.bool t from x1)
   exact wpAny_bind (wpAny_standAt (wpAny_holding (not_of (wpAny_truthy_bool ⟨Φ1,rfl,r1,st1⟩))))
  .refine ai h λu H1 e1 h=>eY h λt z10 h=>aw h ?_;subst z10;refine wr (arm_eval_UnaryOp _ _ _ _)<|gH (O.E hA r f c e1) λcx s1 Φ1 x1 r1 st1=>xE x1 λt' hc=>?_
   subst hc;exact wpAny_bind (wpAny_standAt (wpAny_holding (P.neg_int (Gt.after st1 (.here r1 ⟨_,rfl⟩)))))
 .intro t a d p h;refine ai h λx H1 e1 h=>wr (arm_eval_IfExp _ _ _ _ _)<|Hy (O.T hA r f c e1) λs1 Φ1 r1 st1=>?_
  induction x with
  |true=>exact bS (O.E hA r1 (f.cQ st1) c h) λu_ u_ q=>q.after st1
  |false=>exact bS (O.E hA r1 (f.cQ st1) c h) λu_ u_ q=>q.after st1
 .intro ks vs p h;refine fA h λh1 h2 h=>wr (List.isEmpty_iff.mp h1) (wr (List.isEmpty_iff.mp h2) (wr (arm_eval_Dict _ _ _ _) ?_));exact wpAny_bind (wpAny_standAt (E7 (zY r h)))
 .intro x1 x2 x3 x4 h;have h:(match eV (.ListComp x1 x2 x3 x4) with
   |some (elt,t,iter,ifs,csc)=>lY L sc ρ csc elt t iter ifs
   |none=>ak:AM V) H=some (v,H'):=h
  revert h
  rcases hc:eV (.ListComp x1 x2 x3 x4) with _|⟨elt,t,iter,ifs,csc⟩
  .exact λh=>ag H h
  .exact BE (P:=λe=>lY L sc ρ csc elt t iter ifs H=some (v,H')->wpAny (model prog w) A (eval e env) (Gt b cQ Φ s v H') no s) hc λp h=>BD O hA r f c h
 .intro l ops cs p h;refine ai h λx H1 e1 h=>ai h λy H2 e2 h=>aw h<|wr (arm_eval_Compare _ _ _ _ _)<|gH (O.E hA r f c e1) λcx s1 Φ1 x1 r1 st1=>bS (yV O hA c r1 (f.cQ st1) x1 e2).1 λu_ u_ q=>q.after st1
 .intro fn args kws p h;refine fA h λh1 h2 h=>wr (List.isEmpty_iff.mp h1)<|Fv B T O hA r f c (Nat.le_of_ble_eq_true h2) h
 .intro cc k p h;refine wr (eval_Constant _ _ _ _) ?_;exact Fd r h
 .intro o g p h;refine cD h λhb h=>ai h λx H1 e1 h=>wr (arm_eval_Attribute _ _ _ _) (wr (AQ hb) ?_);refine gH (O.E hA r f c e1) λcx s1 Φ1 x1 r1 st1=>wpAny_bind (wpAny_standAt (cG (wpAny_holding (GX (X:=cQ) B r1 x1 h)) λcy s2 q=>wpAny_bind (wpAny_letTemporaryGo (wpAny_pure (q.after st1)))))
 .intro o i p h;have h:(match da i with
   |some (lo,hi)=>do let v<-L.E sc ρ o;let l<-dH L sc ρ lo;let h<-dH L sc ρ hi;bH v l h
   |none=>bif ew i then do let v<-L.E sc ρ o;let k<-L.E sc ρ i;gn v k else ak:AM V) H=some (v,H'):=h
  revert h
  rcases hs:da i with _|⟨lo,hi⟩
  .exact λh=>cD h λhs h=>B8 O hA r f c hs h
  .exact λh=>xC hs λp=>DV O hA r f c h
 .intro x p h;exact Bg B r f c h
 .intro es p h;refine ai h λl H1 e1 h=>wr (arm_eval_List _ _ _)<|wpAny_bind (wpAny_standAt (cG (rK O hA c r f e1) λcs s1 g=>be g λΦ1 x1 r1 st1=>bS (zX r1 x1 h) λu_ u_ q=>q.after st1))
 .intro es k p h;refine ai h λl H1 e1 h=>wr (arm_eval_Tuple _ _ _ _)<|wpAny_bind (wpAny_standAt (cG (rK O hA c r f e1) λcs s1 g=>be g λΦ1 x1 r1 st1=>bS (yi r1 x1 h) λu_ u_ q=>q.after st1))
end
end Mi
namespace Mi
open PySem PySem.W PyProof.Rows PySem.SeqAt
section
variable {prog:Program}{w:World}{A:Around}{b:Bs}{X:Addr->Prop}{Φ Φ1 Φ2:Fi}{s s1 s2:Shared}{H H' H2:AH}{sc csc:Scope}{ρ ρ':ao}{env:Env}{k:Nat}{L:Lv}{tab:Tab}
theorem uE (O:jY prog w b k L) (hA:cC k A) (r:RH b s.heap Φ H) (f:cV b s.heap Φ ρ env) (c:gA sc env) {e:Expr}{v:Bool}(h:(do let v<-L.E sc ρ e;ck v:AM Bool) H=some (v,H'))
  (he:isTrue e env (eval e env)=(do let v<-eval e env;standAt e.pos;holding [v] (truthy v))):wpAny (model prog w) A (isTrue e env (eval e env)) (F3 b cQ Φ s v H') no s:=by
 refine ai h λu H1 e1 h=>?_;obtain⟨rfl,rfl⟩:=nX h;refine wr he<|gH (O.E hA r f c e1) λcx s1 Φ1 x1 r1 st1=>?_
 cases (show cx=.bool v from x1)
 exact wpAny_bind (wpAny_standAt (wpAny_holding (wpAny_truthy_bool ⟨rfl,Φ1,r1,st1⟩)))
theorem Jk (O:jY prog w b k L) (hA:cC k A) (r:RH b s.heap Φ H) (f:cV b s.heap Φ ρ env) (c:gA sc env) {e:Expr}{v:Bool}(h:K5 L sc ρ e H=some (v,H')):
  wpAny (model prog w) A (isTrue e env (eval e env)) (F3 b cQ Φ s v H') no s:=by
 revert h;refine KC (L0:=L) (L:=lk (Tab.mk (λu_=>none) λu_ u_=>none) 0) (sc:=sc) (ρ:=ρ) e ?_ ?_ ?_ ?_ ?_
 .intro op vs p h;refine wr (arm_isTrue_BoolOp _ _ _ _ _)<|Hj O hA c r f h
 .intro op x p h
  induction op with
  |Not=>exact ai h λx H1 e1 h=>aw h (isTrue_not (bS (O.T hA r f c e1) λcx s1 q=>⟨congrArg not q.1,q.2⟩))
  |_=>exact uE O hA r f c h rfl
 .intro t a d p h;exact ag H h
 .intro l ops cs p h;refine ai h λx H1 e1 h=>wr (arm_isTrue_Compare _ _ _ _ _ _)<|gH (O.E hA r f c e1) λcx s1 Φ1 x1 r1 st1=>bS (yV O hA c r1 (f.cQ st1) x1 h).2 λu_ u_ q=>q.after st1
 .exact λe1 u_ e3 h=>uE O hA r f c (e1▸h) (e3 env)
theorem Ew (B:fy b) (T:jt prog w b k tab):∀n,jY prog w b k (lv tab n)
 |0=>⟨λ{_ _ _ _ _ _ _ H _ _} _ _ _ _ h=>ag H h,λ{_ _ _ _ _ _ _ H _ _} _ _ _ _ h=>ag H h⟩
 |n+1=>⟨λhA r f c h=>Jn B T (Ew B T n) hA r f c h,λhA r f c h=>Jk (Ew B T n) hA r f c h⟩
end
end Mi
namespace Mi
open PySem PySem.W PyProof.Rows PySem.SeqAt
section
variable {prog:Program}{w:World}{A:Around}{b:Bs}{X:Addr->Prop}{Φ Φ1 Φ2:Fi}{s s1 s2:Shared}{H H' H2:AH}{sc csc:Scope}{ρ ρ':ao}{env:Env}{k:Nat}{L:Lv}{tab:Tab}
theorem Gt.HJ {v:V}{c:Value}(f:cV b s.heap Φ ρ env) (g:Gt b cQ Φ s v H' c s1):F2 b (jP env) Φ s H' ρ env s1:=by
 refine be g λΦ1 x1 x2 x3=>⟨Φ1,x2,f.cQ x3,x3.Gr f.La⟩
theorem sE.HJ {u:Unit}(f:cV b s.heap Φ ρ env) (g:sE b cQ Φ s H' u s1):F2 b (jP env) Φ s H' ρ env s1:=by
 refine bW g λΦ1 x2 x3=>⟨Φ1,x2,f.cQ x3,x3.Gr f.La⟩
theorem cV.st (f:cV b s.heap Φ ρ env) (st:dw Mi.cQ Φ s Φ1 s1):dw (jP env) Φ s Φ1 s1:=st.Gr f.La
theorem wX (B:fy b) (O:jY prog w b k L) (hA:cC k A) (r:RH b s.heap Φ H) (f:cV b s.heap Φ ρ env) (c:gA sc env) {o:Expr}{g:Str}{pos:Pos}{v:V}{cv:Value}{H1:AH}{ov:V}{u:Unit}(hv:VR b Φ v cv) (e1:L.E sc ρ o H=some (ov,H1)) (e2:bZ ov g v H1=some (u,H')):
  wpAny (model prog w) A (assign (.Attribute o g pos) env cv) (sE b cQ Φ s H') no s:=by
 refine wr (arm_assign_Attribute _ _ _ _ _)<|gH (wpAny_holding (O.E hA r f c e1)) λco s1 Φ1 x1 r1 st1=>wpAny_bind (wpAny_standAt (cG (wpAny_holding (Gi (X:=cQ) B r1 x1 (hv.mono st1.pre) e2)) λu_ s2 q=>wpAny_release (q.after st1)))
theorem F7 {v:V}{q:V×V}(h:two v H=some (q,H')):∃n,v=.ref n/\H.at_ n=some (.tup [q.1,q.2])/\H'=H:=by
 induction v<;>try exact ag H h
 rename_i n;refine aG h λo h1 h=>?_
 induction o<;>try exact ag H h
 rename_i l
 rcases l with _|⟨a,_|⟨c,_|_⟩⟩
 .exact ag H h
 .exact ag H h
 .exact aw h ⟨n,rfl,h1,rfl⟩
 .exact ag H h
theorem Gj (B:fy b) (O:jY prog w b k L) (hA:cC k A) (r:RH b s.heap Φ H) (f:cV b s.heap Φ ρ env) (c:gA sc env) {o o':Expr}{g g':Str}{p1 p2 p3:Pos}{kk:Nat}{v:V}{cv:Value}(hv:VR b Φ v cv)
  (h:(do let ab<-two v;let ov<-L.E sc ρ o;bZ ov g ab.1;let ov<-L.E sc ρ o';bZ ov g' ab.2;pure ρ:AM ao) H=some (ρ',H')):
  wpAny (model prog w) A (assign (.Tuple [.Attribute o g p1,.Attribute o' g' p2] kk p3) env cv) (λu_ s'=>F2 b (jP env) Φ s H' ρ' env s') no s:=by
 refine ai h λab H0 e0 h2=>?_;obtain⟨n,rfl,h1,rfl⟩:=F7 e0;obtain⟨p,hp,rfl,-,vs,m,gt,w1⟩:=r.at hv h1;obtain⟨ca,cd,rfl,ra,rd⟩:=w1.DF;refine ai h2 λov H1 e1 h=>ai h λu H2 e2 h=>ai h λov' H3 e3 h=>ai h λu' H4 e4 h=>aw h ?_;have it:s.heap.IsTuple p.1 #[ca,cd]:=⟨_,gt,rfl,m,rfl⟩;refine wpAny_assign_Tuple hA.hand it rfl rfl λh' hx=>?_;have gr:∀a o,s.heap.get? a=some o->h'.get? a=some o:=λa o e=>hx a o (Nat.ne_of_lt (Heap.lt_size e)) e;have S0:dw cQ Φ s Φ {s with heap:=h'}:=.grow gr rfl rfl rfl;have f0:cV b h' Φ _ env:=lS f gr;refine assignInOrder_cons (wpAny_mono (wX (s:={s with heap:=h'}) B O hA (r.grow gr) f0 c ra e1 e2) (λu_ s1 q=>bW q λΦ1 r1 st1=>?_) λu_ u_ x=>x.elim);refine assignInOrder_cons (wpAny_mono (wX B O hA r1 (cV.cQ (s:={s with heap:=h'}) f0 st1) c (rd.mono st1.pre) e3 e4) (λu_ s2 q=>bW q λΦ2 r2 st2=>?_) λu_ u_ x=>x.elim);exact assignInOrder_nil (sE.HJ (u:=()) f ⟨Φ2,r2,S0.trans (st1.trans st2 r2) r2⟩)
theorem GL (O:jY prog w b k L) (hA:cC k A) (r:RH b s.heap Φ H) (f:cV b s.heap Φ ρ env) (c:gA sc env) {o i:Expr}{pos:Pos}{v:V}{cv:Value}(hv:VR b Φ v cv)
  (h:(do let ov<-L.E sc ρ o;let iv<-L.E sc ρ i;putItem ov iv v;pure ρ:AM ao) H=some (ρ',H')):wpAny (model prog w) A (assign (.Subscript o i pos) env cv) (λu_ s'=>F2 b (jP env) Φ s H' ρ' env s') no s:=by
 refine ai h λx H1 e1 h=>ai h λy H2 e2 h=>ai h λu H4 e4 h=>aw h<|wr (arm_assign_Subscript _ _ _ _ _)<|gH (wpAny_holding (O.E hA r f c e1)) λcx s1 Φ1 x1 r1 st1=>gH (wpAny_holding (O.E hA r1 (f.cQ st1) c e2)) λcy s2 Φ2 x2 r2 st2=>wpAny_bind (wpAny_standAt (cG (wpAny_holding (zN (X:=cQ) r2 (x1.mono st2.pre) x2 ((hv.mono st1.pre).mono st2.pre) e4)) λu_ s3 q=>wpAny_release ((q.after st2).after st1|>.HJ f)))
theorem DU (O:jY prog w b k L) (hA:cC k A) (r:RH b s.heap Φ H) (f:cV b s.heap Φ ρ env) (c:gA sc env) {o:Expr}{lo hi:Option Expr}{p pos:Pos}{v:V}{cv:Value}(hv:VR b Φ v cv)
  (h:(do let ov<-L.E sc ρ o;let l<-dH L sc ρ lo;let h<-dH L sc ρ hi;cM ov l h v;pure ρ:AM ao) H=some (ρ',H')):wpAny (model prog w) A (assign (.Subscript o (.Slice lo hi none p) pos) env cv) (λu_ s'=>F2 b (jP env) Φ s H' ρ' env s') no s:=by
 refine ai h λx H1 e1 h=>ai h λi H2 e2 h=>ai h λj H3 e3 h=>ai h λu H4 e4 h=>aw h<|wr (arm_assign_Subscript _ _ _ _ _)<|gH (wpAny_holding (O.E hA r f c e1)) λcx s1 Φ1 x1 r1 st1=>wpAny_bind (wpAny_holding (wpAny_Slice (bS (jA O hA r1 (f.cQ st1) c e2) λcl s2 g2=>pZ g2 λpl Φ2 r2 st2=>bS (jA O hA r2 ((f.cQ st1).cQ st2) c e3) λcu s3 g3=>pZ g3 λpu Φ3 r3 st3=>?_)))
 refine wr (evalPart_none _)<|wpAny_pure (wpAny_bind (wpAny_standAt (cG (wpAny_holding (xU (X:=cQ) r3 ((x1.mono st2.pre).mono st3.pre) (((hv.mono st1.pre).mono st2.pre).mono st3.pre) pl pu e4)) λu_ s4 q=>wpAny_release (((q.after st3).after st2).after st1|>.HJ f))))
theorem uf (B:fy b) (O:jY prog w b k L) (hA:cC k A) (r:RH b s.heap Φ H) (f:cV b s.heap Φ ρ env) (c:gA sc env) {t:Expr}{v:V}{cv:Value}(hv:VR b Φ v cv) (h:iU L sc ρ t v H=some (ρ',H')):
  wpAny (model prog w) A (assign t env cv) (λu_ s'=>F2 b (jP env) Φ s H' ρ' env s') no s:=by
 have oth:∀{t},gR sc t ρ v H=some (ρ',H')->wpAny (model prog w) A (assign t env cv) (λu_ s'=>F2 b (jP env) Φ s H' ρ' env s') no s:=λh=>by
  obtain⟨rfl,q⟩:=wU (prog:=prog) (w:=w) (A:=A) (X:=jP env) hA.hand r f c (pA.fr sc env) hv h;exact bS q λu_ u_ g=>g.HJ
 revert h;refine DP (L0:=L) (L:=lk (Tab.mk (λu_=>none) λu_ u_=>none) 0) (sc:=sc) (ρ:=ρ) (v:=v) t ?_ ?_ ?_ ?_
 .exact λe1 u_ h=>oth (e1▸h)
 .intro o g p h;exact ai h λov H1 e1 h=>ai h λu H2 e2 h=>aw h (bS (wX B O hA r f c hv e1 e2) λu_ u_ q=>q.HJ f)
 .intro o i p h;have h:(match da i with
   |some (lo,hi)=>do let ov<-L.E sc ρ o;let l<-dH L sc ρ lo;let h<-dH L sc ρ hi;cM ov l h v;pure ρ
   |none=>bif ew i then do let ov<-L.E sc ρ o;let iv<-L.E sc ρ i;putItem ov iv v;pure ρ else ak:AM ao) H=some (ρ',H'):=h
  revert h
  rcases hs:da i with _|⟨lo,hi⟩
  .exact λh=>cD h λu_ h=>GL O hA r f c hv h
  .exact λh=>xC hs λp=>DU O hA r f c hv h
 .intro es kk p h;have h:(match oP es with
   |some (o,f,o',f')=>do let ab<-two v;let ov<-L.E sc ρ o;bZ ov f ab.1;let ov<-L.E sc ρ o';bZ ov f' ab.2;pure ρ
   |none=>gR sc (.Tuple es kk p) ρ v:AM ao) H=some (ρ',H'):=h
  revert h
  rcases hs:oP es with _|⟨o,g,o',g'⟩
  .exact oth
  .obtain⟨p1,p2,rfl⟩:=JA hs;exact λh=>Gj B O hA r f c hv h
theorem cV.congr (h:∀x,ρ'.lookup x=ρ.lookup x) (f:cV b s.heap Φ ρ env):cV b s.heap Φ ρ' env:=by
 refine⟨f.kind,f.glob,f.bi,?_,λy hy hs=>?_,f.p7,f.oR,f.yj,f.vT,f.apart,f.hJ,f.iN⟩
 .refine bW f.ns λm hn hv=>?_;exact⟨m,hn,λx v hk hl=>hv x v hk (by refine wr ((h _).symm) ?_;exact hl)⟩
 .rw[h] at hs;refine bV (f.cell y hy hs) λa cv e hc hv=>?_;exact⟨a,cv,e,hc,λv hl=>hv v (by refine wr ((h _).symm) ?_;exact hl)⟩
set_option backward.match.sparseCases true in
noncomputable def JM (env:Env) (line:Nat):Expr->Option Str
 |.Name id pos=>if env.kindOf id==some .local&&pos.line==line then some id else none
 |_=>none
theorem xt {line:Nat}{t:Expr}{x:Str}(h:JM env line t=some x):∃p,t=.Name x p/\env.kindOf x=some .local:=by
 revert h;refine Expr.casesOn t ?_ ?_ ?_ ?_ ?_ ?_ ?_ ?_ ?_ ?_ ?_ ?_ ?_ ?_ ?_ ?_ ?_ ?_ ?_ ?_ ?_ ?_ ?_ ?_ ?_ ?_ ?_<;>(repeat intro u_)<;>first|exact ns u_|skip
 rename_i y p;have h:=u_;have h:(if env.kindOf y==some .local&&p.line==line then some y else none)=some x:=h
 by_cases q:(env.kindOf y==some .local&&p.line==line)=true
 .rw[if_pos q] at h;obtain rfl:=Option.some.inj h;exact⟨p,rfl,eq_of_beq (Bool.and_eq_true_iff.mp q).1⟩
 .rw[if_neg q] at h;exact ns h
theorem DN {line:Nat}{t1 t2:Expr}{names:List Str}(hn:[t1,t2].filterMap (JM env line)=names) (hl:names.length=2) (hd:names.eraseDups.length=names.length):
  ∃x p y p',t1=.Name x p/\t2=.Name y p'/\env.kindOf x=some .local/\env.kindOf y=some .local/\x≠y/\names=[x,y]:=by
 rw[List.filterMap_cons,List.filterMap_cons,List.filterMap_nil] at hn;revert hn
 rcases e1:JM env line t1 with _|x
 .rcases JM env line t2 with _|y<;>(rintro rfl;cases hl)
 .rcases e2:JM env line t2 with _|y
  .rintro rfl;cases hl
  .rintro rfl
   obtain⟨p,rfl,k1⟩:=xt e1;obtain⟨p',rfl,k2⟩:=xt e2;refine⟨x,p,y,p',rfl,rfl,k1,k2,?_,rfl⟩;rintro rfl;simp[List.eraseDups_cons] at hd
def LQ (env:Env) (t:Expr) (m:Sem (Option (List Str))):Prop:=m=pure none\/∃x p y p' q1 q2,t=.Tuple [.Name x p,.Name y p'] q1 q2/\env.kindOf x=some .local/\env.kindOf y=some .local/\x≠y/\m=pure (some [x,y])
theorem Bn {α:Type}{P:α->Prop}{c:Prop} [Decidable c] {x y:α}(h1:c->P x) (h2:¬c->P y):P (if c then x else y):=by
 by_cases q:c
 .refine wr (if_pos q) ?_;exact h1 q
 .refine wr (if_neg q) ?_;exact h2 q
theorem Le {t e:Expr}(h:En t=true) (ht:p8 t=none):swappedStores [t] e env=pure none:=by
 revert h ht;refine Expr.casesOn t ?_ ?_ ?_ ?_ ?_ ?_ ?_ ?_ ?_ ?_ ?_ ?_ ?_ ?_ ?_ ?_ ?_ ?_ ?_ ?_ ?_ ?_ ?_ ?_ ?_ ?_ ?_<;>(repeat intro u_)<;>first|exact Eq.refl (pure none)|exact sn u_|(rename_i h;exact nb h)
theorem Lf {e:Expr}{ts:List Expr}{q1:Nat}{q2:Pos}(he:p8 e=none):swappedStores [.Tuple ts q1 q2] e env=pure none:=by
 revert he;refine Expr.casesOn e ?_ ?_ ?_ ?_ ?_ ?_ ?_ ?_ ?_ ?_ ?_ ?_ ?_ ?_ ?_ ?_ ?_ ?_ ?_ ?_ ?_ ?_ ?_ ?_ ?_ ?_ ?_<;>(repeat intro u_)<;>first|exact Eq.refl (pure none)|exact sn u_
set_option backward.match.sparseCases true in
theorem HW {t1 t2 v1 v2:Expr}{q1 r1:Nat}{q2 r2:Pos}(h3:[v1,v2].all (constantsAlone 8)=false):LQ env (.Tuple [t1,t2] q1 q2) (swappedStores [.Tuple [t1,t2] q1 q2] (.Tuple [v1,v2] r1 r2) env):=by
 unfold swappedStores;dsimp only;refine wr h3 ?_;generalize hn:List.filterMap _ [t1,t2]=names;have hn':[t1,t2].filterMap (JM env t1.pos.line)=names:=by
  refine wr (hn.symm) ?_;rfl
 refine Bn (λu_=>.inl rfl) λu_=>Bn (λu_=>.inl rfl) λu_=>Bn (λu_=>.inl rfl) λc3=>Bn (λu_=>.inl rfl) λu_=>wr (if_neg Bool.false_ne_true) ?_;simp only[Bool.or_eq_true,bne_iff_ne,ne_eq,not_or,Decidable.not_not] at c3;obtain⟨x,p,y,p',rfl,rfl,k1,k2,hne,rfl⟩:=DN hn' c3.1 c3.2;exact .inr ⟨x,p,y,p',q1,q2,rfl,k1,k2,hne,rfl⟩
theorem sN {t e:Expr}(h:dg t e=true):LQ env t (swappedStores [t] e env):=by
 obtain⟨hl,h⟩:=Bool.and_eq_true_iff.mp h;revert h
 rcases ht:p8 t with _|ts
 .exact λu_=>.inl (Le hl ht)
 .rcases he:p8 e with _|vs
  .exact λu_=>zq ht λn p=>.inl (Lf he)
  .refine λh=>zq ht λq1 q2=>zq (P:=λe=>LQ env _ (swappedStores [_] e env)) he λr1 r2=>?_;obtain⟨h,-⟩:=Bool.and_eq_true_iff.mp h;obtain⟨h,h3⟩:=Bool.and_eq_true_iff.mp h;obtain⟨h1,h2⟩:=Bool.and_eq_true_iff.mp h
   rcases ts with _|⟨t1,_|⟨t2,_|_⟩⟩<;>try exact nb h1
   rcases vs with _|⟨v1,_|⟨v2,_|_⟩⟩<;>try exact nb h2
   exact HW (Bool.not_eq_true' _|>.mp h3)
end
end Mi
namespace Mi
open PySem PySem.W PyProof.Rows PySem.SeqAt
section
variable {prog:Program}{w:World}{A:Around}{b:Bs}{X:Addr->Prop}{Φ Φ1 Φ2:Fi}{s s1 s2:Shared}{H H' H2:AH}{sc csc:Scope}{ρ ρ':ao}{env:Env}{k:Nat}{L:Lv}{tab:Tab}
noncomputable def MC (b:Bs) (Φ:Fi):Fl->Flow->Prop
 |.next,.next=>True
 |.ret v,.ret c=>VR b Φ v c
 |_,_=>False
noncomputable def rY (b:Bs) (Φ:Fi) (s:Shared) (fl:Fl) (H':AH) (ρ':ao) (env:Env):Flow->Shared->Prop:=λfc s'=>∃Φ',MC b Φ' fl fc/\RH b s'.heap Φ' H'/\cV b s'.heap Φ' ρ' env/\dw (jP env) Φ s Φ' s'
theorem F2.KA (g:F2 b (jP env) Φ s H' ρ' env s1):rY b Φ s .next H' ρ' env .next s1:=by
 refine be g λΦ' a c d=>?_;exact⟨Φ',trivial,a,c,d⟩
theorem rY.after {fl:Fl}{fc:Flow}(st:dw (jP env) Φ s Φ1 s1) (g:rY b Φ1 s1 fl H' ρ' env fc s2):rY b Φ s fl H' ρ' env fc s2:=by
 refine tY g λΦ' x0 x1 x2 x3=>?_;exact⟨Φ',x0,x1,x2,st.trans x3 x1⟩
@[elab_as_elim] theorem rY.elim {fl:Fl} {fc:Flow} {G:Flow->Prop} (g:rY b Φ s fl H' ρ' env fc s1) (n:fl=.next->∀Φ1,RH b s1.heap Φ1 H'->cV b s1.heap Φ1 ρ' env->dw (jP env) Φ s Φ1 s1->G .next)
  (rt:∀v cv,fl=.ret v->∀Φ1,VR b Φ1 v cv->RH b s1.heap Φ1 H'->cV b s1.heap Φ1 ρ' env->dw (jP env) Φ s Φ1 s1->G (.ret cv)):G fc:=by
 refine tY g λΦ1 hf r f st=>?_
 induction fl with
 |next=>induction fc<;>first|exact n rfl Φ1 r f st|exact hf.elim
 |ret v=>induction fc<;>first|exact rt v _ rfl Φ1 hf r f st|exact hf.elim
theorem AS {t:Expr}(h:noStar t=true):assignEach [t] env=[(false,assign t env)]:=by
 revert h;refine Expr.casesOn t ?_ ?_ ?_ ?_ ?_ ?_ ?_ ?_ ?_ ?_ ?_ ?_ ?_ ?_ ?_ ?_ ?_ ?_ ?_ ?_ ?_ ?_ ?_ ?_ ?_ ?_ ?_<;>(repeat intro u_)<;>first|exact nb u_|rfl
theorem set_comm {x y:Str}{a d:V}(hx:(ρ.lookup x).isSome=true) (hy:(ρ.lookup y).isSome=true) (n:x≠y) (z:Str):((ρ.set x a).set y d).lookup z=((ρ.set y d).set x a).lookup z:=by
 refine wr (cS (by rw[fg hx];exact hy)) (wr (cS hx) (wr (cS (by rw[fg hy];exact hx)) (wr (cS hy) ?_)))
 by_cases h1:z=y
 .exact wr (if_pos h1) (wr (if_neg (by rintro rfl;exact n h1)) (wr (if_pos h1) rfl))
 .refine wr (if_neg h1) ?_
  by_cases h2:z=x
  .exact wr (if_pos h2) (wr (if_pos h2) rfl)
  .exact wr (if_neg h2) (wr (if_neg h2) (wr (if_neg h1) rfl))
theorem y7 {x:Str}{v:V}(e:putN sc ρ x v H=some (ρ',H')):Dy (sc.names.lookup x)=true/\(ρ.lookup x).isSome=true/\ρ'=ρ.set x v:=fA e λh1 h2 e=>⟨h1,h2,(bL e).1⟩
theorem A9 {x:Str}{v:V}(h1:Dy (sc.names.lookup x)=true) (h2:(ρ.lookup x).isSome=true):putN sc ρ x v H=some (ρ.set x v,H):=by
 unfold putN;refine wr h1 (wr h2 ?_);rfl
theorem FE {x y:Str}{p p' q2:Pos}{q1:Nat}{v:V}(h:gR sc (.Tuple [.Name x p,.Name y p'] q1 q2) ρ v H=some (ρ',H')):∃n a d ρ1,v=.ref n/\H.at_ n=some (.tup [a,d])/\putN sc ρ x a H=some (ρ1,H)/\putN sc ρ1 y d H=some (ρ',H)/\H'=H:=by
 induction v<;>try exact ag H h
 rename_i n;refine aG h λob h1 h=>?_
 induction ob<;>try exact ag H h
 rename_i l
 rcases l with _|⟨a,l⟩
 .exact ag H h
 refine gS h λx1 ρ1 hn e1 h=>?_;obtain rfl:=Option.some.inj hn
 rcases l with _|⟨d,l⟩
 .exact ag H h
 refine gS h λx1 ρ2 hn e2 h=>?_;obtain rfl:=Option.some.inj hn
 rcases l with _|_
 .exact aw h ⟨n,a,d,ρ1,rfl,h1,e1,e2,rfl⟩
 .exact ag H h
theorem HQ (hA:cC k A) (r:RH b s.heap Φ H) (f:cV b s.heap Φ ρ env) (c:gA sc env) {x y:Str}{p p' q2:Pos}{q1:Nat}{v:V}{cv:Value}(hne:x≠y) (hv:VR b Φ v cv) (h:gR sc (.Tuple [.Name x p,.Name y p'] q1 q2) ρ v H=some (ρ',H')):
  wpAny (model prog w) A (do
    rule "assign.swapped-stores"
    let items<-unpackItems cv 2 none
    assignInOrder [λv=>bindName env y v,λv=>bindName env x v] items.reverse
    pure Flow.next) (rY b Φ s .next H' ρ' env) no s:=by
 obtain⟨n,a,d,ρ1,rfl,h1,e1,e2,rfl⟩:=FE h;obtain⟨kx,ix,rfl⟩:=y7 e1;obtain⟨ky,iy,rfl⟩:=y7 e2;rw[fg ix] at iy;obtain⟨pp,hp,rfl,-,vs,m,gt,w1⟩:=r.at hv h1;obtain⟨ca,cd,rfl,ra,rd⟩:=w1.DF;have it:s.heap.IsTuple pp.1 #[ca,cd]:=⟨_,gt,rfl,m,rfl⟩;refine wpAny_bind (wpAny_rule (wpAny_bind (wpAny_unpackItems_tuple (items:= #[ca,cd]) hA.hand it λh' hx=>?_)));have gr:∀a o,s.heap.get? a=some o->h'.get? a=some o:=λa o e=>hx a o (Nat.ne_of_lt (Heap.lt_size e)) e;have S0:dw (jP env) Φ s Φ {s with heap:=h'}:=.grow gr rfl rfl rfl;have b1:=(qd (X:=jP env) (M:=model prog w) (A:=A) (E:=no) (s:={s with heap:=h'}) (r.grow gr) (lS f gr) c (pA.fr sc env) rd (A9 ky iy)).2;refine wpAny_bind ?_;show wpAny (model prog w) A (assignInOrder [λv=>bindName env y v,λv=>bindName env x v] [cd,ca]) _ _ _;refine assignInOrder_cons (wpAny_mono (wpAny_bindName b1) (λu_ s1 g1=>?_) λu_ u_ x=>x.elim);have b2:=(qd (X:=jP env) (M:=model prog w) (A:=A) (E:=no) g1.2.1 g1.1 c (pA.fr sc env) ra (A9 kx ((fg iy).trans ix))).2;refine assignInOrder_cons (wpAny_mono (wpAny_bindName b2) (λu_ s2 g2=>?_) λu_ u_ x=>x.elim);exact assignInOrder_nil (wpAny_pure ⟨Φ,trivial,g2.2.1,g2.1.congr λz=>set_comm ix iy hne z,S0.trans (g1.2.2.trans g2.2.2 g2.2.1) g2.2.1⟩)
theorem B9 (B:fy b) (O:jY prog w b k L) (hA:cC k A) (r:RH b s.heap Φ H) (f:cV b s.heap Φ ρ env) (c:gA sc env) {t e:Expr}{v:V}{cv:Value}(hp:dg t e=true) (hs:noStar t=true) (hv:VR b Φ v cv) (h:iU L sc ρ t v H=some (ρ',H')):
  wpAny (model prog w) A (do assignStores env cv (<-swappedStores [t] e env) ((assignEach [t] env).map (·.2))) (rY b Φ s .next H' ρ' env) no s:=by
 refine wr (AS hs) ?_
 rcases sN (env:=env) hp with hw|⟨x,p,y,p',q1,q2,rfl,k1,k2,hne,hw⟩
 .refine wr hw<|wpAny_bind (wpAny_pure ?_)
  show wpAny (model prog w) A (do assign t env cv;pure Flow.next) _ _ s;exact cG (uf B O hA r f c hv h) λu_ s' g=>wpAny_pure g.KA
 .refine wr hw<|wpAny_bind (wpAny_pure ?_)
  exact HQ (q1:=q1) (q2:=q2) hA r f c hne hv h
theorem Bx (f:cV b s.heap Φ ρ env) {a:Addr}(h:jP env a):∃o,s.heap.get? a=some o:=by
 rcases h with rfl|⟨x,h⟩
 .exact f.HG
 .exact f.iN x a h
end
end Mi
namespace Mi
open PySem PySem.W PyProof.Rows PySem.SeqAt
section
variable {prog:Program}{w:World}{A:Around}{b:Bs}{X:Addr->Prop}{Φ Φ1 Φ2:Fi}{s s1 s2:Shared}{H H' H2:AH}{sc csc:Scope}{ρ ρ':ao}{env:Env}{k:Nat}{L:Lv}{tab:Tab}
theorem qc {e:Expr}{t:Option Expr}{line:Nat}(h:ja e=true):swapsWith e t line env=pure false:=by
 revert h;refine Expr.casesOn e ?_ ?_ ?_ ?_ ?_ ?_ ?_ ?_ ?_ ?_ ?_ ?_ ?_ ?_ ?_ ?_ ?_ ?_ ?_ ?_ ?_ ?_ ?_ ?_ ?_ ?_ ?_<;>(repeat intro u_)<;>first|exact Eq.refl (pure false)|exact nb u_
theorem zy {elt:Expr}{gens:List Comprehension}{cp:Pos}{t:Expr}{line:Nat}:∃B:Bool,swapsWith (.ListComp elt gens csc cp) (some t) line env=pure B/\(B=true->∃y p,t=.Name y p):=by
 refine HS t ?_ ?_ ?_
 .exact λh u_ u_=>⟨false,h _ _ _ _ _ _,λq=>nb q⟩
 .exact λ{x p}=>⟨_,rfl,λu_=>⟨x,p,rfl⟩⟩
 .exact λ{_ _ _}=>⟨false,rfl,λq=>nb q⟩
theorem rH (B:fy b) (O:jY prog w b k L) (hA:cC k A) (r:RH b s.heap Φ H) (f:cV b s.heap Φ ρ env) (c:gA sc env) {t e:Expr}{pos:Pos}{v:V}{H1:AH}(hp:dg t e=true) (hs:noStar t=true)
  (hsw:swapsWith e (some t) pos.line env=pure false) (ev:wpAny (model prog w) A (eval e env) (Gt b cQ Φ s v H1) no s) (h:iU L sc ρ t v H1=some (ρ',H')):
  wpAny (model prog w) A (exec (.Assign [t] e pos) env) (rY b Φ s .next H' ρ' env) no s:=by
 refine wr (exec_Assign_arm _ _ _)<|wpAny_bind (wpAny_standAt ?_)
 have hsw:swapsWithSole [t] e pos.line env=pure false:=hsw;refine wr hsw<|wpAny_bind (wpAny_pure ?_)
 refine wr (if_neg (by decide))<|cG ev λcv s1 z=>be z λΦ1 x1 r1 st1=>bS (B9 B O hA r1 (f.cQ st1) c hp hs x1 h) λu_ u_ q=>q.after (f.st st1)
theorem CompEnd.made {D C:Addr}{s':Shared}{out:List V}{v:V}(x:CompEnd b Φ s H2 out D C s') (r:RH b s.heap Φ H) (e:ba (.list out) H2=some (v,H')):
  ∃Φ',VR b Φ' v (.ref D)/\RH b s'.heap Φ' H'/\dw cQ Φ s Φ' s'/\pX Φ' C:=by
 obtain⟨nD,nC,hDC,Φ',vs,n,m,r',st,uD,uC,gD,hvs,hn⟩:=x;refine dR e λf=>?_;have nb:b.h.get? D=none:=r.nb nD;refine⟨Φ'++[(D,D)],⟨(D,D),?_,rfl⟩,r'.adopt uD nb gD f ⟨vs,n,gD,hvs.mono (bT _ _)⟩,st.adopt nD,λk q e=>?_⟩
 .refine wr (r'.len.symm) ?_;exact nz _ _
 .rcases cX e with⟨hm,e⟩|⟨rfl,rfl⟩
  .exact uC k q e
  .exact⟨hDC.symm,hDC.symm⟩
theorem y6 (B:fy b) (O:jY prog w b k L) (hA:cC k A) (r:RH b s.heap Φ H) (f:cV b s.heap Φ ρ env) (c:gA sc env) {t:Expr}{pos cp:Pos}{v:V}{H1:AH}{elt tt iter:Expr}{ifs:List Expr}
  (hp:dg t (.ListComp elt [⟨tt,iter,ifs,0⟩] csc cp)=true) (hs:noStar t=true) (e1:lY L sc ρ csc elt tt iter ifs H=some (v,H1)) (e2:iU L sc ρ t v H1=some (ρ',H2)):wpAny (model prog w) A (exec (.Assign [t] (.ListComp elt [⟨tt,iter,ifs,0⟩] csc cp) pos) env) (rY b Φ s .next H2 ρ' env) no s:=by
 refine bW (zy (csc:=csc) (elt:=elt) (gens:=[⟨tt,iter,ifs,0⟩]) (cp:=cp) (t:=t) (line:=pos.line) (env:=env)) λBo hB hN=>?_
 induction Bo with
 |false=>exact rH B O hA r f c hp hs hB (BD O hA r f c e1) e2
 |true=>
  refine fP (hN rfl) λy py z3=>?_;subst z3;refine wr (exec_Assign_arm _ _ _)<|wpAny_bind (wpAny_standAt ?_)
  have hB:swapsWithSole [.Name y py] (.ListComp elt [⟨tt,iter,ifs,0⟩] csc cp) pos.line env=pure true:=hB;refine wr hB<|wpAny_bind (wpAny_pure ?_)
  refine wr (if_pos rfl) ?_;show wpAny (model prog w) A ((do let _<-comprehension (.ListComp elt [⟨tt,iter,ifs,0⟩] csc cp) csc env iter.pos (newList []) false (eval iter env) (some λv=>assign (.Name y py) env v))>>=λu_=>pure Flow.next) _ _ s;refine cD e1 λhn e1=>ai e1 λitv H3 e3 e1=>ai e1 λkl H4 e4 e5=>?_;refine xA (ig e4) λz4 u_=>?_;subst z4;refine cD e5 λhK e5=>ai e5 λout H5 e6 e7=>?_;have K:=oN hK;refine wpAny_bind (wpAny_bind (bS (P:=λu_ s'=>rY b Φ s .next H2 ρ' env .next s') ?_ λu_ s' q=>wpAny_pure (wpAny_pure q)));refine wpAny_comprehension_free (use:=some λv=>assign (.Name y py) env v) rfl (iG hn) (BJ (Fk f c K)) K.fn (λx hx hl=>uu K.nd (hl▸hx))<|gG (O.E hA r f c e3) λitc s1 Φ1 x1 r1 st1=>?_
  have f1:=f.cQ st1;refine rL (RR:=λacc C=>compPost (model prog w) A no (some λv=>assign (.Name y py) env v) (λu_ s'=>rY b Φ s .next H2 ρ' env .next s') acc C) O hA r1 f1 c K x1 e4 e6 λD C s' ce=>?_;obtain⟨nD,nC,hDC,Φ',vs,n,m,r',st,uD,uC,gD,hvs,hnC⟩:=id ce;refine tY (ce.made r1 e7) λΦ2 y1 y2 y3 uC2=>?_;have f2:cV b s'.heap Φ2 ρ env:=f1.cQ y3;show wpAny (model prog w) A (assign (.Name y py) env (.ref D)) _ _ s';have so:=uf (s:=s') B O hA y2 f2 c (t:=.Name y py) y1 e2;refine bS so λu_ s'' g=>?_;have hfr:¬jP env C:=λq=>by
   refine xE (Bx f1 q) λo e=>?_;rw[nC] at e;exact ns e
  have nb:b.h.get? C=none:=r1.nb nC;refine eZ hnC λoC esC epC gC restC=>be g λΦ3 z1 z2 z3=>?_;have gC3:s''.heap.get? C=some oC:=z3.keep C oC gC uC2 hfr;refine⟨m,⟨oC,esC,epC,gC3,restC⟩,λh' sb=>?_⟩;have uC3:pX Φ3 C:=uC2.on z3 ⟨_,gC⟩;have st12:dw (jP env) Φ1 s1 Φ3 s'':=(f1.st y3).trans z3 z1;refine⟨Φ3,trivial,z1.sameBut sb uC3 nb,z2.sameBut sb (λq=>hfr (.inl q)) (λx c hm q=>hfr (.inr ⟨x,q▸hm⟩)),(f.st st1).trans (st12.sameBut (tk:=s''.toks) sb nC hfr) (z1.sameBut sb uC3 nb)⟩
theorem Dq (B:fy b) (T:jt prog w b k tab) (O:jY prog w b k L) (hA:cC k A) (r:RH b s.heap Φ H) (f:cV b s.heap Φ ρ env) (c:gA sc env) {t e:Expr}{pos:Pos}{fl:Fl}
  (h:(bif dg t e&&noStar t then do
  let v<-rhs L sc ρ e
  let ρ<-iU L sc ρ t v
  pure (.next,ρ)
  else ak:AM (Fl×ao)) H=some ((fl,ρ'),H')):wpAny (model prog w) A (exec (.Assign [t] e pos) env) (rY b Φ s fl H' ρ' env) no s:=by
 refine cD h λhc h=>xA (Bool.and_eq_true_iff.mp hc) λhp hs=>ai h λv H1 e1 h=>ai h λρ1 H2 e2 h=>?_;refine xA (bL h) λhfl z5=>?_;subst z5;refine xA (Prod.mk.inj hfl) λz6 z7=>?_;subst z6;subst z7;have e1:(match eV e with
  |some (elt,t,iter,ifs,csc)=>lY L sc ρ csc elt t iter ifs
  |none=>bif ja e then L.E sc ρ e else ak:AM V) H=some (v,H1):=e1
 revert e1
 rcases hc:eV e with _|⟨elt,tt,iter,ifs,csc⟩
 .exact λe1=>cD e1 λhn e1=>rH B O hA r f c hp hs (qc hn) (O.E hA r f c e1) e2
 .refine λe1=>BE (P:=λe=>dg t e=true->wpAny (model prog w) A (exec (.Assign [t] e pos) env) (rY b Φ s .next H2 ρ' env) no s) hc (λp hp=>?_) hp;exact y6 B O hA r f c hp hs e1 e2
end
end Mi
namespace Mi
open PySem PySem.W PyProof.Rows PySem.SeqAt
section
variable {prog:Program}{w:World}{A:Around}{b:Bs}{X:Addr->Prop}{Φ Φ1 Φ2:Fi}{s s1 s2:Shared}{H H' H2:AH}{sc csc:Scope}{ρ ρ':ao}{env:Env}{k:Nat}{L:Lv}{tab:Tab}
structure KP (prog:Program) (w:World) (b:Bs) (k:Nat) (Xs:Scope->ao->List Stmt->AM (Fl×ao)):Prop where
 X:∀{A:Around} {sc:Scope} {ρ ρ':ao} {bd:List Stmt} {env:Env} {s:Shared} {Φ:Fi} {H H':AH} {fl:Fl},cC k A->RH b s.heap Φ H->cV b s.heap Φ ρ env->gA sc env->Xs sc ρ bd H=some ((fl,ρ'),H')->
  wpAny (model prog w) A (execs bd env) (rY b Φ s fl H' ρ' env) no s
theorem G4 (O:jY prog w b k L) (hA:cC k A) (r:RH b s.heap Φ H) (f:cV b s.heap Φ ρ env) (c:gA sc env) {e:Expr}{pos:Pos}{fl:Fl}(h:(bif ja e then do let _<-L.E sc ρ e;pure (.next,ρ) else ak:AM (Fl×ao)) H=some ((fl,ρ'),H')):
  wpAny (model prog w) A (exec (.Expr e pos) env) (rY b Φ s fl H' ρ' env) no s:=by
 refine cD h λhn h=>ai h λv H1 e1 h=>nW h ?_;refine wr (exec_Expr env e pos (by unfold interactive;rw[f.kind];rfl) (qc hn)) ?_;exact wpAny_bind (wpAny_standAt (cG (O.E hA r f c e1) λcv s1 g=>wpAny_dropValue (g.HJ f).KA))
theorem xg {T:ao->AM Bool}{B:ao->AM (Fl×ao)}{q:Fl×ao}(h:aH T B ρ H=some (q,H')):∃n,cJ T B n ρ H=some (some q,H'):=by
 unfold aH at h
 by_cases hx:∃n r H',cJ T B n ρ H=some (some r,H')
 .rw[dif_pos hx] at h;refine⟨hx.choose,fP hx.choose_spec λr0 H0 h0=>?_⟩;dsimp only at h;rw[h0] at h⊢;obtain⟨rfl,rfl⟩:=Prod.mk.inj (Option.some.inj h);rfl
 .rw[dif_neg hx] at h;exact ns h
theorem DE (O:jY prog w b k L) {Xs:Scope->ao->List Stmt->AM (Fl×ao)}(XO:KP prog w b k Xs) (hA:cC k A) (r:RH b s.heap Φ H) (f:cV b s.heap Φ ρ env) (c:gA sc env) {t:Expr}{bd:List Stmt}{pos:Pos}{fl:Fl}
  (h:aH (λρ=>L.T sc ρ t) (λρ=>Xs sc ρ bd) ρ H=some ((fl,ρ'),H')):wpAny (model prog w) A (exec (.While t bd [] pos) env) (rY b Φ s fl H' ρ' env) no s:=by
 refine xE (xg h) λn hgo=>wpAny_While ?_
 clear h
 refine codeAny_whileLoop (λn s'=>∃Φ' ρc Hc,cJ (λρ=>L.T sc ρ t) (λρ=>Xs sc ρ bd) n ρc Hc=some (some (fl,ρ'),H')/\RH b s'.heap Φ' Hc/\cV b s'.heap Φ' ρc env/\dw (jP env) Φ s Φ' s') ?_ n ⟨Φ,ρ,H,hgo,r,f,.refl _ _ _⟩
 clear hgo r f
 refine λn s' h=>eg h λΦ' ρc Hc hgo r f st=>?_
 induction n with
 |zero=>cases hgo
 |succ n=>
 refine ai hgo λbt H1 e1 h1=>DB (O.T hA r f c e1) λs1 Φ1 r1 st1=>?_;have f1:=f.cQ st1;have st01:=st.trans (f.st st1) r1
 clear h e1 hgo
 induction bt with
 |false=>exact uQ h1 (wpAny_execs_nil ⟨Φ1,trivial,r1,f1,st01⟩)
 |true=>
  refine ai h1 λz6 H2 e2 h2=>bS (XO.X (fl:=z6.1) (ρ':=z6.2) hA r1 f1 c e2) λfc s2 g=>g.elim (λe Φ2 r2 f2 st2=>?_) λv cv e Φ2 hv r2 f2 st2=>?_
  .have h2:(match z6.1 with
    |.next=>cJ (λρ=>L.T sc ρ t) (λρ=>Xs sc ρ bd) n z6.2
    |.ret v=>pure (some (.ret v,z6.2)):AM (Option (Fl×ao))) H2=some (some (fl,ρ'),H'):=h2
   rw[e] at h2;exact⟨n,Nat.lt_succ_self _,Φ2,z6.2,H2,h2,r2,f2,st01.trans st2 r2⟩
  .have h2:(match z6.1 with
    |.next=>cJ (λρ=>L.T sc ρ t) (λρ=>Xs sc ρ bd) n z6.2
    |.ret v=>pure (some (.ret v,z6.2)):AM (Option (Fl×ao))) H2=some (some (fl,ρ'),H'):=h2
   rw[e] at h2;exact uQ h2 ⟨Φ2,hv,r2,f2,st01.trans st2 r2⟩
theorem EU {t:Expr}{bd:List Stmt}{it:Value}{R:Result->Shared->Prop}(I:Nat->Shared->Prop)
  (turn:∀n s,I n s->wpAny (model prog w) A (pyNext it) (λr s₁=>match r with
   |none=>R (.ok .next) s₁
   |some v=>wpAny (model prog w) A (letOwnedTupleGo t it v) (λu_ s₁=>wpAny (model prog w) A (assign t env v) (λu_ s₂=>wpAny (model prog w) A (execs bd env) (λf s₃=>match f with
     |.next|.cont=>∃m,m<n/\I m s₃
     |.brk=>R (.ok .next) s₃
     |.ret v=>R (.ok (.ret v)) s₃) no s₂) no s₁) no s₁) no s)
  (n:Nat) (h:I n s):codeAny (model prog w) A (.forLoop t it bd [] env) R s:=by
 refine codeAny_loop' rfl I (λn s hI=>?_) n h;show wpAny _ _ ((forTurn t it bd [] env).onRaise (λx=>do noteFrame x env;theTreesLotGoes x)) _ _ s;refine wpAny_noted ?_;simp only[forTurn];refine wpAny_bind (wpAny_standAt (wpAny_bind (wpAny_onRaise (wpAny_mono (turn n s hI) (λr s₁ h₁=>?_) λu_ u_ h'=>h'.elim))))
 induction r with
 |none=>exact wpAny_pure (.inr ⟨rfl,codeAny_block (wpAny_execs_nil h₁)⟩)
 |some v=>
  refine cG h₁ λu_ s₁ h₁=>cG h₁ λu_ s₂ h₂=>cG h₂ λf s₃ h₃=>?_
  induction f with
  |next=>exact wpAny_pure (.inl ⟨rfl,h₃⟩)
  |cont=>exact wpAny_pure (.inl ⟨rfl,h₃⟩)
  |brk=>exact wpAny_pure h₃
  |ret v=>exact wpAny_pure h₃
theorem Ih {h':Heap}{I:Addr}(r:RH b s.heap Φ H) (kk:∀a ob,a≠I->s.heap.get? a=some ob->h'.get? a=some ob) (u:pX Φ I) (nb:b.h.get? I=none):RH b h' Φ H:=by
 refine⟨r.len,λn q e=>?_,r.out,r.apart,r.fresh,λa oo e=>kk a oo (by rintro rfl;rw[nb] at e;exact ns e) (r.base a oo e),λn q e=>?_⟩
 .refine be (r.obj n q e) λoo z1 z2 z3=>⟨oo,z1,z2,z3.keeps λa ob ha e'=>kk a ob (by
   have:=u n q e
   rcases ha with rfl|rfl
   .exact this.1.symm
   .exact this.2.symm) e'⟩
 .refine xA (r.live n q e) λz9 z10=>?_;obtain⟨o1,z1⟩:=z9;obtain⟨o2,z2⟩:=z10;exact⟨⟨o1,kk _ _ (u n q e).1.symm z1⟩,⟨o2,kk _ _ (u n q e).2.symm z2⟩⟩
theorem GZ {h':Heap}{I:Addr}(f:cV b s.heap Φ ρ env) (kk:∀a ob,a≠I->s.heap.get? a=some ob->h'.get? a=some ob) (n:¬jP env I):cV b h' Φ ρ env:=by
 have n1:env.locals≠I:=λq=>n (.inl q.symm);have n2:∀x c,(x,c)∈env.cells->c≠I:=λx c hm q=>n (.inr ⟨x,q▸hm⟩);refine⟨f.kind,f.glob,f.bi,?_,λy hy hs=>?_,f.p7,f.oR,f.yj,f.vT,f.apart,f.hJ,λy c hm=>(f.iN y c hm).imp λo e=>kk _ _ (n2 y c hm) e⟩
 .refine bW f.ns λm hn hv=>⟨m,fG hn λo e=>kk _ _ n1 e,hv⟩
 .refine bV (f.cell y hy hs) λc cv e hc hv=>⟨c,cv,e,dj hc λo e'=>kk _ _ (n2 y c (mem_of_lookup e)) e',hv⟩
structure FI (b:Bs) (sc:Scope) (env:Env) (Xs:Scope->ao->List Stmt->AM (Fl×ao)) (bd:List Stmt) (t:Expr) (nn:Nat) (kl:Nat×List V) (Φ:Fi) (s:Shared) (I:Addr) (p:Addr×Addr) (o:O) (q:(Fl×ao)×AH) (i:Nat) (s':Shared) (Φ':Fi) (ρc:ao) (Hc:AH):Prop where
 r:RH b s'.heap Φ' Hc
 f:cV b s'.heap Φ' ρc env
 st:dw (jP env) Φ s Φ' s'
 uI:pX Φ' I
 it:zi s'.heap p o I i
 go:oM sc (λρ=>Xs sc ρ bd) t (.ref nn) kl ρc (kl.2.drop i) Hc=some q
noncomputable def FL (b:Bs) (sc:Scope) (env:Env) (Xs:Scope->ao->List Stmt->AM (Fl×ao)) (bd:List Stmt) (t:Expr) (nn:Nat) (kl:Nat×List V) (Φ:Fi) (s:Shared) (I:Addr) (p:Addr×Addr) (o:O) (q:(Fl×ao)×AH) (n:Nat) (s':Shared):Prop:=
 ∃i Φ' ρc Hc,n=kl.2.length+1-i/\i<=kl.2.length/\FI b sc env Xs bd t nn kl Φ s I p o q i s' Φ' ρc Hc
section
variable {Xs:Scope->ao->List Stmt->AM (Fl×ao)}{bd:List Stmt}{t:Expr}{nn i:Nat}{kl:Nat×List V}{I:Addr}{p:Addr×Addr}{o:O}{fl:Fl}{s':Shared}{Φ':Fi}{ρc:ao}{Hc:AH}
theorem uA (r:RH b s'.heap Φ' Hc) (hp:Φ'[nn]? =some p) (hkl:Bp o=some kl) (hfit:fits o=true) (e:qe (.ref nn) kl Hc=some ((),H)):H=Hc/\Hc.at_ nn=some o:=by
 refine mC (rR e) λz11 n1 o1 hn1 ho1 hk1=>?_;subst z11;obtain rfl:=V.ref.inj hn1;refine be (r.obj nn p hp) λo1' h1' hfit1 u_=>?_;rw[ho1] at h1';obtain rfl:=Option.some.inj h1'
 cases rp hkl hk1 hfit hfit1
 exact⟨rfl,ho1⟩
theorem ET {R:Result->Shared->Prop}(XO:KP prog w b k Xs) (hA:cC k A) (c:gA sc env) (nb:b.h.get? I=none) (nI:s.heap.get? I=none) (nfr:¬jP env I) (hp:Φ[nn]? =some p) (hkl:Bp o=some kl) (hfit:fits o=true)
  (hR:∀fc s3,rY b Φ s fl H' ρ' env fc s3->R (.ok fc) s3) (x:FI b sc env Xs bd t nn kl Φ s I p o ((fl,ρ'),H') i s' Φ' ρc Hc):
  wpAny (model prog w) A (pyNext (.ref I)) (λr s₁=>match r with
   |none=>R (.ok .next) s₁
   |some v=>wpAny (model prog w) A (letOwnedTupleGo t (.ref I) v) (λu_ s₁=>wpAny (model prog w) A (assign t env v) (λu_ s₂=>wpAny (model prog w) A (execs bd env) (λf s₃=>match f with
     |.next|.cont=>∃m,m<kl.2.length+1-i/\FL b sc env Xs bd t nn kl Φ s I p o ((fl,ρ'),H') m s₃
     |.brk=>R (.ok .next) s₃
     |.ret v=>R (.ok (.ret v)) s₃) no s₂) no s₁) no s₁) no s':=by
 have hp':Φ'[nn]? =some p:=Fi.gO x.st.pre hp;have st:=x.st;have hgo:=x.go
 rcases hx:kl.2[i]? with _|xv
 .have hle:kl.2.length<=i:=List.getElem?_eq_none_iff.mp hx;rw[List.drop_of_length_le hle] at hgo;refine ai hgo λu H3 e3 e4=>xA (uA x.r hp' hkl hfit e3) λhH ho1=>?_;subst hH;obtain⟨hfl,rfl⟩:=bL e4
  cases hfl
  refine bS (next_end hA.hand x.r hp' ho1 hkl x.it hle) λrr s3 z=>mE z λhr hx1 hs1=>?_;subst hr;refine hR .next s3 ⟨Φ',trivial,Ih x.r hx1 x.uI nb,GZ x.f hx1 nfr,st.pre,st.new,λa oo e u q=>hx1 a oo (λq=>by rw[q,nI] at e;exact ns e) (st.keep a oo e u q),λa q e=>(st.xs a q e).imp λoo e'=>hx1 a oo (λz=>nfr (z▸q)) e',by refine wr hs1 ?_;exact st.gens,by refine wr hs1 ?_;exact st.drawn,by refine wr hs1 ?_;exact st.os⟩
 .have hlt:i<kl.2.length:=(List.getElem?_eq_some_iff.mp hx).1;have hdrop:kl.2.drop i=xv::kl.2.drop (i+1):=by
   have:=(List.getElem?_eq_some_iff.mp hx).2;refine wr (this.symm) ?_;exact List.drop_eq_getElem_cons hlt
  rw[hdrop] at hgo;refine ai hgo λu H3 e3 e4=>xA (uA x.r hp' hkl hfit e3) λhH ho1=>?_;subst hH;refine ai e4 λρ1 H4 e5 e6=>ai e6 λz15 H5 e7 e8=>bS (Bd x.r hp' ho1 hkl x.it hx) λrr s3 z=>AX z λcx hr rx hIt1 sb1 tk1 hs1=>?_;subst hr;have r3:=x.r.sameBut sb1 x.uI nb;have f3:cV b s3.heap Φ' ρc env:=x.f.sameBut sb1 (λq=>nfr (.inl q)) (λx c hm q=>nfr (.inr ⟨x,q▸hm⟩));have st3:dw (jP env) Φ s Φ' s3:=by refine wr hs1 ?_;exact st.sameBut sb1 nI nfr
  refine xX hIt1<|xA (wU (prog:=prog) (w:=w) (A:=A) (X:=jP env) hA.hand r3 f3 c (pA.fr sc env) rx e5) λhH4 bk=>?_
  subst hH4;refine bS bk λu_ s4 z=>mE z λf4 r4 st4=>?_;have hIt4:zi s4.heap p o I (i+1):=hIt1.at' λob e=>st4.keep I ob e x.uI nfr;refine bS (XO.X (fl:=z15.1) (ρ':=z15.2) hA r4 f4 c e7) λfc s5 g=>?_;have e8:(match z15.1 with
   |.next=>oM sc (λρ=>Xs sc ρ bd) t (.ref nn) kl z15.2 (kl.2.drop (i+1))
   |.ret v=>pure (.ret v,z15.2):AM (Fl×ao)) H5=some ((fl,ρ'),H'):=e8
  refine g.elim (λe Φ5 r5 f5 st5=>?_) λv cv e Φ5 hv r5 f5 st5=>?_
  .rw[e] at e8;exact⟨kl.2.length+1-(i+1),Nat.sub_lt_sub_left (Nat.lt_succ_of_lt hlt) (Nat.lt_succ_self i),i+1,Φ5,z15.2,H5,rfl,hlt,r5,f5,(st3.trans st4 r4).trans st5 r5,x.uI.on st5 (bW hIt4.obj λob e u_=>⟨ob,e⟩),hIt4.at' λob e=>st5.keep I ob e x.uI nfr,e8⟩
  .rw[e] at e8;obtain⟨hfl,rfl⟩:=bL e8
   cases hfl
   exact hR _ _ ⟨Φ5,hv,r5,f5,(st3.trans st4 r4).trans st5 r5⟩
end
theorem Jd (O:jY prog w b k L) {Xs:Scope->ao->List Stmt->AM (Fl×ao)}(XO:KP prog w b k Xs) (hA:cC k A) (r:RH b s.heap Φ H) (f:cV b s.heap Φ ρ env) (c:gA sc env) {t iter:Expr}{bd:List Stmt}{pos:Pos}{fl:Fl}
  (h:(bif i9 iter then do
  let it<-L.E sc ρ iter
  let l<-aF it
  oM sc (λρ=>Xs sc ρ bd) t it l ρ l.2
  else ak:AM (Fl×ao)) H=some ((fl,ρ'),H')):wpAny (model prog w) A (exec (.For t iter bd [] pos) env) (rY b Φ s fl H' ρ' env) no s:=by
 refine cD h λhn h=>ai h λitv H1 e1 h=>ai h λkl H2 e2 hg=>?_;refine mC (ig e2) λz20 nn o z21 ho hkl=>?_;subst z20;subst z21;refine wpAny_For (gG (O.E hA r f c e1) λitc s1 Φ1 x1 r1 st1=>?_) (iG hn);have f1:=f.cQ st1;refine bS (Bm r1 x1 ho hkl) λit s₂ z=>uS z λp hp hit k2 hI2 hs2=>?_;subst hit;generalize hI:s1.heap.objs.size=I at hI2⊢;have nI:s1.heap.get? I=none:=hI▸cW _;refine be (r1.obj nn p hp) λo' h1' hfit u_=>?_;rw[ho] at h1';obtain rfl:=Option.some.inj h1';have uI0:pX Φ1 I:=r1.ik nI;have nfr:¬jP env I:=λq=>by
  refine xE (Bx f1 q) λo e=>?_;rw[nI] at e;exact ns e
 have nb:b.h.get? I=none:=r1.nb nI;have S0:dw (jP env) Φ1 s1 Φ1 s₂:=.grow k2 (by exact wr hs2 rfl) (by exact wr hs2 rfl) (by exact wr hs2 rfl);refine EU (FL b sc env Xs bd t nn kl Φ1 s1 I p o ((fl,ρ'),H')) ?_ (kl.2.length+1) ⟨0,Φ1,ρ,_,rfl,Nat.zero_le _,r1.grow k2,lS f1 k2,S0,uI0,hI2,hg⟩;rintro n s' ⟨i,Φ',ρc,Hc,rfl,-,x⟩;refine ET (R:=λr s'=>match r with|.ok f=>rY b Φ s fl H' ρ' env f s'|.error e=>cameBackBy (model prog w) A env no e s') XO hA c nb nI nfr hp hkl hfit ?_ x;exact λfc s3 q=>q.after (f.st st1)
theorem Jg (B:fy b) (T:jt prog w b k tab) (O:jY prog w b k L) {Xs:Scope->ao->List Stmt->AM (Fl×ao)}(XO:KP prog w b k Xs) (hA:cC k A) (r:RH b s.heap Φ H) (f:cV b s.heap Φ ρ env) (c:gA sc env) {st:Stmt}{fl:Fl}
  (h:K4 aH tab L Xs sc ρ st H=some ((fl,ρ'),H')):wpAny (model prog w) A (exec st env) (rY b Φ s fl H' ρ' env) no s:=by
 revert h;refine Hz (W:=aH) (tab:=tab) (L0:=L) (L:=lk tab 0) (X0:=Xs) (X:=λu_ u_ u_ u_ u_=>False) (sc:=sc) (ρ:=ρ) st ?_ ?_ ?_ ?_ ?_ ?_ ?_
 .exact λno u_ h=>ag H (no▸h)
 .exact λ{e p} h=>G4 O hA r f c h
 .intro e p h
  induction e with
  |some e=>
   refine ai h λv H1 e1 h=>?_;obtain⟨hfl,rfl⟩:=bL h
   cases hfl
   exact wpAny_Return_some (gG (O.E hA r f c e1) λcv s1 Φ1 x1 r1 st1=>⟨Φ1,x1,r1,f.cQ st1,f.st st1⟩)
  |none=>
   obtain⟨hfl,rfl⟩:=bL h
   cases hfl
   exact wpAny_Return_none ⟨Φ,rfl,r,f,.refl _ _ _⟩
 .intro ts e p h
  rcases ts with _|⟨t,_|_⟩
  .exact ag H h
  .exact Dq B T O hA r f c h
  .exact ag H h
 .intro t a d p h;refine ai h λv H1 e1 h=>wpAny_If (DB (O.T hA r f c e1) λs1 Φ1 r1 st1=>?_)
  induction v with
  |true=>exact bS (XO.X hA r1 (f.cQ st1) c h) λu_ u_ q=>q.after (f.st st1)
  |false=>exact bS (XO.X hA r1 (f.cQ st1) c h) λu_ u_ q=>q.after (f.st st1)
 .intro t bd q p h
  rcases q with _|_
  .exact DE O XO hA r f c h
  .exact ag H h
 .intro t it bd q p h;refine fA h λh1 h2 h=>wr (List.isEmpty_iff.mp h1) ?_;exact Jd O XO hA r f c (by refine wr h2 ?_;exact h)
theorem Ji {S:ao->Stmt->AM (Fl×ao)}(SO:∀{ρ ρ':ao}{st:Stmt}{s:Shared}{Φ:Fi}{H H':AH}{fl:Fl},RH b s.heap Φ H->cV b s.heap Φ ρ env->S ρ st H=some ((fl,ρ'),H')->wpAny (model prog w) A (exec st env) (rY b Φ s fl H' ρ' env) no s)
  {bd:List Stmt} {fl:Fl} (r:RH b s.heap Φ H) (f:cV b s.heap Φ ρ env) (h:JS S ρ bd H=some ((fl,ρ'),H')):wpAny (model prog w) A (execs bd env) (rY b Φ s fl H' ρ' env) no s:=by
 induction bd generalizing ρ s Φ H with
 |nil=>exact nW h (wpAny_execs_nil ⟨Φ,trivial,r,f,.refl _ _ _⟩)
 |cons st bd ih=>
  refine ai h λz1 H1 e1 h1=>wpAny_execs_cons (bS (SO (fl:=z1.1) (ρ':=z1.2) r f e1) λfc s1 g=>?_);have h1:(match z1.1 with
   |.next=>JS S z1.2 bd
   |.ret v=>pure (.ret v,z1.2):AM (Fl×ao)) H1=some ((fl,ρ'),H'):=h1
  refine g.elim (λe Φ1 r1 f1 st1=>?_) λv cv e Φ1 hv r1 f1 st1=>?_
  .rw[e] at h1;exact bS (ih r1 f1 h1) λu_ u_ q=>q.after st1
  .rw[e] at h1;exact nW h1 ⟨Φ1,hv,r1,f1,st1⟩
theorem HO (B:fy b) (T:jt prog w b k tab) (O:jY prog w b k L):∀n,KP prog w b k (bl aH tab L n)
 |0=>⟨λ{_ _ _ _ _ _ _ _ H _ _} _ _ _ _ h=>ag H h⟩
 |n+1=>⟨λhA r f c h=>Ji (λr f h=>Jg B T O (HO B T O n) hA r f c h) r f h⟩
end
end Mi
namespace Mi
open PySem PySem.W PyProof.Rows PySem.SeqAt
structure FU (b:Bs) (a:Addr) (d:Def):Prop where
 ob:∃o fd,b.h.get? a=some o/\o.data=.func fd/\b.h.CodeRec fd.code fd.qualname/\fd.body=.stmts d.body/\fd.scope=d.scope/\fd.closure=[]/\fd.globals=mainGlobals/\fd.builtins=builtinsNs/\
  ∃ds,dF b [] d.dflt ds/\∀(cs:List Value) (s:Shared),(∀a o,b.h.get? a=some o->s.heap.get? a=some o)->cs.length+ds.length=d.params.length->BindsTo s fd ⟨cs,[]⟩ (d.params.zip (cs++ds))
 fn:d.scope.kind=.function
 co:d.scope.isCoroutine=false
 gen:d.scope.isGenerator=false
 nd:(d.scope.names.map (·.1)).Nodup
 Mh:d.params.Nodup
 LB:∀x∈d.params,d.scope.names.lookup x=some .local\/d.scope.names.lookup x=some .cell
theorem kg (x:Str):∀(names:List (Str×NameKind)) (n:Nat) (acc:List (Str×Addr)),(names.lookup x=some .cell\/(acc.lookup x).isSome=true)->((cellsFrom n names acc).lookup x).isSome=true:=by
 intro names
 induction names with
 |nil=>
  intro n acc h
  rcases h with h|h
  .simp at h
  .exact h
 |cons p r ih=>
  intro n acc h;obtain⟨y,kd⟩:=p;unfold cellsFrom
  by_cases hy:x=y
  .subst hy
   rcases h with h|h
   .simp at h;subst h;exact ih _ _ (.inr (by simp[List.lookup_cons]))
   .split
    .exact ih _ _ (.inr (by simp[List.lookup_cons]))
    .exact ih _ _ (.inr h)
  .have h1:List.lookup x ((y,kd)::r)=r.lookup x:=wr List.lookup_cons (wr (beq_eq_false_iff_ne.mpr hy) rfl);rw[h1] at h
   split
   .refine ih _ _ (h.imp_right λh=>?_);refine wr List.lookup_cons (wr (beq_eq_false_iff_ne.mpr hy) ?_);exact h
   .exact ih _ _ h
theorem rO (x:Str) (a:Addr):∀(names:List (Str×NameKind)) (n:Nat) (acc:List (Str×Addr)),(names.map (·.1)).Nodup->(∀y∈names.map (·.1),∀c,(y,c)∉acc)->(∀c,(x,c)∈acc->acc.lookup x=some c)->
  (x,a)∈cellsFrom n names acc->(cellsFrom n names acc).lookup x=some a:=by
 intro names
 induction names with
 |nil=>intro n acc _ _ h m;exact h a m
 |cons p r ih=>
  intro n acc hn hd h m;obtain⟨y,kd⟩:=p;unfold cellsFrom at m⊢;refine xA (List.nodup_cons.mp hn) λn1 n2=>?_;have hd':∀z∈r.map (·.1),∀c,(z,c)∉acc:=λz hz=>hd z (List.mem_cons_of_mem _ hz)
  split
  .rename_i hc;rw[if_pos hc] at m;refine ih _ _ n2 (λz hz c hm=>?_) (λc hm=>?_) m
   .rcases List.mem_cons.mp hm with q|q
    .cases q;exact n1 hz
    .exact hd' z hz c q
   .rcases List.mem_cons.mp hm with q|q
    .cases q;simp[List.lookup_cons]
    .have:x≠y:=by rintro rfl;exact hd x List.mem_cons_self c q
     refine wr List.lookup_cons (wr (beq_eq_false_iff_ne.mpr this) ?_);exact h c q
  .rename_i hc;rw[if_neg hc] at m;exact ih _ _ n2 hd' h m
theorem AN (kd:Str->Option NameKind) (x:Str) (hx:kd x=some .local):∀(l:List (Str×Value)) (m:Str->Option Value),(l.map (·.1)).Nodup->bindL kd l m x=(l.lookup x).or (m x):=by
 intro l
 induction l with
 |nil=>exact λu_ u_=>rfl
 |cons p r ih=>
  intro m hn;obtain⟨y,v⟩:=p;refine xA (List.nodup_cons.mp hn) λn1 n2=>?_;unfold bindL;refine wr (ih _ n2) (wr List.lookup_cons ?_)
  by_cases hy:x=y
  .subst hy;have:r.lookup x=none:=by
    rcases q:r.lookup x with _|u
    .rfl
    .exact absurd (List.mem_map_of_mem (f:=(·.1)) (mem_of_lookup q)) n1
   refine wr this (wr (if_pos hx) ?_);simp
  .refine wr (beq_eq_false_iff_ne.mpr hy) ?_
   split
   .simp[hy]
   .rfl
theorem AO (kd:Str->Option NameKind) (x:Str) (hx:kd x≠some .local):∀(l:List (Str×Value)) (m:Str->Option Value),(l.map (·.1)).Nodup->bindC kd l m x=(l.lookup x).or (m x):=by
 intro l
 induction l with
 |nil=>exact λu_ u_=>rfl
 |cons p r ih=>
  intro m hn;obtain⟨y,v⟩:=p;refine xA (List.nodup_cons.mp hn) λn1 n2=>?_;unfold bindC;refine wr (ih _ n2) (wr List.lookup_cons ?_)
  by_cases hy:x=y
  .subst hy;have:r.lookup x=none:=by
    rcases q:r.lookup x with _|u
    .rfl
    .exact absurd (List.mem_map_of_mem (f:=(·.1)) (mem_of_lookup q)) n1
   refine wr this (wr (if_neg hx) ?_);simp
  .refine wr (beq_eq_false_iff_ne.mpr hy) ?_
   split
   .rfl
   .simp[hy]
section
variable {prog:Program}{w:World}{A:Around}{b:Bs}{X:Addr->Prop}{Φ Φ1 Φ2:Fi}{s s1 s2:Shared}{H H' H2:AH}{sc csc:Scope}{ρ ρ':ao}{env:Env}{k:Nat}{L:Lv}{tab:Tab}
theorem xc {x:Str}{ps:List Str}{vs:List V}{cs:List Value}(h:dF b Φ vs cs) {v:V}(e:(ps.zip vs).lookup x=some v):∃c,(ps.zip cs).lookup x=some c/\VR b Φ v c:=aS.ind (P:=λvs cs=>∀ps:List Str,(ps.zip vs).lookup x=some v->∃c,(ps.zip cs).lookup x=some c/\VR b Φ v c) h (λps e=>by induction ps<;>exact ns e) (λu c vs cs r u_ ih ps e=>by
 induction ps with
 |nil=>exact ns e
 |cons p ps=>
  rw[List.zip_cons_cons,List.lookup_cons] at e⊢;revert e
  rcases x==p with _|_
  .exact ih ps
  .intro e;obtain rfl:=Option.some.inj e;exact⟨c,rfl,r⟩) ps e
theorem xd {β:Type}{ps:List Str}{vs:List β}(h:ps.length=vs.length):(ps.zip vs).map (·.1)=ps:=List.map_fst_zip (Nat.le_of_eq h)
theorem AG {a:Addr}{d:Def}{fd:FuncData}{args:List V}{cs ds:List Value}{h:Heap}(r:RH b s.heap Φ H) (D:FU b a d) (hs:fd.scope=d.scope) (hg:fd.globals=mainGlobals) (hb:fd.builtins=builtinsNs) (ha:dF b Φ args cs) (hd:dF b [] d.dflt ds)
  (hl:args.length+d.dflt.length=d.params.length) (x:InCallC s (callEnvC fd s.heap.objs.size a).locals (bindL (callEnvC fd s.heap.objs.size a).kindOf (d.params.zip (cs++ds)) λu_=>none) (callEnvC fd s.heap.objs.size a).cells
    (bindC (callEnvC fd s.heap.objs.size a).kindOf (d.params.zip (cs++ds)) λu_=>none) s1):
  cV b s1.heap Φ (own d.scope (d.params.zip (args++d.dflt))) (callEnvC fd s.heap.objs.size a)/\gA d.scope (callEnvC fd s.heap.objs.size a)/\(∀a',jP (callEnvC fd s.heap.objs.size a) a'->s.heap.get? a'=none):=by
 have nd:=D.nd;have hk:∀y,(callEnvC fd s.heap.objs.size a).kindOf y=d.scope.names.lookup y:=λy=>by refine wr (hs.symm) ?_;rfl
 have vr:dF b Φ (args++d.dflt) (cs++ds):=ha.app (hd.mono (List.nil_prefix));have keys:(d.params.zip (cs++ds)).map (·.1)=d.params:=xd (by exact wr List.length_append (wr (ha.len.symm) (wr (hd.len.symm) (wr hl rfl))));have knd:((d.params.zip (cs++ds)).map (·.1)).Nodup:=by refine wr keys ?_;exact D.Mh
 have hL:(callEnvC fd s.heap.objs.size a).locals=s.heap.objs.size:=rfl;have hC:(callEnvC fd s.heap.objs.size a).cells=cellsFrom (s.heap.objs.size+1) d.scope.names []:=by refine wr (hs.symm) ?_;rfl
 have high:∀c,s.heap.objs.size<=c->s.heap.get? c=none:=λc hc=>by
  rcases q:s.heap.get? c with _|o
  .rfl
  .exact absurd (Heap.lt_size q) (Nat.not_lt.mpr hc)
 have nL:s.heap.get? (callEnvC fd s.heap.objs.size a).locals=none:=high _ (Nat.le_of_eq hL.symm);have nC:∀y c,(y,c)∈(callEnvC fd s.heap.objs.size a).cells->s.heap.get? c=none:=λy c hm=>high _ (Nat.le_of_lt (x.above y c hm));have nb:∀a,s.heap.get? a=none->b.h.get? a=none:=λa e=>r.nb e;have look:∀y c,(y,c)∈(callEnvC fd s.heap.objs.size a).cells->(callEnvC fd s.heap.objs.size a).cells.lookup y=some c:=λy c hm=>by
  rw[hC] at hm⊢;exact rO y c _ _ _ nd (λu_ u_ u_ h=>nomatch h) (λu_ h=>nomatch h) hm
 refine⟨⟨?_,hg,hb,⟨_,x.toInCall.ns,λy v hy hv=>?_⟩,λy hy hv=>?_,r.ik nL,λy c hm=>r.ik (nC y c hm),nb _ nL,λy c hm=>nb _ (nC y c hm),x.apart,λy c hm=>Nat.ne_of_gt (x.above y c hm),λy c hm=>?_⟩,?_,?_⟩
 .show fd.scope.kind=_;refine wr hs ?_;exact D.fn
 .rw[hk] at hy;rw[fi,hy] at hv;have hv:some (_:Option V)=some (some v):=hv;refine bW (xc vr (Option.some.inj hv)) λc h1 h2=>⟨c,?_,h2⟩;refine wr (AN _ _ (by rw[hk];exact hy) _ _ knd) (wr h1 ?_);rfl
 .rw[hk] at hy;have hy:d.scope.names.lookup y=some .cell:=by
   rcases hy with hy|hy
   .exact hy
   .rw[fi,hy] at hv;cases hv
  have:((callEnvC fd s.heap.objs.size a).cells.lookup y).isSome=true:=by refine wr hC ?_;exact kg y _ _ _ (.inl hy)
  refine xE (Option.isSome_iff_exists.mp this) λc hc=>⟨c,_,hc,x.cell y c hc,λv hv=>?_⟩;rw[fi,hy] at hv;have hv:some (_:Option V)=some (some v):=hv;refine bW (xc vr (Option.some.inj hv)) λc' h1 h2=>⟨c',?_,h2⟩;refine wr (AO _ _ (by rw[hk,hy];decide) _ _ knd) (wr h1 ?_);rfl
 .refine bW (x.cell y c (look y c hm)) λo h1 u_=>⟨o,h1⟩
 .exact⟨λy h=>by refine wr (hk _) ?_;exact h,λy h=>by refine wr (hk _) ?_;exact h,λy h=>.inr (by refine wr (hk _) ?_;exact h),λy h=>by refine wr (hk _) ?_;exact h⟩
 .rintro a' (rfl|⟨y,hm⟩)
  .exact nL
  .exact nC y a' hm
theorem cC.deeper (hA:cC (k+1) A):cC k (A.deeper env):=⟨hA.hand,by
 have:=hA.depth;show A.depth+1+3*k+3<recursionLimit;lia,by
 have:=hA.units;show A.units+3+20*k+40<cLine;lia⟩
set_option backward.match.sparseCases true in
structure oy (prog:Program) (w:World) (b:Bs) (k:Nat) (c:Value) (g:List V->AM V):Prop where
 run:∀{A:Around} {s:Shared} {Φ:Fi} {H H':AH} {args:List V} {cs:List Value} {v:V},cC k A->RH b s.heap Φ H->dF b Φ args cs->g args H=some (v,H')->
  codeAny (model prog w) A (.call c ⟨cs,[]⟩) (λr s'=>match r with|.ok (.ret c)=>Gt b cQ Φ s v H' c s'|.ok _=>False|.error e=>no e s') s
theorem oy.ok {c:Value}{g:List V->AM V}(f:oy prog w b k c g):Dw prog w b k c g:=⟨λhA r ha e=>wpAny_call (f.run hA r ha e)⟩
theorem HK {a:Addr}{d:Def}(B:fy b) (T:jt prog w b k tab) (D:FU b a d):oy prog w b (k+1) (.ref a) (aU aH tab d):=by
 refine⟨λ{A s Φ H H' args cs v} hA r ha e=>?_⟩;obtain⟨o,fd,h1,h2,h3,h4,h5,h6,h7,h8,ds,h9,h10⟩:=D.ob;unfold aU BQ at e
 by_cases hl:args.length+d.dflt.length=d.params.length
 .rw[if_pos hl] at e;dsimp only at e;refine ai e λz1 H1 e1 e2=>?_;obtain⟨fl,ρ'⟩:=z1;have hlen:cs.length+ds.length=d.params.length:=by refine wr (ha.len.symm) (wr (h9.len.symm) ?_);exact hl
  have keys:(d.params.zip (cs++ds)).map (·.1)=d.params:=xd (by exact wr List.length_append (wr hlen rfl));refine codeAny_call_function (by have:=hA.depth;lia) (r.base _ _ h1) h2 (by refine wr h5 ?_;exact D.co) (by refine wr h5 ?_;exact D.gen) h4 ?_ (h10 cs s r.base hlen _ _ _ _ ?_)
  .refine ed h3 λc oc vs tq hc hoc hdc hq=>⟨c,oc,vs,tq,hc,r.base _ _ hoc,hdc,hq⟩
  .refine wr h6 ?_;refine wpAny_newFunctionEnv_cells (by refine wr h5 ?_;exact D.fn) (λy hy=>?_) λenv he s1 x=>?_
   .have hy:y.1∈d.params:=keys▸List.mem_map_of_mem hy;refine wr h5<|(D.LB y.1 hy).imp_right λq=>⟨q,kg _ _ _ _ (.inl q)⟩
   .have he:env=callEnvC fd s.heap.objs.size a:=he;rw[he] at x⊢;refine mE (AG (h:=s.heap) r D h5 h7 h8 ha h9 hl x) λF S N=>?_;have r1:RH b s1.heap Φ H:=r.grow x.toInCall.keep;refine⟨(B.lim.keeps r.base).keeps x.toInCall.keep,codeAny_func (wpAny_mono ((HO B T (Ew B T 24) 8).X hA.deeper r1 F S e1) (λfc s2 g=>?_) λu_ u_ q=>q.elim)⟩;refine tY g λΦ' g1 g2 g3 g4=>fP x.toInCall.same λh' tk hsame=>?_;have st0:dw (jP (callEnvC fd s.heap.objs.size a)) Φ s Φ s1:=by refine wr hsame ?_;exact .grow (λb o e=>by have:=x.toInCall.keep b o e;rw[hsame] at this;exact this) rfl rfl rfl
    have st:dw cQ Φ s Φ' s2:=(st0.trans g4 g2).drop N
    induction fl with
    |next=>
     refine aw e2 ?_
     induction fc<;>first|exact g1.elim|exact⟨Φ',rfl,g2,st⟩
    |ret u=>
     refine aw e2 ?_
     induction fc<;>first|exact g1.elim|exact⟨Φ',g1,g2,st⟩
 .rw[if_neg hl] at e;exact ag H e
end
end Mi
namespace Mi
open PySem PySem.W PyProof.Rows PySem.SeqAt
noncomputable def mkObj (c:Str) (g:List V->AM V) (args:List V):AM V:=do
 let o<-ba (.inst c [])
 let r<-g (o::args)
 match r with
 |.none=>pure o
 |_=>ak
section
variable {prog:Program}{w:World}{A:Around}{b:Bs}{X:Addr->Prop}{Φ Φ1 Φ2:Fi}{s s1 s2:Shared}{H H' H2:AH}{sc csc:Scope}{ρ ρ':ao}{env:Env}{k:Nat}{L:Lv}{tab:Tab}
theorem cC.less {n:Nat}(hA:cC n A) (h:k<=n):cC k A:=⟨hA.hand,by have:=hA.depth;lia,by have:=hA.units;lia⟩
theorem Dw.more {n:Nat}{c:Value}{g:List V->AM V}(f:Dw prog w b k c g) (h:k<=n):Dw prog w b n c g:=⟨λhA=>f.run (hA.less h)⟩
theorem cC.under {C:Addr}{cs:List Value}(hA:cC (k+1) A):cC k (A.under (.builtin "type.__call__" ⟨.ref C::cs,[]⟩)):=by
 have h2:(A.under (.builtin "type.__call__" ⟨.ref C::cs,[]⟩)).depth=A.depth+1:=rfl;have h3:(A.under (.builtin "type.__call__" ⟨.ref C::cs,[]⟩)).units=A.units+(Code.builtin "type.__call__" ⟨[],[]⟩).cUnits:=rfl;have h4:(Code.builtin "type.__call__" ⟨[],[]⟩).cUnits<=10:=by decide+kernel
 exact⟨hA.hand,by have:=hA.depth;lia,by have:=hA.units;lia⟩
theorem Jt {C fI:Addr}{c:Str}{g:List V->AM V}(B:fy b) (hC:b.cl c=some C) (hm:makesIn b.K C=true) (hi:findIn b.K (.ref C) "__init__"=some (some (.ref fI))) (hf:isFn b.K (.ref fI)=true)
  (G:oy prog w b k (.ref fI) g):oy prog w b (k+1) (.ref C) (mkObj c g):=by
 refine⟨λ{A s Φ H H' args cs v} hA r ha e=>?_⟩;obtain⟨o,H1,e1,e⟩:=pW e;refine cF (pW e) λu H2 e2 e3=>?_;refine mE (gT e1) λhfit z1 z2=>?_;subst z1;subst z2;have hu:u=.none/\v=.ref H.nx/\H'=H2:=by
  induction u<;>first|(obtain⟨rfl,rfl⟩:=bL e3;exact⟨rfl,rfl,rfl⟩)|exact(ag H2 e3)
 obtain⟨rfl,rfl,rfl⟩:=hu;obtain⟨hh,gg,d,t,os⟩:=s;have XK:b.K.In hh:=B.L8.keeps r.base;refine(make_core (makes_of XK hm) (looks_findIn XK hi) (λself=>bind_fn XK self (beq_iff_eq.mp hf)) (.inl rfl) ?_);have k1:∀a o,hh.get? a=some o->((hh.push emptyDict).push (instObj C hh.objs.size)).get? a=some o:=λa o e=>Heap.get?_push_of_some _ (Heap.get?_push_of_some _ e);have g2:((hh.push emptyDict).push (instObj C hh.objs.size)).get? hh.objs.size=some emptyDict:=Heap.get?_push_of_some _ (Heap.get?_push_size _ rfl);have g1:((hh.push emptyDict).push (instObj C hh.objs.size)).get? (hh.objs.size+1)=some (instObj C hh.objs.size):=by
  have:=Heap.get?_push_size (hh.push emptyDict) (o:=instObj C hh.objs.size) rfl
  rwa [Heap.size_push] at this
 have n2:hh.get? hh.objs.size=none:=cW _;have n1:hh.get? (hh.objs.size+1)=none:=by
  rcases q:hh.get? (hh.objs.size+1) with _|o
  .rfl
  .exact absurd (Heap.lt_size q) (Nat.not_lt.mpr (Nat.le_succ _))
 have r1:RH b ((hh.push emptyDict).push (instObj C hh.objs.size)) (Φ++[(hh.objs.size+1,hh.objs.size)]) (H.add (.inst c [])):=
  r.add k1 n1 n2 hfit ⟨C,[],0,hC,Nat.succ_ne_self _,g1,g2,trivial⟩ ⟨_,g1⟩ ⟨_,g2⟩
 have st:dw cQ Φ ⟨hh,gg,d,t,os⟩ (Φ++[(hh.objs.size+1,hh.objs.size)]) ⟨(hh.push emptyDict).push (instObj C hh.objs.size),gg,d,t,os⟩:=.add k1 n1 n2 rfl rfl rfl;have ha':dF b (Φ++[(hh.objs.size+1,hh.objs.size)]) (V.ref H.nx::args) (Value.ref (hh.objs.size+1)::cs):=
  ⟨⟨_,by refine wr (r.len.symm) ?_;exact nz _ _,rfl⟩,ha.mono (bT _ _)⟩
 have run:=G.run (hA.under (C:=C) (cs:=cs)) (s:=⟨(hh.push emptyDict).push (instObj C hh.objs.size),gg,d,t,os⟩) r1 ha' e2;refine codeAny_mono run λres s' q=>?_
 induction res with
 |error e=>exact q.elim
 |ok fl=>
  induction fl<;>try exact q.elim
  rename_i cv;refine be q λΦ' q1 q2 q3=>?_;exact⟨q1,Φ',⟨_,Fi.gO q3.pre (by refine wr (r.len.symm) ?_;exact nz _ _),rfl⟩,q2,st.trans q3 q2⟩
end
end Mi
namespace Mi
open PySem
section
variable {α β:Type}{H:AH}
theorem ah {m:AM α}{f:α->AM β}{Q:β->AH->Prop}(h:ok m (λa H=>ok (f a) Q H) H):ok (m>>=f) Q H:=by
 obtain⟨a,H1,e1,b,H2,e2,q⟩:=h;refine⟨b,H2,?_,q⟩;have h:(m>>=f) H=(m H>>=λp=>f p.1 p.2):=rfl;refine wr h (wr e1 ?_);exact e2
theorem aq {a:α}{Q:α->AH->Prop}(h:Q a H):ok (pure a) Q H:=⟨a,H,rfl,h⟩
theorem az {m:AM α}{P Q:α->AH->Prop}(h:ok m P H) (k:∀a H,P a H->Q a H):ok m Q H:=by
 refine cF h λa H1 e1 q=>?_;exact⟨a,H1,e1,k _ _ q⟩
theorem bO {c:Bool}{P:Prop}{m:AM α}{Q:α->AH->Prop}(h:cond c P False) (k:P->ok m Q H):ok (bif c then m else ak) Q H:=by
 induction c with
 |true=>exact k h
 |false=>exact False.elim h
end
structure JH (L0:Lv) (L:Lk):Prop where
 E:∀{sc ρ e Q H},L.E sc ρ e Q H->ok (L0.E sc ρ e) Q H
 T:∀{sc ρ e Q H},L.T sc ρ e Q H->ok (L0.T sc ρ e) Q H
section
variable {tab:Tab}{L0:Lv}{L:Lk}{sc:Scope}{ρ:ao}(S:JH L0 L)
include S
theorem iH {es:List Expr}{Q:List V->AH->Prop}{H:AH}(h:lT L sc ρ es Q H):ok (eJ L0 sc ρ es) Q H:=by
 induction es generalizing Q H with
 |nil=>exact aq h
 |cons e es ih=>exact bO (c:=noStar e) h λh=>ah (az (S.E h) λv H h=>ah (az (ih h) λvs H h=>aq h))
theorem vI {x:Option Expr}{Q:Option Int->AH->Prop}{H:AH}(h:vJ L sc ρ x Q H):ok (dH L0 sc ρ x) Q H:=by
 induction x with
 |none=>exact aq h
 |some e=>exact ah (az (S.E h) λv H h=>ah (az h λi H h=>aq h))
theorem yW {ops:List CmpOp}{es:List Expr}{left:V}{Q:KB}{H:AH}(h:wQ L sc ρ left ops es Q H):ok (rN L0 sc ρ left ops es) Q H:=by
 induction ops generalizing es left Q H with
 |nil=>exact False.elim h
 |cons op ops ih=>
  rcases es with _|⟨e,es⟩
  .exact False.elim h
  rcases ops with _|⟨op',ops⟩
  .exact bO (c:=es.isEmpty&&i9 e) h λh=>ah (S.E h)
  .refine ah (az (S.E h) λr H h=>ah (az h λc H h=>?_))
   induction c with
   |true=>exact ih h
   |false=>exact aq h
omit S in
theorem LW {op:BoolOp}{c:Bool}{P:Prop}{m:AM Bool}{Q:KB}{H:AH}(h:match op with|.And=>cond c P (Q false H)|.Or=>cond c (Q true H) P) (k:P->ok m Q H):ok (qT op c m) Q H:=by
 induction op<;>induction c
 .exact aq h
 .exact k h
 .exact k h
 .exact aq h
theorem Hm {op:BoolOp}{es:List Expr}{Q:KB}{H:AH}(h:BW L sc ρ op es Q H):ok (Hn L0 sc ρ op es) Q H:=by
 induction es generalizing H with
 |nil=>exact False.elim h
 |cons e es ih=>
  rcases es with _|⟨e',es⟩
  .exact ah (S.E h)
  .exact ah (az (S.E h) λr H h=>ah (az h λc H h=>LW h λh=>ih h))
theorem Hk {op:BoolOp}{es:List Expr}{Q:KB}{H:AH}(h:BV L sc ρ op es Q H):ok (Hl L0 sc ρ op es) Q H:=by
 induction es generalizing H with
 |nil=>exact aq h
 |cons e es ih=>exact ah (az (S.T h) λc H h=>LW h λh=>ih h)
omit S in
theorem Bh {x:Str}{Q:KV}{H:AH}(h:Bi sc ρ x Q H):ok (nJ sc ρ x) Q H:=by
 revert h;unfold Bi nJ
 induction (x==("__debug__":Str)||x==("__classdict__":Str))
 .induction (K3 (sc.names.lookup x))
  .exact λh=>bO h λh=>aq h
  .unfold Kz ao.get;intro h;have h:(match ρ.lookup x with|some (some v)=>Q v H|_=>False):=h;show ok (match ρ.lookup x with|some (some v)=>pure v|_=>ak) Q H;revert h
   rcases ρ.lookup x with _|_|v
   .exact False.elim
   .exact False.elim
   .exact λh=>aq h
 .exact False.elim
theorem I3 {es:List Expr}{Q:KV}{H:AH}(h:I4 L sc ρ es Q H):ok (I5 L0 sc ρ es) Q H:=by
 rcases es with _|⟨a,_|⟨t,_|_⟩⟩
 .exact False.elim h
 .exact False.elim h
 .revert h;unfold I4 I5;dsimp only
  rcases bI t with _|ty
  .exact False.elim
  .exact λh=>bO h λh=>ah (S.E h)
 .exact False.elim h
theorem BF {csc:Scope}{elt t iter:Expr}{ifs:List Expr}{Q:KV}{H:AH}(h:BH L0 L sc ρ csc elt t iter ifs Q H):ok (lY L0 sc ρ csc elt t iter ifs) Q H:=by
 exact bO h λh=>ah (az (S.E h) λit H h=>ah (az h λl H h=>bO h λh=>ah h))
omit S in
theorem Bj {f:Str}{v:V}{args:List Expr}{Q:KV}{H:AH}{A:(List V->AH->Prop)->AH->Prop}(a:∀Q H,A Q H->ok (eJ L0 sc ρ args) Q H) (h:aA tab v f A Q H):ok (eX tab L0 sc ρ v f args) Q H:=by
 refine bV h λn ob z1 hat h=>?_;subst z1;unfold eX;refine ah ⟨ob,H,by unfold look;exact wr hat rfl,?_⟩
 induction ob with
 |inst c fs=>
  refine xA h λh1 h2=>?_;dsimp only;refine wr h1 ?_;dsimp only[Option.isSome,cond];have h2:=a _ _ h2
  rcases hm:tab.tg c f with _|g
  .obtain⟨vs,H',-,v',H'',e,-⟩:=h2;unfold bB at e;rw[hm] at e;exact ns e
  .refine ah (az h2 λvs H h=>?_);unfold bB at h;rw[hm] at h;exact h
 |_=>
  dsimp only[Er] at h⊢;revert h;generalize v9 f=o_;rcases o_ with _|k
  .intro h;exact h.elim
  .intro h;refine xA h λh1 h2=>?_;dsimp only;refine wr h1 ?_;refine ah (az (a _ _ h2) λvs H z=>bW z λo' h3 h4=>ah ⟨o',H,by unfold look;exact wr h3 rfl,h4⟩)
theorem Fq {f:Str}{args:List Expr}{Q:KV}{H:AH}(h:Fs tab L sc ρ f args Q H):ok (BM tab L0 sc ρ f args) Q H:=by
 refine bO h λh=>?_;revert h
 induction (f==("isinstance":Str))
 .rcases Dj f with _|k
  .intro h;have h:=iH S h;show ok (match tab.fn f with
    |some g=>do let vs<-eJ L0 sc ρ args;g vs
    |none=>ak) Q H
   unfold ae at h;revert h
   rcases tab.fn f with _|g
   .exact λh=>cF h λvs H' u_ h=>cF h λu_ u_ e u_=>ns e
   .exact λh=>ah h
  .exact λh=>ah (iH S h)
 .exact λh=>I3 S h
theorem Jl {e:Expr}{Q:KB}{H:AH}(h:Jm L sc ρ e Q H):ok (K5 L0 sc ρ e) Q H:=by
 revert h;refine KC (L0:=L0) (L:=L) (sc:=sc) (ρ:=ρ) e ?_ ?_ ?_ ?_ ?_
 .exact λ{op vs p} h=>Hk S h
 .intro op x p h
  induction op with
  |Not=>exact ah (az (S.T h) λb H h=>aq h)
  |_=>exact ah (S.E h)
 .exact λ{t a b p} h=>False.elim h
 .exact λ{l ops cs p} h=>ah (az (S.E h) λb H h=>yW S h)
 .exact λe1 e2 u_ h=>by rw[e2] at h;refine wr e1 ?_;exact ah (S.E h)
theorem Fw {fn:Expr}{args:List Expr}{pos:Pos}{Q:KV}{H:AH}(h:AI tab L sc ρ fn args pos Q H):ok (uK tab L0 sc ρ fn args pos) Q H:=by
 revert h;unfold AI uK
 rcases bI fn with _|f
 .rcases dq fn with _|⟨ob,f,apos⟩
  .exact False.elim
  .refine λh=>bO h λh=>?_;revert h
   rcases bI ob with _|b
   .rcases dq ob with _|_
    .exact False.elim
    .exact λh=>ah (az (S.E h) λo H h=>Bj (λu_ u_=>iH S) h)
   .refine λh=>?_;have h:cond (b==("NAMES":Str)) _ _:=h;show ok (bif b==("NAMES":Str) then _ else _) Q H;revert h
    induction (b==("NAMES":Str))
    .exact λh=>ah (az (Bh h) λo H h=>Bj (λu_ u_=>iH S) h)
    .exact λh=>bO h λh=>ah (iH S h)
 .exact λh=>Fq S h
theorem KD {e:Expr}{Q:KV}{H:AH}(h:LJ tab L0 L sc ρ e Q H):ok (K7 tab L0 sc ρ e) Q H:=by
 revert h;refine HL (tab:=tab) (L0:=L0) (L:=L) (sc:=sc) (ρ:=ρ) e ?_ ?_ ?_ ?_ ?_ ?_ ?_ ?_ ?_ ?_ ?_ ?_ ?_ ?_ ?_
 .exact λu_ e h=>by rw[e] at h;exact False.elim h
 .exact λ{op vs p} h=>ah (az (Hm S h) λb H h=>aq h)
 .exact λ{l op r p} h=>ah (az (S.E h) λa H h=>ah (S.E h))
 .intro op x p h
  induction op with
  |Not=>exact ah (az (S.E h) λa H h=>ah (az h λb H h=>aq h))
  |USub=>exact ah (az (S.E h) λa H h=>ah (az h λb H h=>aq h))
  |_=>exact False.elim h
 .refine λ{t a b p} h=>ah (az (S.T h) λc H h=>?_)
  induction c with
  |true=>exact S.E h
  |false=>exact S.E h
 .exact λ{ks vs p} h=>bO h λh=>h
 .intro x1 x2 x3 x4 h;have h:(match eV (.ListComp x1 x2 x3 x4) with
   |some (elt,t,iter,ifs,csc)=>BH L0 L sc ρ csc elt t iter ifs Q H
   |none=>False):=h
  show ok (match eV (.ListComp x1 x2 x3 x4) with
   |some (elt,t,iter,ifs,csc)=>lY L0 sc ρ csc elt t iter ifs
   |none=>ak) Q H
  revert h
  rcases eV (.ListComp x1 x2 x3 x4) with _|⟨elt,t,iter,ifs,csc⟩
  .exact False.elim
  .exact λh=>BF S h
 .exact λ{l ops cs p} h=>ah (az (S.E h) λa H h=>ah (az (yW S h) λb H h=>aq h))
 .exact λ{fn args kws p} h=>bO h λh=>Fw S h
 .intro c k p h
  cases c<;>first|exact aq h|exact False.elim h
 .exact λ{o f p} h=>bO (c:=jy o) h λh=>ah (S.E h)
 .intro o i p h;have h:(match da i with
   |some (lo,hi)=>L.E sc ρ o (λv H=>vJ L sc ρ lo (λl H=>vJ L sc ρ hi (λh H=>ok (bH v l h) Q H) H) H) H
   |none=>cond (ew i) (L.E sc ρ o (λv H=>L.E sc ρ i (λk H=>ok (gn v k) Q H) H) H) False):=h
  show ok (match da i with
   |some (lo,hi)=>do let v<-L0.E sc ρ o;let l<-dH L0 sc ρ lo;let h<-dH L0 sc ρ hi;bH v l h
   |none=>bif ew i then do let v<-L0.E sc ρ o;let k<-L0.E sc ρ i;gn v k else ak) Q H
  revert h
  rcases da i with _|⟨lo,hi⟩
  .exact λh=>bO h λh=>ah (az (S.E h) λa H h=>ah (S.E h))
  .exact λh=>ah (az (S.E h) λa H h=>ah (az (vI S h) λb H h=>ah (vI S h)))
 .exact λ{x p} h=>Bh h
 .exact λ{es p} h=>ah (iH S h)
 .exact λ{es k p} h=>ah (iH S h)
end
theorem Aj (tab:Tab):∀n,JH (lv tab n) (lk tab n)
 |0=>⟨λh=>h.elim,λh=>h.elim⟩
 |n+1=>⟨λh=>KD (Aj tab n) h,λh=>Jl (Aj tab n) h⟩
end Mi
namespace Mi
open PySem
section
variable {W:WT}{tab:Tab}{L0:Lv}{L:Lk}{sc:Scope}{ρ:ao}
theorem jx {x:Str}{v:V}{K:KR}{H:AH}(h:iM sc ρ x v K H):ok (putN sc ρ x v) K H:=bO h λh=>aq h
theorem v5 {n:Nat}{o:O}{H:AH}(h:H.at_ n=some o):look n H=some (o,H):=by unfold look;exact wr h rfl
theorem jo {e:Expr}{es:List Expr}{x:Str}{v:V}{vs:List V}{K:KR}{H:AH}(hn:bI e=some x) (h:ok (do let ρ<-putN sc ρ x v;hG sc ρ es vs) K H):ok (hG sc ρ (e::es) (v::vs)) K H:=by
 show ok (match bI e with
  |some x=>do let ρ<-putN sc ρ x v;hG sc ρ es vs
  |none=>ak) K H
 refine wr hn ?_;exact h
theorem eQ {es:List Expr}{x:Str}{xs:List Str}(h:namesOf es=some (x::xs)):∃e r,es=e::r/\bI e=some x/\namesOf r=some xs:=by
 rcases es with _|⟨e,r⟩
 .cases h
 .have h:(match bI e,namesOf r with
   |some x,some xs=>some (x::xs)
   |_,_=>none)=some (x::xs):=h
  revert h
  rcases h1:bI e with _|y
  .exact λh=>ns h
  .rcases h2:namesOf r with _|ys
   .exact λh=>ns h
   .intro h;cases h;exact⟨e,r,rfl,h1,h2⟩
theorem oH {es:List Expr}(h:namesOf es=some []):es=[]:=by
 rcases es with _|⟨e,r⟩
 .rfl
 .have h:(match bI e,namesOf r with
   |some x,some xs=>some (x::xs)
   |_,_=>none)=some []:=h
  revert h
  rcases bI e with _|y
  .exact λh=>ns h
  .rcases namesOf r with _|ys
   .exact λh=>ns h
   .intro h;cases h
theorem me {t:Expr}{v:V}{K:KR}{H:AH}(h:jn sc t ρ v K H):ok (gR sc t ρ v) K H:=by
 revert h;refine HS t (λu_ u_ no h=>?_) ?_ ?_
 .rw[no] at h;exact False.elim h
 .exact λ{x p} h=>jx h
 .intro es k p h;have h:(match namesOf es with
   |some [x,y]=>tZ v (λa b=>iM sc ρ x a (λρ H=>iM sc ρ y b K H) H) H
   |some [x,y,z]=>Lb v (λa b c=>iM sc ρ x a (λρ H=>iM sc ρ y b (λρ H=>iM sc ρ z c K H) H) H) H
   |_=>False):=h
  revert h
  rcases hn:namesOf es with _|⟨_|⟨x,_|⟨y,_|⟨z,_|_⟩⟩⟩⟩
  .exact False.elim
  .exact False.elim
  .exact False.elim
  .obtain⟨e1,r1,rfl,h1,hn⟩:=eQ hn;obtain⟨e2,r2,rfl,h2,hn⟩:=eQ hn;obtain rfl:=oH hn;refine λh=>eK h λn a b z1 q1 q2=>?_;subst z1;exact ah ⟨_,H,v5 q1,jo h1 (ah (az (jx q2) λρ H h=>jo h2 (ah (az (jx h) λρ H h=>aq h))))⟩
  .obtain⟨e1,r1,rfl,h1,hn⟩:=eQ hn;obtain⟨e2,r2,rfl,h2,hn⟩:=eQ hn;obtain⟨e3,r3,rfl,h3,hn⟩:=eQ hn;obtain rfl:=oH hn;refine λh=>F4 h λn a b c z1 q1 q2=>?_;subst z1;exact ah ⟨_,H,v5 q1,jo h1 (ah (az (jx q2) λρ H h=>jo h2 (ah (az (jx h) λρ H h=>jo h3 (ah (az (jx h) λρ H h=>aq h))))))⟩
  .exact False.elim
theorem DQ (S:JH L0 L) {t:Expr}{v:V}{K:KR}{H:AH}(h:zz L sc ρ t v K H):ok (iU L0 sc ρ t v) K H:=by
 revert h;refine DP (L0:=L0) (L:=L) (sc:=sc) (ρ:=ρ) (v:=v) t ?_ ?_ ?_ ?_
 .exact λe1 e2 h=>by rw[e2] at h;refine wr e1 ?_;exact me h
 .exact λ{o f p} h=>ah (az (S.E h) λov H h=>ah (az h λu_ H h=>aq h))
 .intro o i p h;have h:(match da i with
   |some (lo,hi)=>L.E sc ρ o (λov H=>vJ L sc ρ lo (λl H=>vJ L sc ρ hi (λh H=>ok (cM ov l h v) (λu_ H=>K ρ H) H) H) H) H
   |none=>cond (ew i) (L.E sc ρ o (λov H=>L.E sc ρ i (λiv H=>ok (putItem ov iv v) (λu_ H=>K ρ H) H) H) H) False):=h
  show ok (match da i with
   |some (lo,hi)=>do let ov<-L0.E sc ρ o;let l<-dH L0 sc ρ lo;let h<-dH L0 sc ρ hi;cM ov l h v;pure ρ
   |none=>bif ew i then do let ov<-L0.E sc ρ o;let iv<-L0.E sc ρ i;putItem ov iv v;pure ρ else ak) K H
  revert h
  rcases da i with _|⟨lo,hi⟩
  .exact λh=>bO h λh=>ah (az (S.E h) λa H h=>ah (az (S.E h) λa H h=>ah (az h λu_ H h=>aq h)))
  .exact λh=>ah (az (S.E h) λa H h=>ah (az (vI S h) λb H h=>ah (az (vI S h) λb H h=>ah (az h λu_ H h=>aq h))))
 .intro es k p h;have h:(match oP es with
   |some (o,f,o',f')=>tZ v (λa b=>L.E sc ρ o (λov H=>ok (bZ ov f a) (λu_ H=>L.E sc ρ o' (λov H=>ok (bZ ov f' b) (λu_ H=>K ρ H) H) H) H) H) H
   |none=>jn sc (.Tuple es k p) ρ v K H):=h
  show ok (match oP es with
   |some (o,f,o',f')=>do let ab<-two v;let ov<-L0.E sc ρ o;bZ ov f ab.1;let ov<-L0.E sc ρ o';bZ ov f' ab.2;pure ρ
   |none=>gR sc (.Tuple es k p) ρ v) K H
  revert h
  rcases oP es with _|⟨o,f,o',f'⟩
  .exact me
  .refine λh=>eK h λn a b z3 h1 h2=>?_;subst z3;refine ah ⟨(a,b),H,?_,ah (az (S.E h2) λov H h=>ah (az h λu_ H h=>ah (az (S.E h) λov H h=>ah (az h λu_ H h=>aq h))))⟩;show(look n>>=_) H=_;show(look n H>>=_)=_;refine wr (v5 h1) ?_;rfl
theorem Ie (S:JH L0 L) {e:Expr}{Q:KV}{H:AH}(h:Ig L0 L sc ρ e Q H):ok (rhs L0 sc ρ e) Q H:=by
 revert h;unfold Ig rhs
 rcases eV e with _|⟨elt,t,iter,ifs,csc⟩
 .exact λh=>bO h λh=>S.E h
 .exact λh=>BF S h
theorem Jj {S:ao->Stmt->KF->AH->Prop}{S0:ao->Stmt->AM (Fl×ao)}(h:∀ρ s K H,S ρ s K H->ok (S0 ρ s) (λr H=>K r.1 r.2 H) H) {ss:List Stmt}{K:KF}{H:AH}(x:E0 S ρ ss K H):ok (JS S0 ρ ss) (λr H=>K r.1 r.2 H) H:=by
 induction ss generalizing ρ H with
 |nil=>exact aq x
 |cons s r ih=>
  refine ah (az (h _ _ _ _ x) λq H x=>?_);have x:eA q.1 (E0 S q.2 r K H) (λv=>K (.ret v) q.2 H):=x;show ok (match q.1 with
   |.next=>JS S0 q.2 r
   |.ret v=>pure (.ret v,q.2)) _ H
  revert x
  cases q.1 with
  |next=>exact λx=>ih x
  |ret v=>exact λx=>aq x
theorem Jh (S:JH L0 L) {X0:Scope->ao->List Stmt->AM (Fl×ao)}{X:Scope->ao->List Stmt->KF->AH->Prop}(hX:∀sc ρ b K H,X sc ρ b K H->ok (X0 sc ρ b) (λr H=>K r.1 r.2 H) H)
  {s:Stmt} {K:KF} {H:AH} (h:G5 W L0 L X0 X sc ρ s K H):ok (K4 W tab L0 X0 sc ρ s) (λr H=>K r.1 r.2 H) H:=by
 revert h;refine Hz (W:=W) (tab:=tab) (L0:=L0) (L:=L) (X0:=X0) (X:=X) (sc:=sc) (ρ:=ρ) s ?_ ?_ ?_ ?_ ?_ ?_ ?_
 .exact λu_ no h=>by rw[no] at h;exact False.elim h
 .exact λ{e p} h=>bO (c:=ja e) h λh=>ah (az (S.E h) λv H h=>aq h)
 .intro e p h
  induction e with
  |none=>exact aq h
  |some e=>exact ah (az (S.E h) λv H h=>aq h)
 .intro ts e p h
  rcases ts with _|⟨t,_|_⟩
  .exact False.elim h
  .exact bO (c:=dg t e&&noStar t) h λh=>ah (az (Ie S h) λv H h=>ah (az (DQ S h) λv H h=>aq h))
  .exact False.elim h
 .refine λ{t a b p} h=>ah (az (S.T h) λc H h=>?_)
  induction c with
  |true=>exact hX _ _ _ _ _ h
  |false=>exact hX _ _ _ _ _ h
 .intro t b q p h
  rcases q with _|_
  .exact h
  .exact False.elim h
 .exact λ{t i b q p} h=>bO (c:=q.isEmpty&&i9 i) h λh=>ah (az (S.E h) λit H h=>ah (az h λl H h=>h))
theorem FD (S:JH L0 L) {n:Nat}{ss:List Stmt}{K:KF}{H:AH}(h:JT W tab L0 L n sc ρ ss K H):ok (bl W tab L0 n sc ρ ss) (λr H=>K r.1 r.2 H) H:=by
 induction n generalizing sc ρ ss K H with
 |zero=>exact False.elim h
 |succ n ih=>exact Jj (λu_ u_ u_ u_ h=>Jh S (λu_ u_ u_ u_ u_ h=>ih h) h) h
theorem Ic {d:Def}{args:List V}{Q:KV}{H:AH}(h:runK W tab d args Q H):ok (aU W tab d args) Q H:=by
 revert h;unfold runK aU
 rcases BQ d.params args d.dflt with _|b
 .exact False.elim
 .refine λh=>ah (az (FD (Aj tab 24) h) λq H h=>?_);have h:eA q.1 (Q .none H) (λv=>Q v H):=h;show ok (match q.1 with
   |.ret v=>pure v
   |.next=>pure .none) Q H
  revert h
  cases q.1 with
  |next=>exact λh=>aq h
  |ret v=>exact λh=>aq h
end
section
variable {T:ao->AM Bool}{B:ao->AM (Fl×ao)}
theorem kS:∀{n m:Nat} {ρ:ao} {H:AH} {r:Fl×ao} {H':AH},cJ T B n ρ H=some (some r,H')->n<=m->cJ T B m ρ H=some (some r,H'):=by
 intro n
 induction n with
 |zero=>intro m ρ H r H' h _;exact ns (congrArg Prod.fst (Option.some.inj h))
 |succ n ih=>
  intro m ρ H r H' h hm
  rcases m with _|m
  .exact absurd hm (Nat.not_succ_le_zero _)
  have hm:n<=m:=Nat.le_of_succ_le_succ hm;have e:∀k,cJ T B (k+1) ρ H=(T ρ H>>=λp=>(if p.1=true then(do
   let(f,ρ)<-B ρ
   match f with
   |.next=>cJ T B k ρ
   |.ret v=>pure (some (.ret v,ρ)):AM (Option (Fl×ao))) else pure (some (.next,ρ))) p.2):=λk=>rfl
  rw[e] at h⊢;revert h;generalize T ρ H=o_;rcases o_ with _|p
  .intro h;exact ns h
  .intro h;obtain⟨c,H1⟩:=p
   induction c with
   |false=>exact h
   |true=>
    have h:(B ρ H1>>=λq=>(match q.1.1 with
     |.next=>cJ T B n q.1.2
     |.ret v=>pure (some (.ret v,q.1.2)):AM (Option (Fl×ao))) q.2)=some (some r,H'):=h
    show(B ρ H1>>=λq=>(match q.1.1 with
     |.next=>cJ T B m q.1.2
     |.ret v=>pure (some (.ret v,q.1.2)):AM (Option (Fl×ao))) q.2)=some (some r,H')
    revert h;generalize B ρ H1=o_;rcases o_ with _|q
    .intro h;exact ns h
    .intro h;obtain⟨⟨f,ρ'⟩,H2⟩:=q
     induction f with
     |next=>exact ih h hm
     |ret v=>exact h
theorem mF {n:Nat}{ρ:ao}{H:AH}{r:Fl×ao}{H':AH}(h:cJ T B n ρ H=some (some r,H')):aH T B ρ H=some (r,H'):=by
 unfold aH;have hx:∃n r H',cJ T B n ρ H=some (some r,H'):=⟨n,r,H',h⟩;refine wr (dif_pos hx)<|fP hx.choose_spec λr2 H2 h2=>?_
 have:(some r2,H2)=(some r,H'):=by
  rcases Nat.le_total n hx.choose with l|l
  .have:=kS h l;rw[h2] at this;exact Option.some.inj this
  .have:=kS h2 l;rw[h] at this;exact(Option.some.inj this).symm
 dsimp only;refine wr h2<|xA (Prod.mk.inj this) λh3 h4=>?_
 cases Option.some.inj h3
 subst h4;rfl
end
end Mi
namespace Mi
open PySem
noncomputable def stK:List Stmt->Option (Expr×Expr×List Stmt×List Stmt)
 |.Expr e _::_=>some (e,e,[],[])
 |.Return (some e) _::_=>some (e,e,[],[])
 |.Assign _ e _::_=>some (e,e,[],[])
 |.If t a b _::_=>some (t,t,a,b)
 |.While t a _ _::_=>some (t,t,a,[])
 |.For t i a _ _::_=>some (t,i,a,[])
 |_=>none
noncomputable def pick:List Stmt->List Nat->List Stmt
 |b,[]=>b
 |b,[i]=>b.drop i
 |b,i::s::r=>(stK (b.drop i)).elim [] λq=>pick (bif Nat.beq s 0 then q.2.2.1 else q.2.2.2) r
noncomputable abbrev L0 (tab:Tab):Lv:=lv tab 24
noncomputable abbrev LL (tab:Tab):Lk:=lk tab 24
noncomputable def bU (tab:Tab) (d:Def) (n:Nat) (p:List Nat) (ρ:ao) (K:KF) (H:AH):Prop:=
 E0 (G5 aH (L0 tab) (LL tab) (bl aH tab (L0 tab) n) (JT aH tab (L0 tab) (LL tab) n) d.scope) ρ (pick d.body p) K H
noncomputable def y0 (tab:Tab) (d:Def) (n:Nat) (p:List Nat) (ρ:ao):AM (Fl×ao):=(stK (pick d.body p)).elim ak λq=>bl aH tab (L0 tab) n d.scope ρ q.2.2.1
noncomputable def testM (tab:Tab) (d:Def) (p:List Nat) (ρ:ao):AM Bool:=(stK (pick d.body p)).elim ak λq=>(L0 tab).T d.scope ρ q.1
def gz (tab:Tab) (d:Def) (n:Nat) (p:List Nat) (ρ:ao) (K:KF) (H:AH):Prop:=(stK (pick d.body p)).elim False λq=>JT aH tab (L0 tab) (LL tab) n d.scope ρ q.2.2.1 K H
def fN (tab:Tab) (d:Def) (p:List Nat) (ρ:ao) (K:KB) (H:AH):Prop:=(stK (pick d.body p)).elim False λq=>(LL tab).T d.scope ρ q.1 K H
theorem He {tab:Tab}{d:Def}{n:Nat}{p:List Nat}{ρ:ao}{K:KF}{H:AH}(h:gz tab d n p ρ K H):ok (y0 tab d n p ρ) (λr H=>K r.1 r.2 H) H:=by
 unfold gz at h;unfold y0;generalize stK (pick d.body p)=l at h⊢
 induction l with
 |none=>exact h.elim
 |some q=>exact FD (Aj tab 24) h
theorem F9 {tab:Tab}{d:Def}{p:List Nat}{ρ:ao}{K:KB}{H:AH}(h:fN tab d p ρ K H):ok (testM tab d p ρ) K H:=by
 unfold fN at h;unfold testM;generalize stK (pick d.body p)=l at h⊢
 induction l with
 |none=>exact h.elim
 |some q=>exact(Aj tab 24).T h
noncomputable def bM (tab:Tab) (d:Def) (n:Nat) (p:List Nat) (ρ:ao):AM (Fl×ao):=aH (testM tab d p) (y0 tab d n p) ρ
def fC (tab:Tab) (d:Def) (n:Nat) (p:List Nat) (ρ:ao) (x:V) (K:KF) (H:AH):Prop:=(stK (pick d.body p)).elim False λq=>jn d.scope q.1 ρ x (λρ H=>JT aH tab (L0 tab) (LL tab) n d.scope ρ q.2.2.1 K H) H
noncomputable def d9 (tab:Tab) (d:Def) (n:Nat) (p:List Nat) (it:V) (l:Nat×List V) (ρ:ao):AM (Fl×ao):=(stK (pick d.body p)).elim ak λq=>oM d.scope (λρ=>bl aH tab (L0 tab) n d.scope ρ q.2.2.1) q.1 it l ρ l.2
noncomputable def Bq (l:List Stmt):Bool:=(stK l).isSome
noncomputable def rg:V->Bool
 |.ext _=>false
 |_=>true
theorem zH:∀{v:V},rg v=true->A7 v v=true
 |.none,_=>rfl
 |.bool b,_=>by induction b<;>rfl
 |.int i,_=>decide_eq_true rfl
 |.str s,_=>beq_self_eq_true s
 |.ref n,_=>Nat.beq_refl n
theorem oF:∀{l:List V},(∀v∈l,rg v=true)->qy l l=true
 |[],_=>rfl
 |v::l,h=>by
  show(A7 v v&&qy l l)=true;refine wr (zH (h v List.mem_cons_self)) (wr (oF λu hu=>h u (List.mem_cons_of_mem _ hu)) ?_);rfl
theorem kZ {v:V}{kl:Nat×List V}{Q:Unit->AH->Prop}{H:AH}(h:aF v H=some (kl,H)) (n:∀v∈kl.2,rg v=true) (q:Q () H):ok (qe v kl) Q H:=by
 refine ah ⟨kl,H,h,?_⟩;dsimp only;refine wr (show(Nat.beq kl.1 kl.1)=true from Nat.beq_refl _) (wr (oF n) ?_);exact aq q
noncomputable def tK (I:Nat->ao->AH->Prop) (Q:Fl×ao->AH->Prop) (i:Nat):KF:=λf ρ H=>eA f (I (i+1) ρ H) (λv=>Q (.ret v,ρ) H)
theorem dJ {tab:Tab}{d:Def}{n:Nat}{p:List Nat}{it:V}{l:Nat×List V}(I:Nat->ao->AH->Prop) {Q:Fl×ao->AH->Prop}{ρ:ao}{H:AH}(h0:I 0 ρ H) (hn:∀v∈l.2,rg v=true)
  (hs:∀i ρ H,I i ρ H->aF it H=some (l,H))
  (hp:Bq (pick d.body p)=true)
  (step:∀i ρ H x,l.2[i]? =some x->I i ρ H->fC tab d n p ρ x (tK I Q i) H)
  (last:∀ρ H,I l.2.length ρ H->Q (.next,ρ) H):ok (d9 tab d n p it l ρ) Q H:=by
 unfold d9;unfold fC at step;unfold Bq at hp;generalize stK (pick d.body p)=a at step hp⊢;obtain _|q:=a
 .exact nb hp
 have key:∀(k i:Nat) (ρ:ao) (H:AH),i+k=l.2.length->I i ρ H->ok (oM d.scope (λρ=>bl aH tab (L0 tab) n d.scope ρ q.2.2.1) q.1 it l ρ (l.2.drop i)) Q H:=by
  intro k
  induction k with
  |zero=>
   intro i ρ H hi h;refine wr (List.drop_of_length_le (by lia))<|ah (kZ (hs _ _ _ h) hn (aq (last _ _ ?_)))
   have:i=l.2.length:=by assumption
   refine wr (this.symm) ?_;exact h
  |succ k ih=>
   intro i ρ H hi h;have hlt:i<l.2.length:=by lia
   refine wr (List.drop_eq_getElem_cons hlt)<|ah (kZ (hs _ _ _ h) hn ?_)
   have hx:l.2[i]? =some l.2[i]:=List.getElem?_eq_getElem hlt;refine ah (az (me (step i ρ H _ hx h)) λρ H h=>ah (az (FD (Aj tab 24) h) λq H h=>?_));obtain⟨f,ρ⟩:=q
   induction f with
   |next=>exact ih (i+1) ρ H (by lia) h
   |ret v=>exact aq h
 have:=key l.2.length 0 ρ H (by lia) h0
 rwa [List.drop_zero] at this
noncomputable def Kt:Expr->List Expr
 |.BoolOp _ vs _=>vs
 |.BinOp l _ r _=>[l,r]
 |.UnaryOp _ x _=>[x]
 |.IfExp t a b _=>[t,a,b]
 |.List es _=>es
 |.Tuple es _ _=>es
 |.Compare l _ cs _=>l::cs
 |.Attribute o _ _=>[o]
 |.Subscript o i _=>[o,i]
 |.Call f args _ _=>f::args
 |_=>[]
noncomputable def Fe:Nat->Expr->List (Expr×Expr×Expr×List Expr×Scope)
 |0,_=>[]
 |n+1,e=>(eV e).elim ((Kt e).flatMap (Fe n)) λc=>[c]
noncomputable def kJ (d:Def) (p:List Nat) (k:Nat):Option (Expr×Expr×Expr×List Expr×Scope):=(stK (pick d.body p)).elim none λq=>(Fe 12 q.2.1)[k]?
noncomputable def I9 {α:Type}(o:Option α):Bool:=o.isSome
noncomputable def dC (tab:Tab) (d:Def) (n:Nat) (p:List Nat) (k:Nat) (ρ:ao) (it:V) (l:Nat×List V):AM (List V):=(kJ d p k).elim ak λc=>gy (lv tab n) c.2.2.2.2 it l c.2.1 c.2.2.2.1 c.1 (own c.2.2.2.2 []++ρ) l.2 []
noncomputable def ib (d:Def) (p:List Nat) (k:Nat) (ρ:ao):ao:=(kJ d p k).elim [] λc=>own c.2.2.2.2 []++ρ
def Kw (L:Lk) (sc:Scope) (ρ:ao) (es:List Expr) (Q:KB) (H:AH):Prop:=match es with
 |[]=>Q true H
 |[c]=>L.T sc ρ c Q H
 |_=>False
theorem Jb {L0:Lv}{L:Lk}(S:JH L0 L) {sc:Scope}{ρ:ao}{es:List Expr}{Q:KB}{H:AH}(h:Kw L sc ρ es Q H):ok (Ja L0 sc ρ es) Q H:=by
 rcases es with _|⟨c,_|_⟩
 .exact aq h
 .exact S.T h
 .exact h.elim
def fp (tab:Tab) (d:Def) (n:Nat) (p:List Nat) (k:Nat) (ρ:ao) (x:V) (Q:ao->List V->AH->Prop) (H:AH):Prop:=(kJ d p k).elim False λc=>
 jn c.2.2.2.2 c.2.1 ρ x (λρ H=>Kw (lk tab n) c.2.2.2.2 ρ c.2.2.2.1 (λb H=>cond b ((lk tab n).E c.2.2.2.2 ρ c.1 (λv H=>Q ρ [v] H) H) (Q ρ [] H)) H) H
def tC (I:Nat->List V->ao->AH->Prop) (i:Nat) (acc:List V) (ρ:ao) (vs:List V) (H:AH):Prop:=I (i+1) (acc++vs) ρ H
theorem ee {tab:Tab}{d:Def}{n:Nat}{p:List Nat}{k:Nat}{it:V}{l:Nat×List V}(I:Nat->List V->ao->AH->Prop) {Q:List V->AH->Prop}{ρ:ao}{H:AH}(h0:I 0 [] (ib d p k ρ) H) (hn:∀v∈l.2,rg v=true)
  (hs:∀i acc ρ H,I i acc ρ H->aF it H=some (l,H))
  (hp:I9 (kJ d p k)=true)
  (step:∀i acc ρ H x,l.2[i]? =some x->I i acc ρ H->fp tab d n p k ρ x (tC I i acc) H)
  (last:∀acc ρ H,I l.2.length acc ρ H->Q acc H):ok (dC tab d n p k ρ it l) Q H:=by
 unfold dC;unfold fp at step;unfold ib at h0;generalize kJ d p k=a at step h0 hp⊢;obtain _|⟨elt,t,iter,ifs,csc⟩:=a
 .exact nb hp
 have S:=Aj tab n;have key:∀(j i:Nat) (acc:List V) (ρ:ao) (H:AH),i+j=l.2.length->I i acc ρ H->ok (gy (lv tab n) csc it l t ifs elt ρ (l.2.drop i) acc) Q H:=by
  intro j
  induction j with
  |zero=>
   intro i acc ρ H hi h;refine wr (List.drop_of_length_le (by lia))<|ah (kZ (hs _ _ _ _ h) hn (aq (last acc ρ H ?_)))
   have:i=l.2.length:=by assumption
   refine wr (this.symm) ?_;exact h
  |succ j ih=>
   intro i acc ρ H hi h;have hlt:i<l.2.length:=by lia
   refine wr (List.drop_eq_getElem_cons hlt)<|ah (kZ (hs _ _ _ _ h) hn ?_)
   have hx:l.2[i]? =some l.2[i]:=List.getElem?_eq_getElem hlt;refine ah (az (me (step i acc ρ H _ hx h)) λρ H h=>ah ?_);refine az (Jb S h) λb H h=>?_
   induction b with
   |true=>exact ah (az (S.E h) λv H h=>ih (i+1) _ ρ H (by lia) h)
   |false=>
    have h:I (i+1) (acc++[]) ρ H:=h;rw[List.append_nil] at h;exact ih (i+1) acc ρ H (by lia) h
 have:=key l.2.length 0 [] _ H (by lia) h0
 rwa [List.drop_zero] at this
end Mi
namespace Mi
open PySem
noncomputable def defsOf:List Stmt->List (Str×Def)
 |[]=>[]
 |.FunctionDef name args body _ _ _ scope _ _ _::r=>(name,⟨args.args.map (·.arg),body,scope,args.defaults.map λe=>match e with|.Constant (.bool b) _ _=>.bool b|.Constant (.int b) _ _=>.int b|_=>.none⟩)::defsOf r
 |_::r=>defsOf r
noncomputable def Fh:List Stmt->List (Str×List (Str×Def))
 |[]=>[]
 |.ClassDef name _ _ body _ _ _ _ _ _ _::r=>(name,defsOf body)::Fh r
 |_::r=>Fh r
noncomputable def Ma:List (Str×Def):=defsOf PySem.Challenge.pw_pq0325_01.main.body
noncomputable def KJ:List (Str×List (Str×Def)):=Fh PySem.Challenge.pw_pq0325_01.main.body
noncomputable def HC:Def:=⟨[],[],⟨.function,[],false,false,[]⟩,[]⟩
noncomputable def fD (x:Str):Def:=(Ma.lookup x).getD HC
noncomputable def mD (c m:Str):Def:=(((KJ.lookup c).getD []).lookup m).getD HC
noncomputable def fin (Q:KV):KF:=λf u_ H=>eA f (Q .none H) (λv=>Q v H)
end Mi
namespace Mi
open PySem
noncomputable def ke:List (Str×Def):=Ma++[(("put_rows_textprops":Str),fD "put_rows")]
noncomputable def eW:List (Str×List (Str×Def)):=KJ.filter λp=> !(By p.1).isEmpty
noncomputable def aa:Nat->Tab
 |0=>⟨λu_=>none,λu_ u_=>none⟩
 |n+1=>⟨λx=>match ke.lookup x with
   |some d=>some (aU aH (aa n) d)
   |none=>match eW.lookup x with
    |some ms=>match ms.lookup ("__init__":Str) with
     |some d=>some (mkObj x (aU aH (aa n) d))
     |none=>none
    |none=>none,
  λc m=>match eW.lookup c with
   |some ms=>match ms.lookup m with
    |some d=>some (aU aH (aa n) d)
    |none=>none
   |none=>none⟩
section
variable {α β:Type}{H H':AH}{Q:α->AH->Prop}
theorem cA {m:AM α}{v:α}(e:m H=some (v,H')):ok m Q H=Q v H':=by
 apply propext
 constructor
 .rintro⟨a,H1,e1,q⟩;rw[e] at e1;obtain⟨rfl,rfl⟩:=Prod.mk.inj (Option.some.inj e1);exact q
 .intro q;exact⟨_,_,e,q⟩
theorem cz {m:AM α}{v:α}(e:m H=some (v,H')) (q:Q v H'):ok m Q H:=⟨_,_,e,q⟩
end
theorem aM {b:Bool}{A B:Prop}(e:b=true) (k:A):cond b A B:=by refine wr e ?_;exact k
theorem aJ {b:Bool}{A B:Prop}(e:b=false) (k:B):cond b A B:=by refine wr e ?_;exact k
theorem iI {b:Bool}{A B:Prop}(e:b=true) (k:B):cond (!b) A B:=by refine wr e ?_;exact k
theorem jG {b:Bool}{A B:Prop}(e:b=false) (k:A):cond (!b) A B:=by refine wr e ?_;exact k
section
variable {H:AH}{Q:KV}{QB:KB}{QU:Unit->AH->Prop}
theorem CE {b:Bool}:ok (ck (.bool b)) QB H=QB b H:=cA rfl
theorem aj {b:Bool}(k_:QB b H):ok (ck (.bool b)) QB H:=(CE).mpr k_
theorem Ej {i:Int}{Q:Int->AH->Prop}:ok (aR (.int i)) Q H=Q i H:=cA rfl
theorem aP {i:Int}{Q:Int->AH->Prop}(k_:Q i H):ok (aR (.int i)) Q H:=(Ej).mpr k_
theorem iC {x y:Int}:ok (dI .Add (.int x) (.int y)) Q H=Q (.int (x+y)) H:=cA rfl
theorem aC {x y:Int}(k_:Q (.int (x+y)) H):ok (dI .Add (.int x) (.int y)) Q H:=(iC).mpr k_
theorem aT {x y:Int}(k_:Q (.int (x-y)) H):ok (dI .Sub (.int x) (.int y)) Q H:=Eq.mpr (cA rfl) k_
theorem Ke {x y:Int}:ok (bQ .Lt (.int x) (.int y)) QB H=QB (decide (x<y)) H:=cA rfl
theorem cU {x y:Int}(k_:QB (decide (x<y)) H):ok (bQ .Lt (.int x) (.int y)) QB H:=(Ke).mpr k_
theorem kn {x y:Int}(k_:QB (decide (x<=y)) H):ok (bQ .LtE (.int x) (.int y)) QB H:=Eq.mpr (cA rfl) k_
theorem Kg {x y:Int}:ok (bQ .Gt (.int x) (.int y)) QB H=QB (decide (x>y)) H:=cA rfl
theorem bN {x y:Int}(k_:QB (decide (x>y)) H):ok (bQ .Gt (.int x) (.int y)) QB H:=(Kg).mpr k_
theorem q8 {x y:Int}(k_:QB (decide (x>=y)) H):ok (bQ .GtE (.int x) (.int y)) QB H:=Eq.mpr (cA rfl) k_
theorem Ir {x y:Int}:ok (bQ .Eq (.int x) (.int y)) QB H=QB (x==y) H:=cA rfl
theorem ej {x y:Int}(k_:QB (x==y) H):ok (bQ .Eq (.int x) (.int y)) QB H:=(Ir).mpr k_
theorem Io {x y:Int}:ok (bQ .NotEq (.int x) (.int y)) QB H=QB (!(x==y)) H:=cA rfl
theorem pK {x y:Int}(k_:QB (!(x==y)) H):ok (bQ .NotEq (.int x) (.int y)) QB H:=(Io).mpr k_
theorem Bb:ok (bQ .Is .none .none) QB H=QB true H:=cA rfl
theorem fF (k_:QB true H):ok (bQ .Is .none .none) QB H:=(Bb).mpr k_
theorem vM {n:Nat}:ok (bQ .Is (.ref n) .none) QB H=QB false H:=cA rfl
theorem hS {n:Nat}(k_:QB false H):ok (bQ .Is (.ref n) .none) QB H:=(vM).mpr k_
theorem qZ:ok (bQ .IsNot .none .none) QB H=QB false H:=cA rfl
theorem bF (k_:QB false H):ok (bQ .IsNot .none .none) QB H:=(qZ).mpr k_
theorem qY {n:Nat}:ok (bQ .IsNot (.ref n) .none) QB H=QB true H:=cA rfl
theorem bK {n:Nat}(k_:QB true H):ok (bQ .IsNot (.ref n) .none) QB H:=(qY).mpr k_
theorem I8 {n m:Nat}{c:Str}{fs:List (Str×V)}(h:H.at_ n=some (.inst c fs)):I6 (.ref n) (.ref m) H=some (decide (n=m),H):=by
 have h1:I6 (.ref n) (.ref m) H=(look n H>>=λp=>(match p.1 with|.inst _ _=>pure (Nat.beq n m)|_=>ak:AM Bool) p.2):=rfl;have h2:look n H=some (.inst c fs,H):=by unfold look;exact wr h rfl
 refine wr h1 (wr h2 ?_);show some (Nat.beq n m,H)=_
 skip
 by_cases q:n=m
 .subst q;simp
 .refine wr (nU q) ?_;simp[q]
theorem Gm {n m:Nat}{c:Str}{fs:List (Str×V)}(h:H.at_ n=some (.inst c fs)):ok (bQ .Is (.ref n) (.ref m)) QB H=QB (decide (n=m)) H:=cA (I8 h)
theorem vN {m:Nat}:ok (bQ .Is .none (.ref m)) QB H=QB false H:=cA rfl
theorem aW {n:Nat}{c f:Str}{fs:List (Str×V)}{v:V}(h:H.at_ n=some (.inst c fs)) (hf:fld c f=true) (hl:fs.lookup f=some v):ok (aV (.ref n) f) Q H=Q v H:=by
 refine cA ?_;have h1:aV (.ref n) f H=(look n H>>=λp=>(match p.1 with|.inst c fs=>bif fld c f then(match fs.lookup f with|some v=>pure v|none=>ak) else ak|_=>ak:AM V) p.2):=rfl;have h2:look n H=some (.inst c fs,H):=by unfold look;exact wr h rfl
 refine wr h1 (wr h2 ?_);show(bif fld c f then(match fs.lookup f with|some v=>pure v|none=>ak) else ak:AM V) H=_;refine wr hf (wr hl ?_);rfl
theorem aQ {n:Nat}{c f:Str}{fs:List (Str×V)}{v:V}(h:H.at_ n=some (.inst c fs)) (hf:fld c f=true) (hl:fs.lookup f=some v) (k_:Q v H):ok (aV (.ref n) f) Q H:=(aW h hf hl).mpr k_
theorem dh {n:Nat}{c f:Str}{fs:List (Str×V)}{v:V}(h:H.at_ n=some (.inst c fs)) (hf:fld c f=true) (hl:Nat.ble (dM fs f v).length 100=true):ok (bZ (.ref n) f v) QU H=QU () (H.put n (.inst c (dM fs f v))):=by
 refine cA ?_;have h1:bZ (.ref n) f v H=(look n H>>=λp=>(match p.1 with|.inst c fs=>bif fld c f then eB n (.inst c (dM fs f v)) else ak|_=>ak:AM Unit) p.2):=rfl;have h2:look n H=some (.inst c fs,H):=by unfold look;exact wr h rfl
 refine wr h1 (wr h2 ?_);show(bif fld c f then eB n (.inst c (dM fs f v)) else ak:AM Unit) H=_;refine wr hf ?_;show(bif fits (.inst c (dM fs f v)) then some ((),H.put n (.inst c (dM fs f v))) else none)=_;refine wr (show fits (.inst c (dM fs f v))=true from hl) ?_;rfl
theorem eP {n:Nat}{c f:Str}{fs:List (Str×V)}{v:V}(h:H.at_ n=some (.inst c fs)) (hf:fld c f=true) (hl:Nat.ble (dM fs f v).length 100=true) (k_:QU () (H.put n (.inst c (dM fs f v)))):ok (bZ (.ref n) f v) QU H:=(dh h hf hl).mpr k_
theorem Ba {o:O}(h:fits o=true):ok (ba o) Q H=Q (.ref H.nx) (H.add o):=by
 refine cA ?_;unfold ba;refine wr h ?_;rfl
theorem aB {o:O}(h:fits o=true) (k_:Q (.ref H.nx) (H.add o)):ok (ba o) Q H:=(Ba h).mpr k_
theorem aK {n m:Nat}{o:O}:(H.put n o).at_ m=if m=n then some o else H.at_ m:=by
 show(bif Nat.beq m n then some o else H.at_ m)=_
 by_cases h:m=n
 .subst h;simp
 .refine wr (nU h) (wr (if_neg h) ?_);rfl
theorem bq {m:Nat}{o:O}:(H.add o).at_ m=if m=H.nx then some o else H.at_ m:=by
 show(bif Nat.beq m H.nx then some o else H.at_ m)=_
 by_cases h:m=H.nx
 .subst h;simp
 .refine wr (nU h) (wr (if_neg h) ?_);rfl
end
end Mi
namespace Mi.P
open PySem Mi
variable {n:Nat}{tab:Tab}{Q:KV}{K:KF}{H:AH}{R:V->Prop}
noncomputable abbrev gf (v:V) (f:Str) (K:KV) (H:AH):Prop:=ok (aV v f) K H
noncomputable abbrev cf (tab:Tab) (f:Str) (a:List V) (K:KV) (H:AH):Prop:=ok (ae tab f a) K H
noncomputable abbrev cm (o:CmpOp) (x y:V) (K:KB) (H:AH):Prop:=ok (bQ o x y) K H
noncomputable abbrev bi (o:Operator) (x y:V) (K:KV) (H:AH):Prop:=ok (dI o x y) K H
noncomputable abbrev cb (k:BK) (a:List V) (K:KV) (H:AH):Prop:=ok (cE k a) K H
noncomputable abbrev ab (x:V) (K:KB) (H:AH):Prop:=ok (ck x) K H
noncomputable abbrev pf (v:V) (f:Str) (x:V) (K:Unit->AH->Prop) (H:AH):Prop:=ok (bZ v f x) K H
noncomputable abbrev nw (o:O) (K:KV) (H:AH):Prop:=ok (ba o) K H
noncomputable abbrev im (x i:V) (K:KV) (H:AH):Prop:=ok (gn x i) K H
theorem of_eq {P G:Prop}(h:P) (e:G=P:=by kernel_rfl):G:=e.mpr h
theorem dT {W:WT}{d:Def}{args:List V}{P:Prop}(h:P) (e:runK W tab d args Q H=P:=by kernel_rfl):ok (aU W tab d args) Q H:=Ic (e.mpr h)
theorem bA {f:Str}{args:List V}{P:Prop}(h:P) (e:ae (aa (n+1)) f args=aU aH (aa n) (fD f) args:=by kernel_rfl) (k:runK aH (aa n) (fD f) args Q H=P:=by kernel_rfl):ok (ae (aa (n+1)) f args) Q H:=e▸dT h k
theorem hP {c f:Str}{args:List V}{P:Prop}(h:P) (e:bB (aa (n+1)) c f args=aU aH (aa n) (mD c f) args:=by kernel_rfl) (k:runK aH (aa n) (mD c f) args Q H=P:=by kernel_rfl):ok (bB (aa (n+1)) c f args) Q H:=e▸dT h k
section
variable (tab:Tab) (K:KF) (Q:KV) (a b c d e f g h i j l m p q r s t v w y z a' b' c' d' e' f' g' h' i' j' l' m' p' q' r' s' t' v' w' y' z':V) (o_a o_b o_c o_d o_e o_f o_g o_h o_i o_j o_l o_m o_p o_q o_r o_s o_t o_v o_w o_y o_z o_a' o_b' o_c' o_d' o_e' o_f' o_g' o_h' o_i' o_j' o_l' o_m' o_p' o_q' o_r' o_s' o_t' o_v' o_w' o_y' o_z':Option V) (H:AH)
noncomputable abbrev uY:ao:=[("buffer",o_a),("start",o_b),("end",o_c),("listener",o_d)]
noncomputable abbrev sI:ao:=[("buffer",o_a),("start",o_b),("end",o_c),("old_length",o_d),("listener",o_e)]
noncomputable abbrev fE:ao:=[("tree",o_a),("node",o_b),("waiting",o_c),("top",o_d),("here",o_e),("son",o_f)]
noncomputable abbrev gK:ao:=[("tree",o_a),("node",o_b)]
noncomputable abbrev gU:ao:=[("node",o_a),("many",o_b)]
noncomputable abbrev cH:ao:=[("tree",o_a),("at",o_b),("node",o_c),("begin",o_d),("ahead",o_e),("own",o_f)]
noncomputable abbrev fk:ao:=[("node",o_a)]
noncomputable abbrev eF:ao:=[("node",o_a)]
noncomputable abbrev eI:ao:=[("node",o_a)]
noncomputable abbrev eG:ao:=[("node",o_a)]
noncomputable abbrev cI:ao:=[("tree",o_a),("node",o_b),("above",o_c),("son",o_d),("moved",o_e),("here",o_f)]
noncomputable abbrev dU:ao:=[("plist",o_a),("number",o_b),("at",o_c)]
noncomputable abbrev dS:ao:=[("one",o_a),("other",o_b),("number",o_c),("value",o_d)]
noncomputable abbrev eH:ao:=[("rules",o_a),("number",o_b),("value",o_c),("items",o_d)]
noncomputable abbrev dy:ao:=[("rows",o_a),("found",o_b),("at",o_c),("many",o_d),("plist",o_e)]
noncomputable abbrev dD:ao:=[("props",o_a),("begin",o_b),("end",o_c),("node",o_d),("found",o_e),("left",o_f)]
noncomputable abbrev dW:ao:=[("props",o_a),("begin",o_b),("end",o_c),("at",o_d),("node",o_e),("first",o_f),("last",o_g)]
noncomputable abbrev cn:ao:=[("props",o_a),("begin",o_b),("end",o_c),("plist",o_d),("changed",o_e),("node",o_f)]
noncomputable abbrev fh:ao:=[("props",o_a),("rows",o_b),("changed",o_c),("begin",o_d),("end",o_e),("plist",o_f)]
noncomputable abbrev aL:ao:=[("rules",o_a),("left",o_b),("right",o_c),("sides",o_d),("own",o_e),("number",o_f),("value",o_g),("lisp",o_h)]
noncomputable abbrev bE:ao:=[("rules",o_a),("plist",o_b),("rear",o_c),("front",o_d),("number",o_e),("value",o_f),("is_front",o_g)]
noncomputable abbrev kR:ao:=[("self",o_a),("start",o_b),("end",o_c),("is_before",o_d),("number",o_e),("marker",o_f)]
noncomputable abbrev ek:ao:=[("tree",o_a),("begin",o_b),("end",o_c),("found",o_d),("waiting",o_e),("node",o_f)]
noncomputable abbrev iB:ao:=[("tree",o_a),("at",o_b),("many",o_c),("before_markers",o_d),("node",o_e),("moving",o_f)]
noncomputable abbrev cR:ao:=[("tree",o_a),("at",o_b),("many",o_c),("before_markers",o_d),("waiting",o_e),("node",o_f)]
noncomputable abbrev a9:ao:=[("deck",o_a),("first",o_b),("plist",o_c),("number",o_d),("way",o_e),("some",o_f)]
noncomputable abbrev dE:ao:=[("buffer",o_a),("found",o_b),("at",o_c),("plist",o_d)]
noncomputable abbrev bY:ao:=[("script",o_a),("deck",o_b),("buffer",o_c),("rules",o_d),("beat",o_e),("lines",o_f),("number",o_g),("at",o_h),("codes",o_i),("seen",o_j),("signs",o_l),("came",o_m),("bare",o_p)]
def zL:Prop:=gf a "begv" (λx1=>cm .Lt b x1 λb2 H=>cond b2 False (gf a "zv" (λx3=>cm .Gt c x3 λb4 H=>cond b4 False (nw (.tup [b,c]) Q H)) H)) H
def qb:Prop:=gf a "listeners" (λx2=>cb .list [x2] λx3=>ok (aF x3) λl4=>ok (d9 tab (fD "tell_behind") 7 [1] x3 l4 (sI a b c d none)) λr1 H=>eA r1.1 ((fin Q) .next r1.2 H) λv=>(fin Q) (.ret v) r1.2 H) H
def zw:Prop:=gf a "point" (λx1=>cm .Gt x1 b λb2 H=>cond b2 (gf a "point" (λx3=>cb .len [c] λx4=>bi .Add x3 x4 λx5=>pf a "point" x5 λu_=>Q .none) H) (Q .none H)) H
def zu:Prop:=gf a "zv" (λx1=>cb .len [c] λx2=>bi .Add x1 x2 λx3=>pf a "zv" x3 λu_=>zw Q a b c) H
def p9:Prop:=gf a "text" (λx1=>aA tab x1 "insert" (λA=>bi .Sub b (.int 1) λx2=>A [x2,c]) λx3=>zu Q a b c) H
def rC:Prop:=gf a "overlays" (λx1=>cm .IsNot x1 .none λb2 H=>cond b2 (gf a "overlays" (λx3=>aA tab x3 "text_came" (λA=>bi .Sub b (.int 1) λx4=>A [x4,c,d]) λx5=>Q .none) H) (Q .none H)) H
def Cw:Prop:=cb .len [c] (λx1=>bi .Add b x1 λx2=>cf tab "tell_behind" [a,b,x2,(.int 0)] λx3=>Q .none) H
def Cv:Prop:=cb .len [c] (λx1=>cf tab "hung_in" [a,b,x1,d] λx2=>Cw tab Q a b c) H
def uq:Prop:=gf a "markers" (λx1=>aA tab x1 "inserted" (λA=>cb .len [c] λx2=>bi .Add b x2 λx3=>A [b,x3,d]) λx4=>Cv tab Q a b c d) H
def Cu:Prop:=ab e (λb1 H=>cond b1 (cb .len [c] (λx2=>bi .Add b x2 λx3=>pf a "point" x3 λu_=>uq tab Q a b c d) H) (uq tab Q a b c d H)) H
def Ct:Prop:=cf tab "tell_ahead" [a,b,b] (λx1=>cf tab "text_in" [a,b,c] λx2=>Cu tab Q a b c d e) H
def Cr:Prop:=cb .len [c] (λx1=>cf tab "need_room" [a,x1] λx2=>Ct tab Q a b c d e) H
def Cq:Prop:=cb .len [c] (λx1=>cm .Eq x1 (.int 0) λb2 H=>cond b2 (Q .none H) (Cr tab Q a b c d e H)) H
def om:Prop:=pf a "right" .none (λu_=>pf a "parent" .none λu_=>Q .none) H
def oj:Prop:=pf a "plist" b (λu_=>pf a "left" .none λu_=>om Q a) H
def iL:Prop:=cm .Is d .none (λb1 H=>cond b1 (pf a "root" c (λu_=>Q .none) H) (gf d "left" (λx2=>cm .Is x2 b λb3 H=>cond b3 (pf d "left" c (λu_=>Q .none) H) (pf d "right" c (λu_=>Q .none) H)) H)) H
def oY:Prop:=cm .IsNot c .none (λb1 H=>cond b1 (pf c "parent" d (λu_=>iL Q a b c d) H) (iL Q a b c d H)) H
def xJ:Prop:=cm .IsNot b .none (λb1 H=>cond b1 (pf b "parent" a (λu_=>Q .none) H) (Q .none H)) H
def vj:Prop:=cm .IsNot b .none (λb1 H=>cond b1 (pf b "parent" a (λu_=>Q .none) H) (Q .none H)) H
def oX:Prop:=cf tab "set_right" [b,a] (λx1=>pf b "total" c λu_=>Q b) H
def oW:Prop:=gf b "right" (λx1=>cf tab "set_left" [a,x1] λx2=>oX tab Q a b c) H
def oV:Prop:=gf a "total" (λx1=>gf b "total" λx2=>bi .Sub x1 x2 λx3=>gf b "right" λx4=>cf tab "total_of" [x4] λx5=>bi .Add x3 x5 λx6=>pf a "total" x6 λu_=>oW tab Q a b c) H
def oU:Prop:=cf tab "put_in_stead" [a,b,c] (λx1=>gf b "total" (oV tab Q b c)) H
def qF:Prop:=cf tab "set_left" [b,a] (λx1=>pf b "total" c λu_=>Q b) H
def qE:Prop:=gf b "left" (λx1=>cf tab "set_right" [a,x1] λx2=>qF tab Q a b c) H
def qD:Prop:=gf a "total" (λx1=>gf b "total" λx2=>bi .Sub x1 x2 λx3=>gf b "left" λx4=>cf tab "total_of" [x4] λx5=>bi .Add x3 x5 λx6=>pf a "total" x6 λu_=>qE tab Q a b c) H
def qC:Prop:=cf tab "put_in_stead" [a,b,c] (λx1=>gf b "total" (qD tab Q b c)) H
def jM:Prop:=gf b "left" (λx1=>cf tab "total_of" [x1] λx2=>gf a "total" λx3=>gf b "total" λx4=>bi .Sub x3 x4 λx5=>gf b "right" λx6=>cf tab "total_of" [x6] λx7=>bi .Add x5 x7 λx8=>bi .Sub x2 x8 λx9=>cb .abs [x9] λx10=>cm .Lt x10 c λb11=>Q (.bool b11)) H
def jL:Prop:=cf tab "total_of" [b] (λx1=>gf a "right" λx2=>cf tab "total_of" [x2] λx3=>bi .Sub x1 x3 λx4=>cm .LtE x4 (.int 0) λb5 H=>cond b5 (Q (.bool false) H) (jM tab Q a b x4 H)) H
def kz:Prop:=gf b "right" (λx1=>cf tab "total_of" [x1] λx2=>gf a "total" λx3=>gf b "total" λx4=>bi .Sub x3 x4 λx5=>gf b "left" λx6=>cf tab "total_of" [x6] λx7=>bi .Add x5 x7 λx8=>bi .Sub x2 x8 λx9=>cb .abs [x9] λx10=>cm .Lt x10 c λb11=>Q (.bool b11)) H
def ku:Prop:=cf tab "total_of" [b] (λx1=>gf a "left" λx2=>cf tab "total_of" [x2] λx3=>bi .Sub x1 x3 λx4=>cm .LtE x4 (.int 0) λb5 H=>cond b5 (Q (.bool false) H) (kz tab Q a b x4 H)) H
def Cg:Prop:=ok (bM tab (fD "settle") 7 [2] (fE a b d c none none)) (λr1 H=>eA r1.1 (bU tab (fD "settle") 7 [3] r1.2 (fin Q) H) λv=>(fin Q) (.ret v) r1.2 H) H
def uk:Prop:=aA tab c "extend" (λA=>nw (.list [f,e]) λx1=>A [x1]) (λx2=>K .next (fE a b c d e f)) H
def uj:Prop:=aA tab c "extend" (λA=>nw (.list [e,d]) λx1=>A [x1]) (λx2=>K .next (fE a b c f d e)) H
def Cf:Prop:=cf tab "right_turn_helps" [e] (λx1=>ab x1 λb2 H=>cond b2 (cf tab "rotate_right" [a,e] (λx3=>cm .Is e d λb4 H=>cond b4 (uj tab K a b c e x3 x3 H) (uk tab K a b c d e x3 H)) H) (cf tab "left_turn_helps" [e] (λx5=>ab x5 λb6 H=>cond b6 (cf tab "rotate_left" [a,e] (λx7=>cm .Is e d λb8 H=>cond b8 (uj tab K a b c e x7 x7 H) (uk tab K a b c d e x7 H)) H) (K .next (fE a b c d e o_a) H)) H)) H
def nH:Prop:=ok (bM tab (fD "find_interval") 7 [2] (cH a b d c none none)) (λr1 H=>eA r1.1 ((fin Q) .next r1.2 H) λv=>(fin Q) (.ret v) r1.2 H) H
def nG:Prop:=bi .Add d e (λx1=>cm .Lt b x1 λb2 H=>cond b2 (gf c "left" (λx3=>K .next (cH a b x3 d e f)) H) (bi .Add d e (λx4=>bi .Add x4 f λx5=>cm .Lt b x5 λb6 H=>cond b6 (bi .Add d e (λx7=>nw (.tup [c,x7]) λx8=>K (.ret x8) (cH a b c d e f)) H) (bi .Add d e (λx9=>bi .Add x9 f λx10=>gf c "right" λx11=>K .next (cH a b x11 x10 e f)) H)) H)) H
def wI:Prop:=ok (bM tab (fD "following") 7 [1] (eI a)) (λr1 H=>eA r1.1 (bU tab (fD "following") 7 [2] r1.2 (fin Q) H) λv=>(fin Q) (.ret v) r1.2 H) H
def vB:Prop:=ok (bM tab (fD "preceding") 7 [1] (eG a)) (λr1 H=>eA r1.1 (bU tab (fD "preceding") 7 [2] r1.2 (fin Q) H) λv=>(fin Q) (.ret v) r1.2 H) H
def s7:Prop:=gf b "parent" (λx1=>cf tab "settle_up" [a,x1] λx2=>Q .none) H
def j7:Prop:=gf b "parent" (λx1=>gf b "total" λx2=>cf tab "add_above" [x1,x2] λx3=>s7 tab Q a b) H
def vw:Prop:=gf c "total" (λx1=>cf tab "add_above" [b,x1] λx2=>cf tab "settle_up" [a,b] λx3=>Q .none) H
def vt:Prop:=cm .IsNot d .none (λb1 H=>cond b1 (cf tab "put_behind" [a,d,c] (λx2=>Q .none) H) (cf tab "set_left" [b,c] (λx3=>vw tab Q a b c) H)) H
def xB:Prop:=gf b "plist" (λx1=>cf tab "Interval" [c,x1] λx2=>cf tab "put_behind" [a,b,x2] λx3=>Q .none) H
def xy:Prop:=bi .Sub (.int 0) c (λx1=>cf tab "add_above" [b,x1] λx2=>xB tab Q a b c) H
def xx:Prop:=cf tab "own_length" [c] (λx1=>bi .Sub b d λx2=>bi .Sub x1 x2 (xy tab Q a c)) H
def oB:Prop:=cf tab "find_interval" [a,b] (λx1 H=>tZ x1 (λu2 u3=>cm .Eq u3 b (λb4 H=>cond b4 (Q .none H) (xx tab Q a b u2 u3 H)) H) H) H
def dY:Prop:=cf tab "put_in_stead" [a,b,d] (λx1=>cf tab "settle_up" [a,c] λx2=>Q .none) H
def nQ:Prop:=ok (bM tab (fD "drop_interval") 7 [7] (cI a b c none d e)) (λr1 H=>eA r1.1 (bU tab (fD "drop_interval") 7 [8] r1.2 (fin Q) H) λv=>(fin Q) (.ret v) r1.2 H) H
def nP:Prop:=gf b "right" (λx1=>cf tab "put_in_stead" [a,b,x1] λx2=>cf tab "set_left" [e,d] λx3=>nQ tab Q a b c d e) H
def nN:Prop:=gf b "right" (λx1=>cf tab "leftmost" [x1] (nP tab Q a b c d)) H
def nM:Prop:=gf b "left" (λx1=>cm .Is x1 .none λb2 H=>cond b2 (gf b "right" (λx3=>cm .Is x3 .none λb4 H=>cond b4 (gf b "left" (dY tab Q a b c) H) (gf b "right" (dY tab Q a b c) H)) H) (gf b "right" (λx7=>cm .Is x7 .none λb8 H=>cond b8 (gf b "right" (λx9=>cm .Is x9 .none λb10 H=>cond b10 (gf b "left" (dY tab Q a b c) H) (gf b "right" (dY tab Q a b c) H)) H) (gf b "left" (nN tab Q a b c) H)) H)) H
def kI:Prop:=cf tab "text_length" [a] (λx1=>cm .Eq b x1 λb2 H=>cond b2 (gf a "root" (λx3=>cf tab "rightmost" [x3] λx4=>cf tab "put_behind" [a,x4,c] λx5=>Q .none) H) (cf tab "find_interval" [a,b] (λx6=>im x6 (.int 0) λx7=>cf tab "put_ahead" [a,x7,c] λx8=>Q .none) H)) H
def kH:Prop:=gf a "root" (λx1=>cm .Is x1 .none λb2 H=>cond b2 (pf a "root" c (λu_=>Q .none) H) (cf tab "split_at" [a,b] (λx3=>kI tab Q a b c) H)) H
def vF:Prop:=cm .GtE b (.int 0) (λb1 H=>cond b1 (im a b (λx2=>im x2 (.int 1) λx3=>nw (.tup [x3]) Q) H) (Q .none H)) H
def tG:Prop:=cm .GtE c (.int 0) (λb1=>ab (.bool b1) λb2 H=>cond b2 (im a c (λx3=>im x3 (.int 1) λx4=>cf tab "eq" [x4,b] λx5=>ab x5 λb6=>Q (.bool b6)) H) (Q (.bool false) H)) H
def sT:Prop:=ok (aF a) (λl2=>ok (d9 tab (fD "same_plist") 7 [1] a l2 (dS a b none none)) λr1 H=>eA r1.1 (bU tab (fD "same_plist") 7 [2] r1.2 (fin Q) H) λv=>(fin Q) (.ret v) r1.2 H) H
def mv:Prop:=nw (.dict []) (λx1=>pf a "defaults" x1 λu_=>Q .none) H
def mu:Prop:=aA tab b "number" (λA=>A [(.str "priority")]) (λx1=>pf a "priority" x1 λu_=>mv Q a) H
def mq:Prop:=aA tab b "number" (λA=>A [(.str "evaporate")]) (λx1=>pf a "evaporate" x1 λu_=>mu tab Q a b) H
def mo:Prop:=aA tab b "number" (λA=>A [(.str "rear-nonsticky")]) (λx1=>pf a "rear_nonsticky" x1 λu_=>mq tab Q a b) H
def mn:Prop:=aA tab b "number" (λA=>A [(.str "front-sticky")]) (λx1=>pf a "front_sticky" x1 λu_=>mo tab Q a b) H
def mm:Prop:=aA tab b "number" (λA=>A [(.str "category")]) (λx1=>pf a "category" x1 λu_=>mn tab Q a b) H
def ml:Prop:=gf b "true" (λx1=>pf a "true" x1 λu_=>mm tab Q a b) H
def mj:Prop:=gf b "nil" (λx1=>pf a "nil" x1 λu_=>ml tab Q a b) H
def gJ:Prop:=cm .Is b .none (λb1 H=>cond b1 (gf a "nil" Q H) (im b (.int 0) Q H)) H
def xj:Prop:=cm .IsNot d .none (λb1 H=>cond b1 (gf a "lisp" (λx2=>aA tab x2 "number_of" (λA=>im d (.int 0) λx3=>A [x3]) λx4=>cm .GtE x4 (.int 0) λb5 H=>cond b5 (gf a "lisp" (λx6=>aA tab x6 "symbol_property" (λA=>im d (.int 0) λx7=>A [x7,b]) (gJ Q a)) H) (gJ Q a c H)) H) (gJ Q a c H)) H
def xh:Prop:=cm .Is d .none (λb1 H=>cond b1 (gf a "category" (λx2=>cf tab "plist_get" [b,x2] (xj tab Q a c d)) H) (gJ Q a d H)) H
def wi:Prop:=ok (aF d) (λl1=>ok (dC tab (fD "is_member") 22 [3] 0 (eH a b c d) d l1) λout2=>nw (.list out2) λx3=>nw (.list []) λx4=>cm .NotEq x3 x4 λb5=>Q (.bool b5)) H
def wg:Prop:=gf a "lisp" (λx1=>aA tab x1 "items" (λA=>A [c]) λx2=>cm .Is x2 .none λb3 H=>cond b3 (Q (.bool true) H) (wi tab Q a b c x2 H)) H
def mR:Prop:=ok (aF a) (λl2=>ok (d9 tab (fD "props_of_rows") 7 [2] a l2 (dy a c b none none)) λr1 H=>eA r1.1 (bU tab (fD "props_of_rows") 7 [3] r1.2 (fin Q) H) λv=>(fin Q) (.ret v) r1.2 H) H
def mQ:Prop:=cf tab "join_at" [b,c] (λx1=>bi .Add c d λx2=>K .next (dy a b x2 d e)) H
def mT:Prop:=gf a "tree" (λx1=>cf tab "find_interval" [x1,b] λx2=>im x2 (.int 0) λx3=>gf x3 "plist" Q) H
def qO:Prop:=ok (bM tab (fD "range_nodes") 7 [6] (dD a b c d e f)) (λr1 H=>eA r1.1 (bU tab (fD "range_nodes") 7 [7] r1.2 (fin Q) H) λv=>(fin Q) (.ret v) r1.2 H) H
def qN:Prop:=nw (.list []) (λx1=>bi .Sub c b (qO tab Q a b c d x1)) H
def qM:Prop:=gf a "tree" (λx1=>cf tab "find_interval" [x1,b] λx2=>im x2 (.int 0) (qN tab Q a b c)) H
def qL:Prop:=gf a "tree" (λx1=>cf tab "split_at" [x1,c] λx2=>qM tab Q a b c) H
def qK:Prop:=gf a "tree" (λx1=>cf tab "split_at" [x1,b] λx2=>qL tab Q a b c) H
def qJ:Prop:=cf tab "own_length" [d] (λx1=>bi .Sub f x1 λx2=>cf tab "following" [d] λx3=>K .next (dD a b c x3 e x2)) H
def Ap:Prop:=gf a "tree" (λx1=>cf tab "settle_up" [x1,b] λx2=>Q .none) H
def Ao:Prop:=gf a "tree" (λx1=>cf tab "drop_interval" [x1,b] λx2=>cf tab "add_above" [c,d] λx3=>Ap tab Q a c) H
def An:Prop:=gf c "plist" (λx1=>gf b "plist" λx2=>cf tab "same_plist" [x1,x2] λx3=>ab x3 λb4 H=>cond b4 (cf tab "own_length" [b] (Ao tab Q a b c) H) (Q .none H)) H
def Am:Prop:=cm .NotEq d b (λb1 H=>cond b1 (Q .none H) (cf tab "preceding" [c] (An tab Q a c) H)) H
def rn:Prop:=gf a "tree" (λx1=>cf tab "find_interval" [x1,b] λx2 H=>tZ x2 (λu3 u4=>Am tab Q a b u3 u4 H) H) H
def tz:Prop:=ok (bM tab (fD "join_range") 7 [1] (dW a b c d none none none)) (λr1 H=>eA r1.1 (bU tab (fD "join_range") 7 [2] r1.2 (fin Q) H) λv=>(fin Q) (.ret v) r1.2 H) H
def tw:Prop:=cf tab "own_length" [d] (λx1=>bi .Add e x1 λx2=>cf tab "join_at" [a,e] λx3=>K .next (dW a b c x2 d e x2)) H
def lu:Prop:=cf tab "range_nodes" [a,b,c] (λx2=>ok (aF x2) λl3=>ok (d9 tab (fD "set_properties") 7 [1] x2 l3 (cn a b c d e none)) λr1 H=>eA r1.1 (bU tab (fD "set_properties") 7 [2] r1.2 (fin Q) H) λv=>(fin Q) (.ret v) r1.2 H) H
def xR:Prop:=ok (aF b) (λl2=>ok (d9 tab (fD "put_rows") 7 [1] b l2 (fh a b c none none none)) λr1 H=>eA r1.1 (bU tab (fD "put_rows") 7 [2] r1.2 (fin Q) H) λv=>(fin Q) (.ret v) r1.2 H) H
def mI:Prop:=bi .Add b c (λx1=>cf tab "join_at" [a,x1] λx2=>cf tab "join_at" [a,b] λx3=>Q .none) H
def tQ:Prop:=nw (.list []) (λx1=>pf a "rear" x1 λu_=>Q .none) H
def tP:Prop:=nw (.list []) (λx1=>pf a "front" x1 λu_=>tQ Q a) H
def tO:Prop:=nw (.list []) (λx1=>pf a "found" x1 λu_=>tP Q a) H
def tN:Prop:=gf b "rear_nonsticky" (λx1=>cf tab "value_in" [b,c,x1] λx2=>pf a "right_rear" x2 λu_=>tO Q a) H
def tM:Prop:=gf b "front_sticky" (λx1=>cf tab "value_in" [b,c,x1] λx2=>pf a "right_front" x2 λu_=>tN tab Q a b c) H
def tL:Prop:=gf b "rear_nonsticky" (λx1=>cf tab "value_in" [b,c,x1] λx2=>pf a "left_rear" x2 λu_=>tM tab Q a b d) H
def tJ:Prop:=gf b "front_sticky" (λx1=>cf tab "value_in" [b,c,x1] λx2=>pf a "left_front" x2 λu_=>tL tab Q a b c d) H
def tI:Prop:=pf a "left" c (λu_=>pf a "right" d λu_=>tJ tab Q a b c d) H
def oD:Prop:=cf tab "properties_at" [b,c] (λx1=>cf tab "Sides" [a,d,x1] Q) H
def qj:Prop:=ab d (λb1 H=>cond b1 (aA tab a "is_nil" (λA=>gf c "left" λx2=>cf tab "value_in" [a,x2,b] λx3=>A [x3]) (λx4=>ab x4 λb5 H=>cond b5 (Q (.int 1) H) (ok (aR (.int 1)) (λi6=>Q (.int (-i6))) H)) H) (ok (aR (.int 1)) (λi7=>Q (.int (-i7))) H)) H
def qi:Prop:=ab d (λb1 H=>cond (!b1) (ab e (λb2 H=>cond b2 (Q (.int 1) H) (Q (.int 0) H)) H) (qj tab Q a b c e H)) H
def fZ:Prop:=gf c "right_front" (λx1=>cf tab "is_told" [a,b,x1] (qi tab Q a b c d)) H
def qh:Prop:=cm .Gt b (.int 0) (λb1=>ab (.bool b1) λb2 H=>cond b2 (gf d "left_rear" (λx3=>cf tab "is_member" [a,c,x3] λx4=>ab x4 λb5=>ab (.bool (!b5)) λb6 H=>cond b6 (cf tab "is_loose" [a,c] (λx7=>ab x7 λb8=>ab (.bool (!b8)) λb9=>fZ tab Q a c d (.bool b9)) H) (fZ tab Q a c d (.bool false) H)) H) (fZ tab Q a c d (.bool false) H)) H
def u6:Prop:=gf a "rules" (λx1=>gf a "left_front" λx2=>cf tab "is_member" [x1,b,x2] λx3=>ab x3 λb4 H=>cond b4 (gf a "front" (λx5=>aA tab x5 "append" (λA=>A [b]) λx6=>Q .none) H) (Q .none H)) H
def j0:Prop:=gf a "rules" (λx1=>gf a "right_rear" λx2=>cf tab "is_member" [x1,b,x2] λx3=>ab x3 λb4 H=>cond b4 (gf a "rear" (λx5=>aA tab x5 "append" (λA=>A [b]) λx6=>Q .none) H) (Q .none H)) H
def sL:Prop:=gf a "rules" (λx1=>gf a "right_front" λx2=>cf tab "is_member" [x1,b,x2] λx3=>ab x3 λb4 H=>cond b4 (gf a "front" (λx5=>aA tab x5 "append" (λA=>A [b]) λx6=>j0 tab Q a b) H) (j0 tab Q a b H)) H
def fQ:Prop:=ab e (λb1 H=>cond b1 (im d (.int 0) (λx2=>cf tab "take_left" [a,b,x2] λx3=>Q .none) H) (ab f (λb4 H=>cond b4 (cf tab "take_right" [a,b,c] (λx5=>Q .none) H) (Q .none H)) H)) H
def kY:Prop:=ab e (λb1 H=>cond b1 (ab f (λb2 H=>cond b2 (gf a "rules" (λx3=>aA tab x3 "is_nil" (λA=>im d (.int 0) λx4=>A [x4]) λx5=>ab x5 λb6 H=>cond b6 (fQ tab Q a b c d (.bool false) f H) (fQ tab Q a b c d e f H)) H) (fQ tab Q a b c d e f H)) H) (fQ tab Q a b c d e f H)) H
def vf:Prop:=cm .IsNot d .none (λb1=>ab (.bool b1) λb2 H=>cond b2 (cf tab "is_kept" [a,b] (λx3=>ab x3 λb4=>cf tab "is_caught" [a,b] (kY tab Q a b c d (.bool b4))) H) (cf tab "is_caught" [a,b] (kY tab Q a b c d (.bool false)) H)) H
def xp:Prop:=gf a "rules" (λx1=>gf a "right_rear" λx2=>cf tab "is_member" [x1,b,x2] λx3=>ab x3 λb4 H=>cond b4 (gf a "rear" (λx5=>aA tab x5 "append" (λA=>A [b]) λx6=>Q .none) H) (Q .none H)) H
def jf:Prop:=cm .IsNot b .none (λb1=>ab (.bool b1) λb2 H=>cond b2 (im b (.int 0) (λx3=>gf a "true" λx4=>cf tab "eq" [x3,x4] λx5=>ab x5 λb6=>Q (.bool b6)) H) (Q (.bool false) H)) H
def je:Prop:=gf a "lisp" (λx1=>aA tab x1 "symbol_property" (λA=>im b (.int 0) λx2=>gf a "front_sticky" λx3=>A [x2,x3]) (jf tab Q a)) H
def jd:Prop:=cm .Is b .none (λb1 H=>cond b1 (Q (.bool false) H) (gf a "lisp" (λx2=>aA tab x2 "number_of" (λA=>im b (.int 0) λx3=>A [x3]) λx4=>cm .Lt x4 (.int 0) λb5 H=>cond b5 (Q (.bool false) H) (je tab Q a b H)) H)) H
def wu:Prop:=ok (aF c) (λl2=>ok (d9 tab (fD "inherited") 7 [2] c l2 (aL a b c d e none none none)) λr1 H=>eA r1.1 (bU tab (fD "inherited") 7 [3] r1.2 (fin Q) H) λv=>(fin Q) (.ret v) r1.2 H) H
def wt:Prop:=gf a "front_sticky" (λx1=>gf a "rear_nonsticky" λx2=>nw (.tup [x1,x2]) (wu tab Q a b c d)) H
def lQ:Prop:=gf d "front" (λx1=>cb .len [x1] λx2=>cm .Gt x2 (.int 0) λb3 H=>cond b3 (gf d "found" (λx4=>cf tab "is_front_category" [a,x4] λx5=>ab x5 λb6 H=>cond (!b6) (gf d "found" (λx7=>aA tab x7 "append" (λA=>gf a "front_sticky" λx8=>aA tab f "list_of" (λA=>gf d "front" λx9=>ok (aF x9) λl10=>ok (dC tab (fD "inherited") 20 [6,0,0] 0 (aL a b c d e o_a o_b f) x9 l10) λout11=>nw (.list out11) λx12=>A [x12]) λx13=>nw (.tup [x8,x13]) λx14=>A [x14]) λx15=>gf d "found" λx16=>K (.ret x16) (aL a b c d e o_a o_b f)) H) (gf d "found" (λx17=>K (.ret x17) (aL a b c d e o_a o_b f)) H)) H) (gf d "found" (λx18=>K (.ret x18) (aL a b c d e o_a o_b f)) H)) H
def wq:Prop:=gf d "rear" (λx1=>cb .len [x1] λx2=>cm .Gt x2 (.int 0) λb3 H=>cond b3 (gf d "found" (λx4=>aA tab x4 "append" (λA=>gf a "rear_nonsticky" λx5=>aA tab f "list_of" (λA=>gf d "rear" λx6=>ok (aF x6) λl7=>ok (dC tab (fD "inherited") 20 [5,0,0] 0 (aL a b c d e o_a o_b f) x6 l7) λout8=>nw (.list out8) λx9=>A [x9]) λx10=>nw (.tup [x5,x10]) λx11=>A [x11]) λx12=>lQ tab K a b c d e f o_a o_b) H) (lQ tab K a b c d e f o_a o_b H)) H
def gv:Prop:=ok (aF b) (λl2=>ok (d9 tab (fD "is_loose_within") 7 [4] b l2 (bE a b c d none none none)) λr1 H=>eA r1.1 (bU tab (fD "is_loose_within") 7 [5] r1.2 (fin Q) H) λv=>(fin Q) (.ret v) r1.2 H) H
def kF:Prop:=aA tab a "is_nil" (λA=>A [d]) (λx1=>ab x1 λb2 H=>cond (!b2) (gf a "lisp" (λx3=>aA tab x3 "items" (λA=>A [d]) λx4=>cm .Is x4 .none λb5 H=>cond b5 (Q (.bool false) H) (gv tab Q a b c d H)) H) (gv tab Q a b c d H)) H
def gu:Prop:=gf a "front_sticky" (λx1=>cf tab "value_in" [a,b,x1] (kF tab Q a b c)) H
def kE:Prop:=aA tab a "is_nil" (λA=>A [c]) (λx1=>ab x1 λb2 H=>cond (!b2) (gf a "lisp" (λx3=>aA tab x3 "items" (λA=>A [c]) λx4=>cm .Is x4 .none λb5 H=>cond b5 (cb .len [b] (λx6=>cm .Gt x6 (.int 0) λb7=>Q (.bool b7)) H) (gu tab Q a b c H)) H) (gu tab Q a b c H)) H
def kD:Prop:=ab g (λb1 H=>cond (!b1) (cf tab "is_member" [a,e,c] (λx2=>ab x2 λb3 H=>cond b3 (K (.ret (.bool true)) (bE a b c d e f g) H) (gf a "defaults" (λx4=>cm .In e x4 λb5 H=>cond b5 (K (.ret (.bool true)) (bE a b c d e f g) H) (K .next (bE a b c d e f g) H)) H)) H) (K .next (bE a b c d e f g) H)) H
def pw:Prop:=cm .NotEq f b (λb1 H=>cond b1 (gf e "plist" (λx2=>cf tab "is_loose_within" [a,x2] λx3=>ab x3 λb4 H=>cond (!b4) (gf e "plist" (λx5=>cb .list [x5] Q) H) (cf tab "inherited" [a,c,d] Q H)) H) (cf tab "inherited" [a,c,d] Q H)) H
def iO:Prop:=cm .Gt c (.int 0) (λb1 H=>cond b1 (gf b "tree" (λx2=>cf tab "text_length" [x2] λx3=>cm .Lt c x3 λb4 H=>cond b4 (gf b "tree" (λx5=>cf tab "find_interval" [x5,c] λx6 H=>tZ x6 (λu7 u8=>pw tab Q a c d e u7 u8 H) H) H) (cf tab "inherited" [a,d,e] Q H)) H) (cf tab "inherited" [a,d,e] Q H)) H
def dP:Prop:=nw (.list []) (λx1=>cm .NotEq d x1 λb2 H=>cond b2 (cb .len [b] (λx3=>cm .Gt x3 (.int 0) λb4 H=>cond b4 (gf a "props" (λx5=>aA tab x5 "put_rows" (λA=>bi .Sub c (.int 1) λx6=>bi .Sub c (.int 1) λx7=>cb .len [b] λx8=>bi .Add x7 x8 λx9=>nw (.tup [x6,x9,d]) λx10=>nw (.list [x10]) λx11=>A [x11]) λx12=>Q .none) H) (Q .none H)) H) (Q .none H)) H
def jh:Prop:=gf a "props" (λx1=>cm .IsNot x1 .none λb2 H=>cond b2 (gf a "overlays" (λx3=>cm .IsNot x3 .none λb4 H=>cond b4 (cf tab "inherited_here" [a,c] (λx5=>cf tab "insert" [a,b] λx6=>dP tab Q a b c x5) H) (cf tab "insert" [a,b] (λx7=>dP tab Q a b c d) H)) H) (cf tab "insert" [a,b] (λx8=>dP tab Q a b c d) H)) H
def pE:Prop:=cb .len [b] (λx1=>bi .Add x1 c λx2=>pf a "gap_end" x2 λu_=>Q .none) H
def pD:Prop:=cb .len [b] (λx1=>pf a "gap_start" x1 λu_=>pE Q a b c) H
def pC:Prop:=cb .list [b] (λx1=>nw (.list [(.int 0)]) λx2=>bi .Mult x2 c λx3=>bi .Add x1 x3 λx4=>pf a "cells" x4 λu_=>pD Q a b c) H
def ox:Prop:=gf a "cells" (λx1=>ok (aR b) λi2=>gf a "gap_start" λx3=>ok (aR x3) λi4=>ok (bH x1 (some i2) (some i4)) λx5=>gf a "cells" λx6=>gf a "gap_end" λx7=>ok (aR x7) λi8=>bi .Add c d λx9=>ok (aR x9) λi10=>ok (bH x6 (some i8) (some i10)) λx11=>bi .Add x5 x11 Q) H
def ow:Prop:=gf a "gap_start" (λx1=>cm .GtE b x1 λb2 H=>cond b2 (gf a "cells" (λx3=>bi .Add b d λx4=>ok (aR x4) λi5=>bi .Add c d λx6=>ok (aR x6) λi7=>ok (bH x3 (some i5) (some i7)) Q) H) (ox Q a b c d H)) H
def ou:Prop:=gf a "gap_start" (λx1=>cm .LtE c x1 λb2 H=>cond b2 (gf a "cells" (λx3=>ok (aR b) λi4=>ok (aR c) λi5=>ok (bH x3 (some i4) (some i5)) Q) H) (ow Q a b c d H)) H
def jX:Prop:=gf a "gap_end" (λx1=>cb .len [c] λx2=>bi .Sub x1 x2 λx3=>pf a "gap_end" x3 λu_=>pf a "gap_start" b λu_=>Q .none) H
def jW:Prop:=gf a "cells" (λx1=>gf a "gap_end" λx2=>cb .len [c] λx3=>bi .Sub x2 x3 λx4=>ok (aR x4) λi5=>gf a "gap_end" λx6=>ok (aR x6) λi7=>ok (cM x1 (some i5) (some i7) c) λu_=>jX Q a b c) H
def jV:Prop:=gf a "gap_end" (λx1=>cb .len [c] λx2=>bi .Add x1 x2 λx3=>pf a "gap_end" x3 λu_=>pf a "gap_start" b λu_=>Q .none) H
def jU:Prop:=gf a "cells" (λx1=>gf a "gap_start" λx2=>ok (aR x2) λi3=>gf a "gap_start" λx4=>cb .len [c] λx5=>bi .Add x4 x5 λx6=>ok (aR x6) λi7=>ok (cM x1 (some i3) (some i7) c) λu_=>jV Q a b c) H
def jv:Prop:=gf a "gap_end" (λx1=>bi .Add x1 b λx2=>gf a "room" λx3=>bi .Add x2 x3 λx4=>pf a "gap_end" x4 λu_=>Q .none) H
def ju:Prop:=cm .Gt b (.int 0) (λb1 H=>cond b1 (nw (.list [(.int 0)]) (λx2=>gf a "room" λx3=>bi .Add b x3 λx4=>bi .Mult x2 x4 λx5=>gf a "cells" λx6=>gf a "gap_end" λx7=>ok (aR x7) λi8=>gf a "gap_end" λx9=>ok (aR x9) λi10=>ok (cM x6 (some i8) (some i10) x5) λu_=>jv Q a b) H) (Q .none H)) H
def mB:Prop:=cb .len [c] (λx1=>bi .Add b x1 λx2=>pf a "gap_start" x2 λu_=>Q .none) H
def mA:Prop:=gf a "cells" (λx1=>ok (aR b) λi2=>cb .len [c] λx3=>bi .Add b x3 λx4=>ok (aR x4) λi5=>ok (cM x1 (some i2) (some i5) c) λu_=>mB Q a b c) H
def sz:Prop:=pf a "syntax" .none (λu_=>pf a "file" .none λu_=>Q .none) H
def sy:Prop:=pf a "overlays" .none (λu_=>pf a "locals" .none λu_=>sz Q a) H
def sx:Prop:=pf a "undo" .none (λu_=>pf a "props" .none λu_=>sy Q a) H
def sv:Prop:=nw (.list []) (λx1=>pf a "listeners" x1 λu_=>sx Q a) H
def sr:Prop:=pf a "codes_ticks" (.int 1) (λu_=>pf a "saved_ticks" (.int 1) λu_=>sv Q a) H
def sk:Prop:=pf a "is_read_only" (.bool false) (λu_=>pf a "ticks" (.int 1) λu_=>sr Q a) H
def sj:Prop:=pf a "mark" .none (λu_=>pf a "is_live" (.bool true) λu_=>sk Q a) H
def si:Prop:=pf a "begv" (.int 1) (λu_=>pf a "zv" (.int 1) λu_=>sj Q a) H
def sf:Prop:=cf tab "Markers" [] (λx1=>pf a "markers" x1 λu_=>pf a "point" (.int 1) λu_=>si Q a) H
def pH:Prop:=nw (.list []) (λx1=>cf tab "GapText" [x1,b] λx2=>pf a "text" x2 λu_=>sf tab Q a) H
def pG:Prop:=ab b (λb1 H=>cond b1 (gf a "ticks" (λx2=>pf a "codes_ticks" x2 λu_=>Q .none) H) (Q .none H)) H
def mX:Prop:=ok (bM tab (fD "nodes_between") 7 [3] (ek a b c d e f)) (λr1 H=>eA r1.1 (bU tab (fD "nodes_between") 7 [4] r1.2 (fin Q) H) λv=>(fin Q) (.ret v) r1.2 H) H
def mW:Prop:=nw (.list []) (λx1=>gf a "root" (mX tab Q a b c d x1)) H
def ya:Prop:=ok (aF e) (λl2=>ok (d9 tab (fD "open_gap") 7 [2] e l2 (iB a b c d none e)) λr1 H=>eA r1.1 (bU tab (fD "open_gap") 7 [3] r1.2 (fin Q) H) λv=>(fin Q) (.ret v) r1.2 H) H
def xZ:Prop:=cf tab "nodes_between" [a,b,b] (λx1=>ok (aF x1) λl2=>ok (dC tab (fD "open_gap") 24 [1] 0 (iB a b c d none none) x1 l2) λout3=>nw (.list out3) (ya tab Q a b c d)) H
def xY:Prop:=ok (aF e) (λl2=>ok (d9 tab (fD "open_gap") 7 [4] e l2 (iB a b c d o_a e)) λr1 H=>eA r1.1 (K .next r1.2 H) λv=>K (.ret v) r1.2 H) H
def qt:Prop:=ok (bM tab (fD "shift_nodes") 7 [1] (cR a b c d e none)) (λr1 H=>eA r1.1 ((fin Q) .next r1.2 H) λv=>(fin Q) (.ret v) r1.2 H) H
def iY:Prop:=cf tab "grows" [f,b,d] (λx1=>ab x1 λb2 H=>cond b2 (gf f "end" (λx3=>bi .Add x3 c λx4=>pf f "end" x4 λu_=>cf tab "renew_limits" [f] λx5=>K .next (cR a b c d e f)) H) (cf tab "renew_limits" [f] (λx6=>K .next (cR a b c d e f)) H)) H
def qr:Prop:=gf f "begin" (λx1=>cm .Gt x1 b λb2 H=>cond b2 (gf f "begin" (λx3=>bi .Add x3 c λx4=>pf f "begin" x4 λu_=>iY tab K a b c d e f) H) (iY tab K a b c d e f H)) H
def gc:Prop:=aA tab e "append" (λA=>gf f "left" λx1=>A [x1]) (λx2=>qr tab K a b c d e f) H
def qq:Prop:=gf f "limit" (λx1=>cm .GtE x1 b λb2 H=>cond b2 (gf f "right" (λx3=>cm .IsNot x3 .none λb4 H=>cond b4 (gf f "begin" (λx5=>cm .Gt x5 b λb6 H=>cond b6 (gf f "right" (λx7=>gf x7 "offset" λx8=>bi .Add x8 c λx9=>gf f "right" λx10=>pf x10 "offset" x9 λu_=>gc tab K a b c d e f) H) (aA tab e "append" (λA=>gf f "right" λx11=>A [x11]) (λx12=>gc tab K a b c d e f) H)) H) (aA tab e "append" (λA=>gf f "right" λx13=>A [x13]) (λx14=>gc tab K a b c d e f) H)) H) (K .next (cR a b c d e f) H)) H
def qp:Prop:=cm .IsNot f .none (λb1 H=>cond b1 (cf tab "hand_down" [f] (λx2=>qq tab K a b c d e f) H) (K .next (cR a b c d e f) H)) H
def jR:Prop:=nw (.dict []) (λx1=>pf a "overlays" x1 λu_=>pf a "rules" b λu_=>Q .none) H
def my:Prop:=nw (.dict []) (λx1=>pf a "plists" x1 λu_=>Q .none) H
def mx:Prop:=pf a "nil" .none (λu_=>pf a "true" (.bool true) λu_=>my Q a) H
def Ai:Prop:=im a (.int 1) (λx1=>im a (.int 1) λx2=>bi .Mult x1 x2 λx3=>bi .Mult x3 (.int 43) λx4=>im a (.int 1) λx5=>bi .Mult (.int 17) x5 λx6=>bi .Add x4 x6 λx7=>im a (.int 0) λx8=>cb .len [x8] λx9=>bi .Mult (.int 3) x9 λx10=>bi .Add x7 x10 λx11=>bi .FloorDiv x11 (.int 4) λx12=>bi .Mod x12 b Q) H
def Ah:Prop:=im a (.int 1) (λx1=>im a (.int 0) λx2=>cb .len [x2] λx3=>cm .LtE x1 x3 λb4 H=>cond b4 (im a (.int 0) (λx5=>im a (.int 1) λx6=>bi .Sub x6 (.int 1) λx7=>im x5 x7 λx8=>bi .Mod x8 b Q) H) (Ai Q a b H)) H
def yx:Prop:=nw (.tup [(.int 1),(.int 2),(.int 3)]) (λx2=>ok (aF x2) λl3=>ok (d9 tab (fD "_law_plist") 7 [1] x2 l3 (a9 a b c none none none)) λr1 H=>eA r1.1 (bU tab (fD "_law_plist") 7 [2] r1.2 (fin Q) H) λv=>(fin Q) (.ret v) r1.2 H) H
def yw:Prop:=cm .Gt e (.int 0) (λb1 H=>cond b1 (aA tab c "append" (λA=>bi .Add b d λx2=>nw (.list [.none,(.int 0),x2]) λx3=>bi .Sub e (.int 1) λx4=>im x3 x4 λx5=>nw (.tup [d,x5]) λx6=>A [x6]) (λx7=>K .next (a9 a b c d e o_a)) H) (K .next (a9 a b c d e o_a) H)) H
def yv:Prop:=aA tab c "append" (λA=>nw (.tup [(.str "list")]) λx1=>ok (aF f) λl2=>ok (dC tab (fD "_law_plist") 19 [2,0,2,0,1] 0 (a9 a b c d e f) f l2) λout3=>nw (.list out3) λx4=>cb .tuple [x4] λx5=>bi .Add x1 x5 λx6=>nw (.tup [d,x6]) λx7=>A [x7]) (λx8=>K .next (a9 a b c d e f)) H
def oI:Prop:=cm .Gt e (.int 2) (λb1 H=>cond b1 (nw (.tup [(.int 1),(.int 2),(.int 3)]) (λx2=>ok (aF x2) λl3=>ok (dC tab (fD "_law_plist") 24 [2,0,2,0,0] 0 (a9 a b c d e o_a) x2 l3) λout4=>nw (.list out4) (yv tab K a b c d e)) H) (K .next (a9 a b c d e o_a) H)) H
def yu:Prop:=cm .Eq e (.int 1) (λb1 H=>cond b1 (aA tab c "append" (λA=>nw (.tup [d,(.bool true)]) λx2=>A [x2]) (λx3=>oI tab K a b c d e o_a) H) (oI tab K a b c d e o_a H)) H
def Ad:Prop:=aA tab a "size" (λA=>A []) (λx2=>cb .range [x2] λx3=>ok (aF x3) λl4=>ok (d9 tab (fD "_law_seen") 7 [1] x3 l4 (dE a b none none)) λr1 H=>eA r1.1 (bU tab (fD "_law_seen") 7 [2] r1.2 (fin Q) H) λv=>(fin Q) (.ret v) r1.2 H) H
def Ac:Prop:=aA tab b "append" (λA=>nw (.tup [(.int 1),(.int 2),(.int 3)]) λx1=>ok (aF x1) λl2=>ok (dC tab (fD "_law_seen") 22 [1,0,1] 0 (dE a b c d) x1 l2) λout3=>nw (.list out3) λx4=>A [x4]) (λx5=>K .next (dE a b c d)) H
def j9:Prop:=cm .Lt d (.int 0) (λb1 H=>cond b1 (bi .Sub a (.int 1) (λx2=>im c x2 λx3=>bi .Sub b (.int 1) λx4=>im x3 x4 Q) H) (im c a (λx6=>bi .Sub b (.int 1) λx7=>im x6 x7 Q) H)) H
def th:Prop:=cm .Eq d (.int 0) (λb1 H=>cond b1 (Q .none H) (cm .Gt d (.int 0) (λb2 H=>cond b2 (cb .len [c] (λx3=>cm .Eq a x3 λb4 H=>cond b4 (Q .none H) (j9 Q a b c d H)) H) (j9 Q a b c d H)) H)) H
def IU:Prop:=nw (.tup [(.int 1),(.int 2),(.int 3)]) (λx2=>ok (aF x2) λl3=>ok (d9 tab (fD "law") 7 [5] x2 l3 (bY a b c d none e none none none none none none none)) λr1 H=>eA r1.1 (bU tab (fD "law") 7 [6] r1.2 (fin Q) H) λv=>(fin Q) (.ret v) r1.2 H) H
def IT:Prop:=cf tab "props_of_rows" [e] (λx1=>cf tab "OverlayHome" [d] λx2=>nw (.tup [x1,x2]) λx3 H=>tZ x3 (λu4 u5=>pf c "props" u4 (λu_=>pf c "overlays" u5 λu_=>IU tab Q a b c d e) H) H) H
def IQ:Prop:=ok (aF e) (λl1=>ok (dC tab (fD "law") 19 [3] 0 (bY a b c d none e none none none none none none none) e l1) λout2=>nw (.list out2) λx3=>cb .sum [x3] λx4=>cb .range [x4] λx5=>cb .list [x5] λx6=>cf tab "insert" [c,x6] λx7=>IT tab Q a b c d e) H
def IM:Prop:=cf tab "_law_draw" [b,(.int 3)] (λx1=>cb .range [x1] λx2=>ok (aF x2) λl3=>ok (dC tab (fD "law") 24 [2] 0 (bY a b c d none none none none none none none none none) x2 l3) λout4=>nw (.list out4) (IQ tab Q a b c d)) H
def IK:Prop:=cf tab "PlainLisp" [(.int 100)] (λx1=>cf tab "PropRules" [x1] (IM tab Q a b c)) H
def IJ:Prop:=cf tab "_law_seen" [c] (λx1=>ok (aR g) λi2=>ok (bH i none (some i2)) λx3=>nw (.list [l]) λx4=>cb .len [h] λx5=>bi .Mult x4 x5 λx6=>bi .Add x3 x6 λx7=>ok (aR g) λi8=>ok (bH i (some i8) none) λx9=>bi .Add x7 x9 λx10=>cm .NotEq x1 x10 λb11 H=>cond b11 (K (.ret (.bool false)) (bY a b c d e f o_a g h i j l o_b) H) (K .next (bY a b c d e f o_a g h i j l o_b) H)) H
def II:Prop:=aA tab c "codes" (λA=>aA tab c "size" (λA=>A []) λx1=>bi .Add x1 (.int 1) λx2=>A [(.int 1),x2]) (λx3=>ok (aR g) λi4=>ok (bH j none (some i4)) λx5=>bi .Add x5 h λx6=>ok (aR g) λi7=>ok (bH j (some i7) none) λx8=>bi .Add x6 x8 λx9=>cm .NotEq x3 x9 λb10 H=>cond b10 (K (.ret (.bool false)) (bY a b c d e f o_a g h i j l o_b) H) (gf c "point" (λx11=>bi .Add g (.int 1) λx12=>cb .len [h] λx13=>bi .Add x12 x13 λx14=>cm .NotEq x11 x14 λb15 H=>cond b15 (K (.ret (.bool false)) (bY a b c d e f o_a g h i j l o_b) H) (IJ tab K a b c d e f g h i j l o_a o_b H)) H)) H
def IH:Prop:=nw (.tup [(.int 1),(.int 2),(.int 3)]) (λx1=>ok (aF x1) λl2=>ok (dC tab (fD "law") 24 [6,0,3] 0 (bY a b c d e f o_a g h i j o_b o_c) x1 l2) λout3=>nw (.list out3) λx4=>cf tab "insert_inheriting" [c,h] λx5=>II tab K a b c d e f g h i j x4 o_a o_c) H
def IG:Prop:=aA tab c "codes" (λA=>aA tab c "size" (λA=>A []) λx1=>bi .Add x1 (.int 1) λx2=>A [(.int 1),x2]) (λx3=>IH tab K a b c d e f g h i x3 o_a o_b o_c) H
def GG:Prop:=bi .Add (.int 50) e (λx1=>nw (.list [x1]) λx2=>cf tab "_law_draw" [b,(.int 3)] λx3=>bi .Mult x2 x3 λx4=>cf tab "_law_seen" [c] λx5=>nw (.tup [x4,x5]) λx6 H=>tZ x6 (λu7 u8=>IG tab K a b c d e f g u7 u8 o_a o_b o_c H) H) H
def GF:Prop:=aA tab f "codes" (λA=>A [(.int 1),(.int 3)]) (λx1=>nw (.list [(.int 7),(.int 8)]) λx2=>cm .Eq x1 x2 λb3=>ab (.bool b3) λb4 H=>cond b4 (gf f "point" (λx5=>cm .Eq x5 (.int 3) λb6=>ab (.bool b6) λb7=>K (.ret (.bool b7)) (bY a b c d o_a e o_b o_c o_d o_e o_f o_g f)) H) (K (.ret (.bool false)) (bY a b c d o_a e o_b o_c o_d o_e o_f o_g f) H)) H
def GD:Prop:=nw (.list [(.int 7),(.int 8)]) (λx1=>cf tab "insert_inheriting" [f,x1] λx2=>GF tab K a b c d e f o_a o_b o_c o_d o_e o_f o_g) H
end
variable {a b c d e f g h i j l m p q r s t v w y z a' b' c' d' e' f' g' h' i' j' l' m' p' q' r' s' t' v' w' y' z' x:V}{o_a o_b o_c o_d o_e o_f o_g o_h o_i o_j o_l o_m o_p o_q o_r o_s o_t o_v o_w o_y o_z o_a' o_b' o_c' o_d' o_e' o_f' o_g' o_h' o_i' o_j' o_l' o_m' o_p' o_q' o_r' o_s' o_t' o_v' o_w' o_y' o_z':Option V}
theorem pk (h:gf a "is_read_only" (λx1=>ab x1 λb2 H=>cond b2 False (Q .none H)) H):ok (ae (aa (n+1)) "need_writable" [a]) Q H:=bA h
theorem yk (h:aA (aa n) a "size" (λA=>A []) (λx1=>bi .Add x1 b λx2=>cm .Gt x2 (.int 4194304) λb3 H=>cond b3 False (Q .none H)) H):ok (ae (aa (n+1)) "need_room" [a,b]) Q H:=bA h
theorem Cn (h:cb .min [b,c] (λx1=>cb .max [b,c] λx2=>nw (.tup [x1,x2]) λx3 H=>tZ x3 (λu4 u5=>zL Q a u4 u5 H) H) H):ok (ae (aa (n+1)) "reached" [a,b,c]) Q H:=bA h
theorem uX (h:gf a "listeners" (λx2=>cb .list [x2] λx3=>ok (aF x3) λl4=>ok (d9 (aa n) (fD "tell_ahead") 7 [0] x3 l4 (uY a b c none)) λr1 H=>eA r1.1 ((fin Q) .next r1.2 H) λv=>(fin Q) (.ret v) r1.2 H) H):ok (ae (aa (n+1)) "tell_ahead" [a,b,c]) Q H:=bA h
theorem sH (h:aA (aa n) a "touch" (λA=>A [(.bool true)]) (λx1=>qb (aa n) Q a b c d) H):ok (ae (aa (n+1)) "tell_behind" [a,b,c,d]) Q H:=bA h
theorem B3 (h:gf a "undo" (λx1=>cm .IsNot x1 .none λb2 H=>cond b2 (gf a "undo" (λx3=>aA (aa n) x3 "text_comes" (λA=>cb .len [c] λx4=>A [a,b,x4]) λx5=>p9 (aa n) Q a b c) H) (p9 (aa n) Q a b c H)) H):ok (ae (aa (n+1)) "text_in" [a,b,c]) Q H:=bA h
theorem uz (h:gf a "props" (λx1=>cm .IsNot x1 .none λb2 H=>cond b2 (gf a "props" (λx3=>aA (aa n) x3 "text_came" (λA=>bi .Sub b (.int 1) λx4=>A [x4,c]) λx5=>rC (aa n) Q a b c d) H) (rC (aa n) Q a b c d H)) H):ok (ae (aa (n+1)) "hung_in" [a,b,c,d]) Q H:=bA h
theorem Ea (h:cf (aa n) "need_writable" [a] (λx1=>cf (aa n) "reached" [a,b,b] λx2=>Cq (aa n) Q a b c d e) H):ok (ae (aa (n+1)) "put_in" [a,b,c,d,e]) Q H:=bA h
theorem EF (h:gf a "point" (λx1=>cf (aa n) "put_in" [a,x1,b,(.bool false),(.bool true)] λx2=>Q .none) H):ok (ae (aa (n+1)) "insert" [a,b]) Q H:=bA h
theorem pB (h:pf a "total" b (λu_=>oj Q a c) H):ok (aU aH (aa n) (mD "Interval" "__init__") [a,b,c]) Q H:=dT h
theorem jS (h:cm .Gt b (.int 0) (λb1 H=>cond b1 (cf (aa n) "Interval" [b,c] (λx2=>pf a "root" x2 λu_=>Q .none) H) (pf a "root" .none (λu_=>Q .none) H)) H):ok (aU aH (aa n) (mD "IntervalTree" "__init__") [a,b,c]) Q H:=dT h
theorem zr (h:cm .Is a .none (λb1 H=>cond b1 (Q (.int 0) H) (gf a "total" Q H)) H):ok (ae (aa (n+1)) "total_of" [a]) Q H:=bA h
theorem vH (h:gf a "total" (λx1=>gf a "left" λx2=>cf (aa n) "total_of" [x2] λx3=>bi .Sub x1 x3 λx4=>gf a "right" λx5=>cf (aa n) "total_of" [x5] λx6=>bi .Sub x4 x6 Q) H):ok (ae (aa (n+1)) "own_length" [a]) Q H:=bA h
theorem sG (h:gf a "root" (λx1=>cf (aa n) "total_of" [x1] Q) H):ok (ae (aa (n+1)) "text_length" [a]) Q H:=bA h
theorem qQ (h:gf b "parent" (oY Q a b c) H):ok (ae (aa (n+1)) "put_in_stead" [a,b,c]) Q H:=bA h
theorem zD (h:pf a "left" b (λu_=>xJ Q a b) H):ok (ae (aa (n+1)) "set_left" [a,b]) Q H:=bA h
theorem xI (h:pf a "right" b (λu_=>vj Q a b) H):ok (ae (aa (n+1)) "set_right" [a,b]) Q H:=bA h
theorem qA (h:gf b "left" (oU (aa n) Q a b) H):ok (ae (aa (n+1)) "rotate_right" [a,b]) Q H:=bA h
theorem sX (h:gf b "right" (qC (aa n) Q a b) H):ok (ae (aa (n+1)) "rotate_left" [a,b]) Q H:=bA h
theorem km (h:gf a "left" (jL (aa n) Q a) H):ok (ae (aa (n+1)) "right_turn_helps" [a]) Q H:=bA h
theorem lJ (h:gf a "right" (ku (aa n) Q a) H):ok (ae (aa (n+1)) "left_turn_helps" [a]) Q H:=bA h
theorem DX (h:nw (.list [b]) (Cg (aa n) Q a b b) H):ok (ae (aa (n+1)) "settle" [a,b]) Q H:=bA h
theorem uh {Q:KB}(h:cb .len [c] (λx1=>cm .Gt x1 (.int 0) Q) H):fN tab (fD "settle") [2] (fE a b c d o_e o_f) Q H:=of_eq h
theorem Ce (h:aA tab c "pop" (λA=>A []) (λx1=>Cf tab K a b c d x1 o_f) H):gz tab (fD "settle") 7 [2] (fE a b c d o_e o_f) K H:=of_eq h
theorem Ci (h:K (.ret d) (fE a b c d o_e o_f) H):bU tab (fD "settle") 7 [3] (fE a b c d o_e o_f) K H:=of_eq h
theorem oE (h:ok (bM (aa n) (fD "settle_up") 7 [0] (gK a b)) (λr1 H=>eA r1.1 ((fin Q) .next r1.2 H) λv=>(fin Q) (.ret v) r1.2 H) H):ok (ae (aa (n+1)) "settle_up" [a,b]) Q H:=bA h
theorem fS {Q:KB}(h:cm .IsNot b .none Q H):fN tab (fD "settle_up") [0] (gK a b) Q H:=of_eq h
theorem k8 (h:cf tab "settle" [a,b] (λx1=>gf x1 "parent" λx2=>K .next (gK a x2)) H):gz tab (fD "settle_up") 7 [0] (gK a b) K H:=of_eq h
theorem za (h:ok (bM (aa n) (fD "add_above") 7 [0] (gU a b)) (λr1 H=>eA r1.1 ((fin Q) .next r1.2 H) λv=>(fin Q) (.ret v) r1.2 H) H):ok (ae (aa (n+1)) "add_above" [a,b]) Q H:=bA h
theorem mh {Q:KB}(h:cm .IsNot a .none Q H):fN tab (fD "add_above") [0] (gU a b) Q H:=of_eq h
theorem wZ (h:gf a "total" (λx1=>bi .Add x1 b λx2=>pf a "total" x2 λu_=>gf a "parent" λx3=>K .next (gU x3 b)) H):gz tab (fD "add_above") 7 [0] (gU a b) K H:=of_eq h
theorem px (h:gf a "root" (nH (aa n) Q a b (.int 0)) H):ok (ae (aa (n+1)) "find_interval" [a,b]) Q H:=bA h
theorem nB {Q:KB}(h:ab (.bool true) Q H):fN tab (fD "find_interval") [2] (cH a b c d o_e o_f) Q H:=of_eq h
theorem nF (h:gf c "left" (λx1=>cf tab "total_of" [x1] λx2=>cf tab "own_length" [c] (nG K a b c d x2)) H):gz tab (fD "find_interval") 7 [2] (cH a b c d o_e o_f) K H:=of_eq h
theorem Ak (h:ok (bM (aa n) (fD "leftmost") 7 [0] (fk a)) (λr1 H=>eA r1.1 (bU (aa n) (fD "leftmost") 7 [1] r1.2 (fin Q) H) λv=>(fin Q) (.ret v) r1.2 H) H):ok (ae (aa (n+1)) "leftmost" [a]) Q H:=bA h
theorem yD {Q:KB}(h:gf a "left" (λx1=>cm .IsNot x1 .none Q) H):fN tab (fD "leftmost") [0] (fk a) Q H:=of_eq h
theorem yE (h:gf a "left" (λx1=>K .next (fk x1)) H):gz tab (fD "leftmost") 7 [0] (fk a) K H:=of_eq h
theorem yF (h:K (.ret a) (fk a) H):eA .next (bU tab (fD "leftmost") 7 [1] (fk a) K H) R:=of_eq h
theorem xN (h:ok (bM (aa n) (fD "rightmost") 7 [0] (eF a)) (λr1 H=>eA r1.1 (bU (aa n) (fD "rightmost") 7 [1] r1.2 (fin Q) H) λv=>(fin Q) (.ret v) r1.2 H) H):ok (ae (aa (n+1)) "rightmost" [a]) Q H:=bA h
theorem vm {Q:KB}(h:gf a "right" (λx1=>cm .IsNot x1 .none Q) H):fN tab (fD "rightmost") [0] (eF a) Q H:=of_eq h
theorem vn (h:gf a "right" (λx1=>K .next (eF x1)) H):gz tab (fD "rightmost") 7 [0] (eF a) K H:=of_eq h
theorem vo (h:K (.ret a) (eF a) H):eA .next (bU tab (fD "rightmost") 7 [1] (eF a) K H) R:=of_eq h
theorem yQ (h:gf a "right" (λx1=>cm .IsNot x1 .none λb2 H=>cond b2 (gf a "right" (λx3=>cf (aa n) "leftmost" [x3] Q) H) (wI (aa n) Q a H)) H):ok (ae (aa (n+1)) "following" [a]) Q H:=bA h
theorem iF {Q:KB}(h:gf a "parent" (λx1=>cm .IsNot x1 .none λb2 H=>cond b2 (gf a "parent" (λx3=>gf x3 "right" λx4=>cm .Is x4 a λb5 H=>cond b5 (Q true H) (Q false H)) H) (Q false H)) H):fN tab (fD "following") [1] (eI a) Q H:=of_eq h
theorem wH (h:gf a "parent" (λx1=>K .next (eI x1)) H):gz tab (fD "following") 7 [1] (eI a) K H:=of_eq h
theorem wJ (h:gf a "parent" (λx1=>K (.ret x1) (eI a)) H):eA .next (bU tab (fD "following") 7 [2] (eI a) K H) R:=of_eq h
theorem xV (h:gf a "left" (λx1=>cm .IsNot x1 .none λb2 H=>cond b2 (gf a "left" (λx3=>cf (aa n) "rightmost" [x3] Q) H) (vB (aa n) Q a H)) H):ok (ae (aa (n+1)) "preceding" [a]) Q H:=bA h
theorem iz {Q:KB}(h:gf a "parent" (λx1=>cm .IsNot x1 .none λb2 H=>cond b2 (gf a "parent" (λx3=>gf x3 "left" λx4=>cm .Is x4 a λb5 H=>cond b5 (Q true H) (Q false H)) H) (Q false H)) H):fN tab (fD "preceding") [1] (eG a) Q H:=of_eq h
theorem vA (h:gf a "parent" (λx1=>K .next (eG x1)) H):gz tab (fD "preceding") 7 [1] (eG a) K H:=of_eq h
theorem vC (h:gf a "parent" (λx1=>K (.ret x1) (eG a)) H):eA .next (bU tab (fD "preceding") 7 [2] (eG a) K H) R:=of_eq h
theorem vq (h:gf b "right" (λx1=>cm .Is x1 .none λb2 H=>cond b2 (cf (aa n) "set_right" [b,c] (λx3=>j7 (aa n) Q a c) H) (gf b "right" (λx4=>cf (aa n) "leftmost" [x4] λx5=>cf (aa n) "set_left" [x5,c] λx6=>j7 (aa n) Q a c) H)) H):ok (ae (aa (n+1)) "put_behind" [a,b,c]) Q H:=bA h
theorem xT (h:cf (aa n) "preceding" [b] (vt (aa n) Q a b c) H):ok (ae (aa (n+1)) "put_ahead" [a,b,c]) Q H:=bA h
theorem zA (h:cm .Lt (.int 0) b (λb1 H=>cond b1 (cf (aa n) "text_length" [a] (λx2=>cm .Lt b x2 λb3 H=>cond (!b3) (Q .none H) (oB (aa n) Q a b H)) H) (cond (!false) (Q .none H) (oB (aa n) Q a b H))) H):ok (ae (aa (n+1)) "split_at" [a,b]) Q H:=bA h
theorem pz (h:gf b "parent" (λx1=>cf (aa n) "own_length" [b] λx2=>bi .Sub (.int 0) x2 λx3=>cf (aa n) "add_above" [x1,x3] λx4=>gf b "parent" (nM (aa n) Q a b)) H):ok (ae (aa (n+1)) "drop_interval" [a,b]) Q H:=bA h
theorem ia {Q:KB}(h:cm .IsNot f c Q H):fN tab (fD "drop_interval") [7] (cI a b c o_d e f) Q H:=of_eq h
theorem nK (h:gf f "total" (λx1=>gf e "total" λx2=>bi .Add x1 x2 λx3=>pf f "total" x3 λu_=>gf f "parent" λx4=>K .next (cI a b c o_d e x4)) H):gz tab (fD "drop_interval") 7 [7] (cI a b c o_d e f) K H:=of_eq h
theorem nR (h:gf e "parent" (λx1=>cf tab "settle_up" [a,x1] λx2=>K .next (cI a b c o_d e f)) H):bU tab (fD "drop_interval") 7 [8] (cI a b c o_d e f) K H:=of_eq h
theorem lP (h:cm .Eq c (.int 0) (λb1 H=>cond b1 (Q .none H) (cf (aa n) "Interval" [c,d] (kH (aa n) Q a b) H)) H):ok (ae (aa (n+1)) "insert_interval" [a,b,c,d]) Q H:=bA h
theorem LK (h:ok (isType "bool" a) (λx1=>ab x1 λb2 H=>cond b2 (ok (isType "bool" a) (λx3=>ab x3 λb4 H=>cond b4 (ok (isType "bool" b) (λx5=>ab x5 λb6 H=>cond b6 (cm .Eq a b (λb7=>ab (.bool b7) λb8=>Q (.bool b8)) H) (Q (.bool false) H)) H) (Q (.bool false) H)) H) (ok (isType "bool" b) (λx9=>ab x9 λb10 H=>cond b10 (ok (isType "bool" a) (λx11=>ab x11 λb12 H=>cond b12 (ok (isType "bool" b) (λx13=>ab x13 λb14 H=>cond b14 (cm .Eq a b (λb15=>ab (.bool b15) λb16=>Q (.bool b16)) H) (Q (.bool false) H)) H) (Q (.bool false) H)) H) (cm .Eq a b (λb17=>Q (.bool b17)) H)) H)) H):ok (ae (aa (n+1)) "eq" [a,b]) Q H:=bA h
theorem vG (h:cb .len [a] (λx2=>cb .range [x2] λx3=>ok (aF x3) λl4=>ok (d9 (aa n) (fD "plist_find") 7 [0] x3 l4 (dU a b none)) λr1 H=>eA r1.1 (bU (aa n) (fD "plist_find") 7 [1] r1.2 (fin Q) H) λv=>(fin Q) (.ret v) r1.2 H) H):ok (ae (aa (n+1)) "plist_find" [a,b]) Q H:=bA h
theorem ta (h:im a x (λx1=>im x1 (.int 0) λx2=>cm .Eq x2 b λb3 H=>cond b3 (K (.ret x) (dU a b x) H) (K .next (dU a b x) H)) H):fC tab (fD "plist_find") 7 [0] (dU a b o_c) x K H:=of_eq h
theorem td (h:ok (aR (.int 1)) (λi1=>K (.ret (.int (-i1))) (dU a b o_c)) H):eA .next (bU tab (fD "plist_find") 7 [1] (dU a b o_c) K H) R:=of_eq h
theorem xW (h:cf (aa n) "plist_find" [a,b] (vF Q a) H):ok (ae (aa (n+1)) "plist_get" [a,b]) Q H:=bA h
theorem wB (h:cf (aa n) "plist_find" [a,b] (tG (aa n) Q a c) H):ok (ae (aa (n+1)) "holds_pair" [a,b,c]) Q H:=bA h
theorem vk (h:cb .len [a] (λx1=>cb .len [b] λx2=>cm .NotEq x1 x2 λb3 H=>cond b3 (Q (.bool false) H) (sT (aa n) Q a b H)) H):ok (ae (aa (n+1)) "same_plist" [a,b]) Q H:=bA h
theorem sS (h:tZ x (λu1 u2=>cf tab "holds_pair" [b,u1,u2] (λx3=>ab x3 λb4 H=>cond (!b4) (K (.ret (.bool false)) (dS a b u1 u2) H) (K .next (dS a b u1 u2) H)) H) H):fC tab (fD "same_plist") 7 [1] (dS a b o_c o_d) x K H:=of_eq h
theorem sU (h:K (.ret (.bool true)) (dS a b o_c o_d) H):eA .next (bU tab (fD "same_plist") 7 [2] (dS a b o_c o_d) K H) R:=of_eq h
theorem og (h:pf a "lisp" b (λu_=>mj (aa n) Q a b) H):ok (aU aH (aa n) (mD "PropRules" "__init__") [a,b]) Q H:=dT h
theorem gB (h:gf a "nil" (λx1=>cf (aa n) "eq" [b,x1] Q) H):ok (bB (aa (n+1)) "PropRules" "is_nil" [a,b]) Q H:=hP h
theorem zm (h:cf (aa n) "plist_get" [b,c] (xh (aa n) Q a b c) H):ok (ae (aa (n+1)) "value_in" [a,b,c]) Q H:=bA h
theorem yK (h:aA (aa n) a "is_nil" (λA=>A [c]) (λx1=>ab x1 λb2 H=>cond b2 (Q (.bool false) H) (wg (aa n) Q a b c H)) H):ok (ae (aa (n+1)) "is_member" [a,b,c]) Q H:=bA h
theorem wj (tab:Tab) (a b c d:V) (o_c1:Option V) (x:V) (Q:ao->List V->AH->Prop) (H:AH):fp tab (fD "is_member") 22 [3] 0 (([(".0",none),("item",o_c1)]:ao)++((eH a b c d):ao)) x Q H=(gf a "lisp" (λx1=>aA tab x1 "number_of" (λA=>A [x]) λx2=>cm .Eq x2 b λb3 H=>cond b3 (Q (([(".0",none),("item",some x)]:ao)++((eH a b c d):ao)) [(.int 1)] H) (Q (([(".0",none),("item",some x)]:ao)++((eH a b c d):ao)) [] H)) H):=by kernel_rfl
theorem tB (a b c d:V):ib (fD "is_member") [3] 0 (eH a b c d)=(([(".0",none),("item",none)]:ao)++((eH a b c d):ao)):=by kernel_rfl
theorem Au (h:gf a "defaults" (λx1=>aA (aa n) x1 "get" (λA=>A [b,(.int 0)]) λx2=>cm .Gt x2 (.int 0) λb3=>Q (.bool b3)) H):ok (ae (aa (n+1)) "is_loose" [a,b]) Q H:=bA h
theorem As (h:gf a "defaults" (λx1=>aA (aa n) x1 "get" (λA=>A [b,(.int 0)]) λx2=>cm .Lt x2 (.int 0) λb3=>Q (.bool b3)) H):ok (ae (aa (n+1)) "is_tight" [a,b]) Q H:=bA h
theorem oa (h:nw (.list []) (λx1=>cf (aa n) "IntervalTree" [b,x1] λx2=>pf a "tree" x2 λu_=>Q .none) H):ok (aU aH (aa n) (mD "TextProps" "__init__") [a,b]) Q H:=dT h
theorem iS (h:nw (.list []) (λx1=>cf (aa n) "text_inserted" [a,b,c,x1] λx2=>Q .none) H):ok (bB (aa (n+1)) "TextProps" "text_came" [a,b,c]) Q H:=hP h
theorem js (h:cf (aa n) "put_rows_textprops" [a,b] Q H):ok (bB (aa (n+1)) "TextProps" "put_rows" [a,b]) Q H:=hP h
theorem oZ (h:cf (aa n) "TextProps" [(.int 0)] (mR (aa n) Q a (.int 0)) H):ok (ae (aa (n+1)) "props_of_rows" [a]) Q H:=bA h
theorem mP (h:tZ x (λu1 u2=>gf b "tree" (λx3=>cf tab "insert_interval" [x3,c,u1,u2] λx4=>mQ tab K a b c u1 u2) H) H):fC tab (fD "props_of_rows") 7 [2] (dy a b c o_d o_e) x K H:=of_eq h
theorem mS (h:K (.ret b) (dy a b c o_d o_e) H):eA .next (bU tab (fD "props_of_rows") 7 [3] (dy a b c o_d o_e) K H) R:=of_eq h
theorem o9 (h:cm .Lt b (.int 0) (λb1 H=>cond b1 (nw (.list []) Q H) (gf a "tree" (λx3=>cf (aa n) "text_length" [x3] λx4=>cm .GtE b x4 λb5 H=>cond b5 (nw (.list []) Q H) (mT (aa n) Q a b H)) H)) H):ok (ae (aa (n+1)) "properties_at" [a,b]) Q H:=bA h
theorem sY (h:cm .GtE b c (λb1 H=>cond b1 (nw (.list []) Q H) (qK (aa n) Q a b c H)) H):ok (ae (aa (n+1)) "range_nodes" [a,b,c]) Q H:=bA h
theorem iZ {Q:KB}(h:cm .Gt f (.int 0) Q H):fN tab (fD "range_nodes") [6] (dD a b c d e f) Q H:=of_eq h
theorem qI (h:aA tab e "append" (λA=>A [d]) (λx1=>qJ tab K a b c d e f) H):gz tab (fD "range_nodes") 7 [6] (dD a b c d e f) K H:=of_eq h
theorem qP (h:K (.ret e) (dD a b c d e f) H):eA .next (bU tab (fD "range_nodes") 7 [7] (dD a b c d e f) K H) R:=of_eq h
theorem CV (h:cm .Lt (.int 0) b (λb1 H=>cond b1 (gf a "tree" (λx2=>cf (aa n) "text_length" [x2] λx3=>cm .Lt b x3 λb4 H=>cond (!b4) (Q .none H) (rn (aa n) Q a b H)) H) (cond (!false) (Q .none H) (rn (aa n) Q a b H))) H):ok (ae (aa (n+1)) "join_at" [a,b]) Q H:=bA h
theorem wb (h:tz (aa n) Q a b c b H):ok (ae (aa (n+1)) "join_range" [a,b,c]) Q H:=bA h
theorem kc {Q:KB}(h:cm .LtE d c (λb1 H=>cond b1 (gf a "tree" (λx2=>cf tab "text_length" [x2] λx3=>cm .Lt d x3 λb4 H=>cond b4 (Q true H) (Q false H)) H) (Q false H)) H):fN tab (fD "join_range") [1] (dW a b c d o_e o_f o_g) Q H:=of_eq h
theorem tv (h:gf a "tree" (λx1=>cf tab "find_interval" [x1,d] λx2 H=>tZ x2 (λu3 u4=>tw tab K a b c u3 u4 H) H) H):gz tab (fD "join_range") 7 [1] (dW a b c d o_e o_f o_g) K H:=of_eq h
theorem tA (h:cf tab "join_at" [a,c] (λx1=>K .next (dW a b c d o_e o_f o_g)) H):eA .next (bU tab (fD "join_range") 7 [2] (dW a b c d o_e o_f o_g) K H) R:=of_eq h
theorem mM (h:lu (aa n) Q a b c d (.bool false) H):ok (ae (aa (n+1)) "set_properties" [a,b,c,d]) Q H:=bA h
theorem lg (h:gf x "plist" (λx1=>cf tab "same_plist" [d,x1] λx2=>ab x2 λb3 H=>cond (!b3) (cb .list [d] (λx4=>pf x "plist" x4 λu_=>K .next (cn a b c d (some (.bool true)) x)) H) (K .next (cn a b c d e x) H)) H):fC tab (fD "set_properties") 7 [1] (cn a b c d e o_f) x K H:=of_eq h
theorem lx (h:cf tab "join_range" [a,b,c] (λx1=>K (.ret e) (cn a b c d e o_f)) H):eA .next (bU tab (fD "set_properties") 7 [2] (cn a b c d e o_f) K H) R:=of_eq h
theorem zM (h:xR (aa n) Q a b (.bool false) H):ok (ae (aa (n+1)) "put_rows" [a,b]) Q H:=bA h
theorem xQ (h:Lb x (λu1 u2 u3=>cf tab "set_properties" [a,u1,u2,u3] (λx4=>ab x4 λb5 H=>cond b5 (K .next (fh a b (some (.bool true)) u1 u2 u3) H) (K .next (fh a b c u1 u2 u3) H)) H) H):fC tab (fD "put_rows") 7 [1] (fh a b c o_d o_e o_f) x K H:=of_eq h
theorem xS (h:K (.ret c) (fh a b c o_d o_e o_f) H):eA .next (bU tab (fD "put_rows") 7 [2] (fh a b c o_d o_e o_f) K H) R:=of_eq h
theorem oS (h:gf a "tree" (λx1=>cb .list [d] λx2=>cf (aa n) "insert_interval" [x1,b,c,x2] λx3=>mI (aa n) Q a b c) H):ok (ae (aa (n+1)) "text_inserted" [a,b,c,d]) Q H:=bA h
theorem w4 (h:pf a "rules" b (λu_=>tI (aa n) Q a b c d) H):ok (aU aH (aa n) (mD "Sides" "__init__") [a,b,c,d]) Q H:=dT h
theorem zB (h:cm .Gt c (.int 0) (λb1 H=>cond b1 (bi .Sub c (.int 1) (λx2=>cf (aa n) "properties_at" [b,x2] (oD (aa n) Q a b c)) H) (nw (.list []) (oD (aa n) Q a b c) H)) H):ok (ae (aa (n+1)) "sides_at" [a,b,c]) Q H:=bA h
theorem CY (h:gf a "true" (λx1=>cf (aa n) "eq" [c,x1] λx2=>ab x2 λb3 H=>cond b3 (Q (.bool true) H) (gf a "lisp" (λx4=>aA (aa n) x4 "items" (λA=>A [c]) λx5=>cm .IsNot x5 .none λb6=>ab (.bool b6) λb7 H=>cond b7 (cf (aa n) "is_member" [a,b,c] (λx8=>ab x8 λb9=>ab (.bool b9) λb10=>Q (.bool b10)) H) (ab (.bool false) (λb11=>Q (.bool b11)) H)) H)) H):ok (ae (aa (n+1)) "is_told" [a,b,c]) Q H:=bA h
theorem sO (h:cf (aa n) "sides_at" [a,b,c] (qh (aa n) Q a c d) H):ok (ae (aa (n+1)) "sticky_side" [a,b,c,d]) Q H:=bA h
theorem CZ (h:gf a "rules" (λx1=>gf a "left_rear" λx2=>cf (aa n) "is_member" [x1,b,x2] λx3=>ab x3 λb4=>ab (.bool (!b4)) λb5 H=>cond b5 (gf a "rules" (λx6=>cf (aa n) "is_loose" [x6,b] λx7=>ab x7 λb8=>ab (.bool (!b8)) λb9=>Q (.bool b9)) H) (Q (.bool false) H)) H):ok (ae (aa (n+1)) "is_kept" [a,b]) Q H:=bA h
theorem yL (h:gf a "rules" (λx1=>gf a "right_front" λx2=>cf (aa n) "is_member" [x1,b,x2] λx3=>ab x3 λb4 H=>cond b4 (Q (.bool true) H) (gf a "rules" (λx5=>cf (aa n) "is_tight" [x5,b] λx6=>ab x6 λb7=>Q (.bool b7)) H)) H):ok (ae (aa (n+1)) "is_caught" [a,b]) Q H:=bA h
theorem xq (h:gf a "found" (λx1=>aA (aa n) x1 "append" (λA=>nw (.tup [b,c]) λx2=>A [x2]) λx3=>u6 (aa n) Q a b) H):ok (ae (aa (n+1)) "take_left" [a,b,c]) Q H:=bA h
theorem uZ (h:gf a "found" (λx1=>aA (aa n) x1 "append" (λA=>nw (.tup [b,c]) λx2=>A [x2]) λx3=>sL (aa n) Q a b) H):ok (ae (aa (n+1)) "take_right" [a,b,c]) Q H:=bA h
theorem xr (h:gf a "left" (λx1=>cf (aa n) "plist_get" [x1,b] (vf (aa n) Q a b c)) H):ok (ae (aa (n+1)) "take_both" [a,b,c]) Q H:=bA h
theorem zx (h:cf (aa n) "is_kept" [a,b] (λx1=>ab x1 λb2 H=>cond b2 (cf (aa n) "take_left" [a,b,c] (λx3=>Q .none) H) (cf (aa n) "is_caught" [a,b] (λx4=>ab x4 λb5 H=>cond b5 (gf a "front" (λx6=>aA (aa n) x6 "append" (λA=>A [b]) λx7=>xp (aa n) Q a b) H) (Q .none H)) H)) H):ok (ae (aa (n+1)) "take_one" [a,b,c]) Q H:=bA h
theorem jN (h:gf a "category" (λx1=>cf (aa n) "plist_get" [b,x1] (jd (aa n) Q a)) H):ok (ae (aa (n+1)) "is_front_category" [a,b]) Q H:=bA h
theorem yM (h:cf (aa n) "Sides" [a,b,c] (wt (aa n) Q a b c) H):ok (ae (aa (n+1)) "inherited" [a,b,c]) Q H:=bA h
theorem wo (h:tZ x (λu1 u2=>cm .NotIn u1 e (λb3 H=>cond b3 (cf tab "take_both" [d,u1,u2] (λx4=>K .next (aL a b c d e u1 u2 o_h)) H) (K .next (aL a b c d e u1 u2 o_h) H)) H) H):fC tab (fD "inherited") 7 [2] (aL a b c d e o_f o_g o_h) x K H:=of_eq h
theorem wA (h:ok (aF b) (λl2=>ok (d9 tab (fD "inherited") 7 [3] b l2 (aL a b c d e o_f o_g o_h)) λr1 H=>eA r1.1 (bU tab (fD "inherited") 7 [4] r1.2 K H) λv=>K (.ret v) r1.2 H) H):eA .next (bU tab (fD "inherited") 7 [3] (aL a b c d e o_f o_g o_h) K H) R:=of_eq h
theorem wm (h:tZ x (λu1 u2=>cm .NotIn u1 e (λb3 H=>cond b3 (cf tab "plist_find" [c,u1] (λx4=>cm .Lt x4 (.int 0) λb5 H=>cond b5 (cf tab "take_one" [d,u1,u2] (λx6=>K .next (aL a b c d e u1 u2 o_h)) H) (K .next (aL a b c d e u1 u2 o_h) H)) H) (K .next (aL a b c d e u1 u2 o_h) H)) H) H):fC tab (fD "inherited") 7 [3] (aL a b c d e o_f o_g o_h) x K H:=of_eq h
theorem wz (h:gf a "lisp" (λx1=>wq tab K a b c d e x1 o_f o_g) H):eA .next (bU tab (fD "inherited") 7 [4] (aL a b c d e o_f o_g o_h) K H) R:=of_eq h
theorem wy (tab:Tab) (a b c d e h:V) (o_f o_g:Option V) (o_c1:Option V) (x:V) (Q:ao->List V->AH->Prop) (H:AH):fp tab (fD "inherited") 20 [5,0,0] 0 (([(".0",none),("number",o_c1)]:ao)++((aL a b c d e o_f o_g h):ao)) x Q H=(aA tab h "symbol" (λA=>A [x]) (λx1=>Q (([(".0",none),("number",some x)]:ao)++((aL a b c d e o_f o_g h):ao)) [x1]) H):=by kernel_rfl
theorem tE (a b c d e h:V) (o_f o_g:Option V):ib (fD "inherited") [5,0,0] 0 (aL a b c d e o_f o_g h)=(([(".0",none),("number",none)]:ao)++((aL a b c d e o_f o_g h):ao)):=by kernel_rfl
theorem wx (tab:Tab) (a b c d e h:V) (o_f o_g:Option V) (o_c1:Option V) (x:V) (Q:ao->List V->AH->Prop) (H:AH):fp tab (fD "inherited") 20 [6,0,0] 0 (([(".0",none),("number",o_c1)]:ao)++((aL a b c d e o_f o_g h):ao)) x Q H=(aA tab h "symbol" (λA=>A [x]) (λx1=>Q (([(".0",none),("number",some x)]:ao)++((aL a b c d e o_f o_g h):ao)) [x1]) H):=by kernel_rfl
theorem tD (a b c d e h:V) (o_f o_g:Option V):ib (fD "inherited") [6,0,0] 0 (aL a b c d e o_f o_g h)=(([(".0",none),("number",none)]:ao)++((aL a b c d e o_f o_g h):ao)):=by kernel_rfl
theorem lN (h:gf a "rear_nonsticky" (λx1=>cf (aa n) "value_in" [a,b,x1] (kE (aa n) Q a b)) H):ok (ae (aa (n+1)) "is_loose_within" [a,b]) Q H:=bA h
theorem kC (h:tZ x (λu1 u2=>cf tab "is_member" [a,u1,d] (kD tab K a b c d u1 u2) H) H):fC tab (fD "is_loose_within") 7 [4] (bE a b c d o_e o_f o_g) x K H:=of_eq h
theorem kG (h:K (.ret (.bool false)) (bE a b c d o_e o_f o_g) H):eA .next (bU tab (fD "is_loose_within") 7 [5] (bE a b c d o_e o_f o_g) K H) R:=of_eq h
theorem rB (h:cm .Gt c (.int 0) (λb1 H=>cond b1 (bi .Sub c (.int 1) (λx2=>cf (aa n) "properties_at" [b,x2] λx3=>cf (aa n) "properties_at" [b,c] (iO (aa n) Q a b c x3)) H) (nw (.list []) (λx5=>cf (aa n) "properties_at" [b,c] (iO (aa n) Q a b c x5)) H)) H):ok (ae (aa (n+1)) "inherited_at" [a,b,c]) Q H:=bA h
theorem nv (h:gf a "overlays" (λx1=>gf x1 "rules" λx2=>gf a "props" λx3=>bi .Sub b (.int 1) λx4=>cf (aa n) "inherited_at" [x2,x3,x4] Q) H):ok (ae (aa (n+1)) "inherited_here" [a,b]) Q H:=bA h
theorem fO (h:gf a "point" (λx1=>nw (.list []) (jh (aa n) Q a b x1)) H):ok (ae (aa (n+1)) "insert_inheriting" [a,b]) Q H:=bA h
theorem r9 (h:pf a "room" c (λu_=>pC Q a b c) H):ok (aU aH (aa n) (mD "GapText" "__init__") [a,b,c]) Q H:=dT h
theorem rZ (h:gf a "cells" (λx1=>cb .len [x1] λx2=>gf a "gap_end" λx3=>bi .Sub x2 x3 λx4=>gf a "gap_start" λx5=>bi .Add x4 x5 Q) H):ok (bB (aa (n+1)) "GapText" "size" [a]) Q H:=hP h
theorem pF (h:gf a "gap_end" (λx1=>gf a "gap_start" λx2=>bi .Sub x1 x2 (ou Q a b c)) H):ok (bB (aa (n+1)) "GapText" "codes" [a,b,c]) Q H:=hP h
theorem gE (h:gf a "gap_start" (λx1=>cm .Lt b x1 λb2 H=>cond b2 (gf a "cells" (λx3=>ok (aR b) λi4=>gf a "gap_start" λx5=>ok (aR x5) λi6=>ok (bH x3 (some i4) (some i6)) (jW Q a b)) H) (gf a "cells" (λx8=>gf a "gap_end" λx9=>ok (aR x9) λi10=>gf a "gap_end" λx11=>bi .Add x11 b λx12=>gf a "gap_start" λx13=>bi .Sub x12 x13 λx14=>ok (aR x14) λi15=>ok (bH x8 (some i10) (some i15)) (jU Q a b)) H)) H):ok (bB (aa (n+1)) "GapText" "move_gap" [a,b]) Q H:=hP h
theorem jT (h:gf a "gap_end" (λx1=>gf a "gap_start" λx2=>bi .Sub x1 x2 λx3=>bi .Sub b x3 (ju Q a)) H):ok (bB (aa (n+1)) "GapText" "widen_gap" [a,b]) Q H:=hP h
theorem oq (h:aA (aa n) a "widen_gap" (λA=>cb .len [c] λx1=>A [x1]) (λx2=>aA (aa n) a "move_gap" (λA=>A [b]) λx3=>mA Q a b c) H):ok (bB (aa (n+1)) "GapText" "insert" [a,b,c]) Q H:=hP h
theorem rW (h:nw (.dict []) (λx1=>pf a "rows" x1 λu_=>Q .none) H):ok (aU aH (aa n) (mD "Markers" "__init__") [a]) Q H:=dT h
theorem mz (h:gf a "rows" (λx1=>cb .sorted [x1] Q) H):ok (bB (aa (n+1)) "Markers" "numbers" [a]) Q H:=hP h
theorem kQ (h:aA (aa n) a "numbers" (λA=>A []) (λx2=>ok (aF x2) λl3=>ok (d9 (aa n) (mD "Markers" "inserted") 7 [0] x2 l3 (kR a b c d none none)) λr1 H=>eA r1.1 ((fin Q) .next r1.2 H) λv=>(fin Q) (.ret v) r1.2 H) H):ok (bB (aa (n+1)) "Markers" "inserted" [a,b,c,d]) Q H:=hP h
theorem tU (h:pf a "number" b (λu_=>pf a "name" c λu_=>pH (aa n) Q a (.int 8)) H):ok (aU aH (aa n) (mD "Buffer" "__init__") [a,b,c]) Q H:=dT h
theorem tT (h:gf a "text" (λx1=>aA (aa n) x1 "size" (λA=>A []) Q) H):ok (bB (aa (n+1)) "Buffer" "size" [a]) Q H:=hP h
theorem sC (h:gf a "text" (λx1=>aA (aa n) x1 "codes" (λA=>bi .Sub b (.int 1) λx2=>bi .Sub c (.int 1) λx3=>A [x2,x3]) Q) H):ok (bB (aa (n+1)) "Buffer" "codes" [a,b,c]) Q H:=hP h
theorem tW (h:gf a "begv" (λx1=>cb .max [b,x1] λx2=>gf a "zv" λx3=>cb .min [x2,x3] λx4=>pf a "point" x4 λu_=>gf a "point" Q) H):ok (bB (aa (n+1)) "Buffer" "goto" [a,b]) Q H:=hP h
theorem se (h:gf a "ticks" (λx1=>bi .Add x1 (.int 1) λx2=>pf a "ticks" x2 λu_=>pG Q a b) H):ok (bB (aa (n+1)) "Buffer" "touch" [a,b]) Q H:=hP h
theorem kO (h:pf a "root" .none (λu_=>pf a "count" (.int 0) λu_=>Q .none) H):ok (aU aH (aa n) (mD "OverlayTree" "__init__") [a]) Q H:=dT h
theorem ph (h:nw (.list []) (mW (aa n) Q a b c) H):ok (ae (aa (n+1)) "nodes_between" [a,b,c]) Q H:=bA h
theorem mU {Q:KB}(h:cm .IsNot f .none (λb1 H=>cond b1 (Q true H) (cb .len [e] (λx2=>cm .Gt x2 (.int 0) λb3 H=>cond b3 (Q true H) (Q false H)) H)) H):fN tab (fD "nodes_between") [3] (ek a b c d e f) Q H:=of_eq h
theorem mY (h:K (.ret d) (ek a b c d e f) H):bU tab (fD "nodes_between") 7 [4] (ek a b c d e f) K H:=of_eq h
theorem zQ (h:cm .LtE c (.int 0) (λb1 H=>cond b1 (Q .none H) (xZ (aa n) Q a b c d H)) H):ok (ae (aa (n+1)) "open_gap" [a,b,c,d]) Q H:=bA h
theorem yb (h:cf tab "shift_nodes" [a,b,c,d] (λx1=>xY tab K a b c d e o_f) H):eA .next (bU tab (fD "open_gap") 7 [3] (iB a b c d o_f e) K H) R:=of_eq h
theorem sR (h:gf a "root" (λx1=>nw (.list [x1]) (qt (aa n) Q a b c d)) H):ok (ae (aa (n+1)) "shift_nodes" [a,b,c,d]) Q H:=bA h
theorem iX {Q:KB}(h:cb .len [e] (λx1=>cm .Gt x1 (.int 0) Q) H):fN tab (fD "shift_nodes") [1] (cR a b c d e o_f) Q H:=of_eq h
theorem qo (h:aA tab e "pop" (λA=>A []) (qp tab K a b c d e) H):gz tab (fD "shift_nodes") 7 [1] (cR a b c d e o_f) K H:=of_eq h
theorem kP (h:cf (aa n) "OverlayTree" [] (λx1=>pf a "tree" x1 λu_=>jR Q a b) H):ok (aU aH (aa n) (mD "OverlayHome" "__init__") [a,b]) Q H:=dT h
theorem ij (h:gf a "tree" (λx1=>cf (aa n) "open_gap" [x1,b,c,d] λx2=>Q .none) H):ok (bB (aa (n+1)) "OverlayHome" "text_came" [a,b,c,d]) Q H:=hP h
theorem oi (h:pf a "first" b (λu_=>mx Q a) H):ok (aU aH (aa n) (mD "PlainLisp" "__init__") [a,b]) Q H:=dT h
theorem kN {nm:Str}(h:gf a "first" (λx1=>ok (eC [(.str nm)]) λx2=>bi .Add x1 x2 Q) H):ok (bB (aa (n+1)) "PlainLisp" "number" [a,(.str nm)]) Q H:=hP h
theorem kM (h:nw (.tup [(.str "symbol"),b]) Q H):ok (bB (aa (n+1)) "PlainLisp" "symbol" [a,b]) Q H:=hP h
theorem iT (h:ok (isType "tuple" b) (λx1=>ab x1 λb2 H=>cond b2 (im b (.int 0) (λx3=>cm .Eq x3 (.str "symbol") λb4 H=>cond b4 (im b (.int 1) Q H) (ok (aR (.int 1)) (λi6=>Q (.int (-i6))) H)) H) (ok (aR (.int 1)) (λi7=>Q (.int (-i7))) H)) H):ok (bB (aa (n+1)) "PlainLisp" "number_of" [a,b]) Q H:=hP h
theorem jQ (h:nw (.tup [(.str "list")]) (λx1=>cb .tuple [b] λx2=>bi .Add x1 x2 Q) H):ok (bB (aa (n+1)) "PlainLisp" "list_of" [a,b]) Q H:=hP h
theorem mw (h:ok (isType "tuple" b) (λx1=>ab x1 λb2 H=>cond b2 (im b (.int 0) (λx3=>cm .Eq x3 (.str "list") λb4 H=>cond b4 (ok (aR (.int 1)) (λi5=>ok (bH b (some i5) none) λx6=>cb .list [x6] Q) H) (Q .none H)) H) (Q .none H)) H):ok (bB (aa (n+1)) "PlainLisp" "items" [a,b]) Q H:=hP h
theorem CQ (h:im a (.int 1) (λx1=>bi .Add x1 (.int 1) λx2=>ok (putItem a (.int 1) x2) λu_=>Ah Q a b) H):ok (ae (aa (n+1)) "_law_draw" [a,b]) Q H:=bA h
theorem Ag (h:nw (.list []) (yx (aa n) Q a b) H):ok (ae (aa (n+1)) "_law_plist" [a,b]) Q H:=bA h
theorem yt (h:cf tab "_law_draw" [a,(.int 4)] (λx1=>yw tab K a b c x x1 o_f) H):fC tab (fD "_law_plist") 7 [1] (a9 a b c o_d o_e o_f) x K H:=of_eq h
theorem yB (h:nw (.tup [(.int 101),(.int 102)]) (λx2=>ok (aF x2) λl3=>ok (d9 tab (fD "_law_plist") 7 [2] x2 l3 (a9 a b c o_d o_e o_f)) λr1 H=>eA r1.1 (bU tab (fD "_law_plist") 7 [3] r1.2 K H) λv=>K (.ret v) r1.2 H) H):eA .next (bU tab (fD "_law_plist") 7 [2] (a9 a b c o_d o_e o_f) K H) R:=of_eq h
theorem yr (h:cf tab "_law_draw" [a,(.int 5)] (λx1=>yu tab K a b c x x1 o_f) H):fC tab (fD "_law_plist") 7 [2] (a9 a b c o_d o_e o_f) x K H:=of_eq h
theorem yz (tab:Tab) (a b c d e:V) (o_f:Option V) (o_c1:Option V) (x:V) (Q:ao->List V->AH->Prop) (H:AH):fp tab (fD "_law_plist") 24 [2,0,2,0,0] 0 (([(".0",none),("own",o_c1)]:ao)++((a9 a b c d e o_f):ao)) x Q H=(cf tab "_law_draw" [a,(.int 2)] (λx1=>cm .Eq x1 (.int 1) λb2 H=>cond b2 (Q (([(".0",none),("own",some x)]:ao)++((a9 a b c d e o_f):ao)) [x] H) (Q (([(".0",none),("own",some x)]:ao)++((a9 a b c d e o_f):ao)) [] H)) H):=by kernel_rfl
theorem vX (a b c d e:V) (o_f:Option V):ib (fD "_law_plist") [2,0,2,0,0] 0 (a9 a b c d e o_f)=(([(".0",none),("own",none)]:ao)++((a9 a b c d e o_f):ao)):=by kernel_rfl
theorem yy (tab:Tab) (a b c d e f:V) (o_c1:Option V) (x:V) (Q:ao->List V->AH->Prop) (H:AH):fp tab (fD "_law_plist") 19 [2,0,2,0,1] 0 (([(".0",none),("own",o_c1)]:ao)++((a9 a b c d e f):ao)) x Q H=(nw (.tup [(.str "symbol"),x]) (λx1=>Q (([(".0",none),("own",some x)]:ao)++((a9 a b c d e f):ao)) [x1]) H):=by kernel_rfl
theorem vW (a b c d e f:V):ib (fD "_law_plist") [2,0,2,0,1] 0 (a9 a b c d e f)=(([(".0",none),("own",none)]:ao)++((a9 a b c d e f):ao)):=by kernel_rfl
theorem yA (h:K (.ret c) (a9 a b c o_d o_e o_f) H):eA .next (bU tab (fD "_law_plist") 7 [3] (a9 a b c o_d o_e o_f) K H) R:=of_eq h
theorem CP (h:nw (.list []) (Ad (aa n) Q a) H):ok (ae (aa (n+1)) "_law_seen" [a]) Q H:=bA h
theorem Ab (h:gf a "props" (λx1=>cf tab "properties_at" [x1,x] (Ac tab K a b x)) H):fC tab (fD "_law_seen") 7 [1] (dE a b o_c o_d) x K H:=of_eq h
theorem Ae (tab:Tab) (a b c d:V) (o_c1:Option V) (x:V) (Q:ao->List V->AH->Prop) (H:AH):fp tab (fD "_law_seen") 22 [1,0,1] 0 (([(".0",none),("number",o_c1)]:ao)++((dE a b c d):ao)) x Q H=(gf a "overlays" (λx1=>gf x1 "rules" λx2=>cf tab "value_in" [x2,d,x] λx3=>Q (([(".0",none),("number",some x)]:ao)++((dE a b c d):ao)) [x3]) H):=by kernel_rfl
theorem yq (a b c d:V):ib (fD "_law_seen") [1,0,1] 0 (dE a b c d)=(([(".0",none),("number",none)]:ao)++((dE a b c d):ao)):=by kernel_rfl
theorem Af (h:K (.ret b) (dE a b o_c o_d) H):eA .next (bU tab (fD "_law_seen") 7 [2] (dE a b o_c o_d) K H) R:=of_eq h
theorem vY (h:gf a "overlays" (λx1=>gf x1 "rules" λx2=>gf a "props" λx3=>cf (aa n) "sticky_side" [x2,x3,b,c] (th Q b c d)) H):ok (ae (aa (n+1)) "_law_at_side" [a,b,c,d]) Q H:=bA h
theorem Ks (h:ok (aR (.int 63)) (λi1=>ok (bH a none (some i1)) λx2=>ok (aF x2) λl3=>ok (dC (aa n) (fD "law") 21 [0] 0 (bY a none none none none none none none none none none none none) x2 l3) λout4=>nw (.list out4) λx5=>nw (.list [x5,(.int 0)]) λx6=>cf (aa n) "Buffer" [(.int 1),(.str "a")] λx7=>nw (.tup [x6,x7]) λx8 H=>tZ x8 (λu9 u10=>IK (aa n) Q a u9 u10 H) H) H):ok (ae (aa (n+1)) "law" [a]) Q H:=bA h
theorem I0 (tab:Tab) (a:V) (o_b o_c o_d o_f o_e o_g o_h o_i o_j o_l o_m o_p:Option V) (o_c1:Option V) (x:V) (Q:ao->List V->AH->Prop) (H:AH):fp tab (fD "law") 21 [0] 0 (([(".0",none),("cell",o_c1)]:ao)++((bY a o_b o_c o_d o_f o_e o_g o_h o_i o_j o_l o_m o_p):ao)) x Q H=(cb .abs [x] (λx1=>Q (([(".0",none),("cell",some x)]:ao)++((bY a o_b o_c o_d o_f o_e o_g o_h o_i o_j o_l o_m o_p):ao)) [x1]) H):=by kernel_rfl
theorem GK (a:V) (o_b o_c o_d o_f o_e o_g o_h o_i o_j o_l o_m o_p:Option V):ib (fD "law") [0] 0 (bY a o_b o_c o_d o_f o_e o_g o_h o_i o_j o_l o_m o_p)=(([(".0",none),("cell",none)]:ao)++((bY a o_b o_c o_d o_f o_e o_g o_h o_i o_j o_l o_m o_p):ao)):=by kernel_rfl
theorem IZ (tab:Tab) (a b c d:V) (o_f o_e o_g o_h o_i o_j o_l o_m o_p:Option V) (o_c1:Option V) (x:V) (Q:ao->List V->AH->Prop) (H:AH):fp tab (fD "law") 24 [2] 0 (([(".0",none),("beat",o_c1)]:ao)++((bY a b c d o_f o_e o_g o_h o_i o_j o_l o_m o_p):ao)) x Q H=(cf tab "_law_draw" [b,(.int 3)] (λx1=>bi .Add (.int 1) x1 λx2=>bi .Mult (.int 10) x λx3=>cf tab "_law_plist" [b,x3] λx4=>nw (.tup [x2,x4]) λx5=>Q (([(".0",none),("beat",some x)]:ao)++((bY a b c d o_f o_e o_g o_h o_i o_j o_l o_m o_p):ao)) [x5]) H):=by kernel_rfl
theorem GJ (a b c d:V) (o_f o_e o_g o_h o_i o_j o_l o_m o_p:Option V):ib (fD "law") [2] 0 (bY a b c d o_f o_e o_g o_h o_i o_j o_l o_m o_p)=(([(".0",none),("beat",none)]:ao)++((bY a b c d o_f o_e o_g o_h o_i o_j o_l o_m o_p):ao)):=by kernel_rfl
theorem IY (tab:Tab) (a b c d e:V) (o_f o_g o_h o_i o_j o_l o_m o_p:Option V) (o_c1:Option V) (o_c2:Option V) (x:V) (Q:ao->List V->AH->Prop) (H:AH):fp tab (fD "law") 19 [3] 0 (([(".0",none),("many",o_c1),("plist",o_c2)]:ao)++((bY a b c d o_f e o_g o_h o_i o_j o_l o_m o_p):ao)) x Q H=(tZ x (λu0 u1=>Q (([(".0",none),("many",some u0),("plist",some u1)]:ao)++((bY a b c d o_f e o_g o_h o_i o_j o_l o_m o_p):ao)) [u0] H) H):=by kernel_rfl
theorem GI (a b c d e:V) (o_f o_g o_h o_i o_j o_l o_m o_p:Option V):ib (fD "law") [3] 0 (bY a b c d o_f e o_g o_h o_i o_j o_l o_m o_p)=(([(".0",none),("many",none),("plist",none)]:ao)++((bY a b c d o_f e o_g o_h o_i o_j o_l o_m o_p):ao)):=by kernel_rfl
theorem IF (h:cf tab "_law_draw" [b,(.int 4)] (λx1=>cm .Eq x1 (.int 3) λb2 H=>cond b2 (gf d "defaults" (λx3=>ok (putItem x3 x (.int 1)) λu_=>K .next (bY a b c d o_f e x o_h o_i o_j o_l o_m o_p)) H) (K .next (bY a b c d o_f e x o_h o_i o_j o_l o_m o_p) H)) H):fC tab (fD "law") 7 [5] (bY a b c d o_f e o_g o_h o_i o_j o_l o_m o_p) x K H:=of_eq h
theorem I1 (h:cf tab "_law_draw" [b,(.int 4)] (λx2=>bi .Add (.int 1) x2 λx3=>cb .range [x3] λx4=>ok (aF x4) λl5=>ok (d9 tab (fD "law") 7 [6] x4 l5 (bY a b c d o_f e o_g o_h o_i o_j o_l o_m o_p)) λr1 H=>eA r1.1 (bU tab (fD "law") 7 [7] r1.2 K H) λv=>K (.ret v) r1.2 H) H):eA .next (bU tab (fD "law") 7 [6] (bY a b c d o_f e o_g o_h o_i o_j o_l o_m o_p) K H) R:=of_eq h
theorem IC (h:aA tab c "goto" (λA=>aA tab c "size" (λA=>A []) λx1=>bi .Add x1 (.int 1) λx2=>cf tab "_law_draw" [b,x2] λx3=>bi .Add (.int 1) x3 λx4=>A [x4]) (λx5=>bi .Sub x5 (.int 1) λx6=>GG tab K a b c d x e x6 o_g o_m o_p) H):fC tab (fD "law") 7 [6] (bY a b c d o_f e o_g o_h o_i o_j o_l o_m o_p) x K H:=of_eq h
theorem IX (tab:Tab) (a b c d f e h i j l:V) (o_g o_m o_p:Option V) (o_c1:Option V) (x:V) (Q:ao->List V->AH->Prop) (H:AH):fp tab (fD "law") 24 [6,0,3] 0 (([(".0",none),("number",o_c1)]:ao)++((bY a b c d f e o_g h i j l o_m o_p):ao)) x Q H=(cf tab "_law_at_side" [c,h,x,j] (λx1=>Q (([(".0",none),("number",some x)]:ao)++((bY a b c d f e o_g h i j l o_m o_p):ao)) [x1]) H):=by kernel_rfl
theorem GH (a b c d f e h i j l:V) (o_g o_m o_p:Option V):ib (fD "law") [6,0,3] 0 (bY a b c d f e o_g h i j l o_m o_p)=(([(".0",none),("number",none)]:ao)++((bY a b c d f e o_g h i j l o_m o_p):ao)):=by kernel_rfl
theorem IV (h:cf tab "Buffer" [(.int 2),(.str "b")] (λx1=>GD tab K a b c d e x1 o_f o_g o_h o_i o_j o_l o_m) H):bU tab (fD "law") 7 [7] (bY a b c d o_f e o_g o_h o_i o_j o_l o_m o_p) K H:=of_eq h
theorem AV {a:List V}(h:ok (mkObj "Interval" (aU aH (aa n) (mD "Interval" "__init__")) a) Q H):ok (ae (aa (n+1)) "Interval" a) Q H:=(show ae (aa (n+1)) "Interval" a=mkObj "Interval" (aU aH (aa n) (mD "Interval" "__init__")) a from by kernel_rfl)▸h
theorem rX {a:List V}(h:ok (mkObj "IntervalTree" (aU aH (aa n) (mD "IntervalTree" "__init__")) a) Q H):ok (ae (aa (n+1)) "IntervalTree" a) Q H:=(show ae (aa (n+1)) "IntervalTree" a=mkObj "IntervalTree" (aU aH (aa n) (mD "IntervalTree" "__init__")) a from by kernel_rfl)▸h
theorem ze {a:List V}(h:ok (mkObj "PropRules" (aU aH (aa n) (mD "PropRules" "__init__")) a) Q H):ok (ae (aa (n+1)) "PropRules" a) Q H:=(show ae (aa (n+1)) "PropRules" a=mkObj "PropRules" (aU aH (aa n) (mD "PropRules" "__init__")) a from by kernel_rfl)▸h
theorem zb {a:List V}(h:ok (mkObj "TextProps" (aU aH (aa n) (mD "TextProps" "__init__")) a) Q H):ok (ae (aa (n+1)) "TextProps" a) Q H:=(show ae (aa (n+1)) "TextProps" a=mkObj "TextProps" (aU aH (aa n) (mD "TextProps" "__init__")) a from by kernel_rfl)▸h
theorem Hu {a:List V}(h:ok (mkObj "Sides" (aU aH (aa n) (mD "Sides" "__init__")) a) Q H):ok (ae (aa (n+1)) "Sides" a) Q H:=(show ae (aa (n+1)) "Sides" a=mkObj "Sides" (aU aH (aa n) (mD "Sides" "__init__")) a from by kernel_rfl)▸h
theorem Dv {a:List V}(h:ok (mkObj "GapText" (aU aH (aa n) (mD "GapText" "__init__")) a) Q H):ok (ae (aa (n+1)) "GapText" a) Q H:=(show ae (aa (n+1)) "GapText" a=mkObj "GapText" (aU aH (aa n) (mD "GapText" "__init__")) a from by kernel_rfl)▸h
theorem Du {a:List V}(h:ok (mkObj "Markers" (aU aH (aa n) (mD "Markers" "__init__")) a) Q H):ok (ae (aa (n+1)) "Markers" a) Q H:=(show ae (aa (n+1)) "Markers" a=mkObj "Markers" (aU aH (aa n) (mD "Markers" "__init__")) a from by kernel_rfl)▸h
theorem FW {a:List V}(h:ok (mkObj "Buffer" (aU aH (aa n) (mD "Buffer" "__init__")) a) Q H):ok (ae (aa (n+1)) "Buffer" a) Q H:=(show ae (aa (n+1)) "Buffer" a=mkObj "Buffer" (aU aH (aa n) (mD "Buffer" "__init__")) a from by kernel_rfl)▸h
theorem tR {a:List V}(h:ok (mkObj "OverlayTree" (aU aH (aa n) (mD "OverlayTree" "__init__")) a) Q H):ok (ae (aa (n+1)) "OverlayTree" a) Q H:=(show ae (aa (n+1)) "OverlayTree" a=mkObj "OverlayTree" (aU aH (aa n) (mD "OverlayTree" "__init__")) a from by kernel_rfl)▸h
theorem tS {a:List V}(h:ok (mkObj "OverlayHome" (aU aH (aa n) (mD "OverlayHome" "__init__")) a) Q H):ok (ae (aa (n+1)) "OverlayHome" a) Q H:=(show ae (aa (n+1)) "OverlayHome" a=mkObj "OverlayHome" (aU aH (aa n) (mD "OverlayHome" "__init__")) a from by kernel_rfl)▸h
theorem zg {a:List V}(h:ok (mkObj "PlainLisp" (aU aH (aa n) (mD "PlainLisp" "__init__")) a) Q H):ok (ae (aa (n+1)) "PlainLisp" a) Q H:=(show ae (aa (n+1)) "PlainLisp" a=mkObj "PlainLisp" (aU aH (aa n) (mD "PlainLisp" "__init__")) a from by kernel_rfl)▸h
end Mi.P
namespace Mi.P
open PySem Mi
theorem i0 {n:Nat}{a:List V}{Q:KV}{H:AH}(h:ok (ae (aa (n+1)) "put_rows" a) Q H):ok (ae (aa (n+1)) "put_rows_textprops" a) Q H:=(show ae (aa (n+1)) "put_rows_textprops" a=ae (aa (n+1)) "put_rows" a from by kernel_rfl)▸h
end Mi.P
namespace Mi
open PySem
noncomputable def iv (t:Int) (p l r q:V):O:=.inst "Interval" [("total",.int t),("plist",p),("left",l),("right",r),("parent",q)]
noncomputable def zp (v:V):O:=.inst "IntervalTree" [("root",v)]
section
variable {H:AH}{Q:KV}{QU:Unit->AH->Prop}{n:Nat}{t t':Int}{p l r q v:V}
theorem Ez (h:H.at_ n=some (iv t p l r q)):ok (aV (.ref n) "total") Q H=Q (.int t) H:=aW h (by kernel_rfl) (by kernel_rfl)
theorem bz (h:H.at_ n=some (iv t p l r q)) (k_:Q (.int t) H):ok (aV (.ref n) "total") Q H:=(Ez h).mpr k_
theorem EA (h:H.at_ n=some (iv t p l r q)):ok (aV (.ref n) "plist") Q H=Q p H:=aW h (by kernel_rfl) (by kernel_rfl)
theorem bC (h:H.at_ n=some (iv t p l r q)) (k_:Q l H):ok (aV (.ref n) "left") Q H:=Eq.mpr (aW h (by kernel_rfl) (by kernel_rfl)) k_
theorem bj (h:H.at_ n=some (iv t p l r q)) (k_:Q r H):ok (aV (.ref n) "right") Q H:=Eq.mpr (aW h (by kernel_rfl) (by kernel_rfl)) k_
theorem CW (h:H.at_ n=some (iv t p l r q)):ok (aV (.ref n) "parent") Q H=Q q H:=aW h (by kernel_rfl) (by kernel_rfl)
theorem aN (h:H.at_ n=some (iv t p l r q)) (k_:Q q H):ok (aV (.ref n) "parent") Q H:=(CW h).mpr k_
theorem yG (h:H.at_ n=some (iv t p l r q)):ok (bZ (.ref n) "total" (.int t')) QU H=QU () (H.put n (iv t' p l r q)):=(dh h (by kernel_rfl) (by kernel_rfl)).trans (by kernel_rfl)
theorem cP (h:H.at_ n=some (iv t p l r q)) (k_:QU () (H.put n (iv t' p l r q))):ok (bZ (.ref n) "total" (.int t')) QU H:=(yG h).mpr k_
theorem wc (h:H.at_ n=some (iv t p l r q)) (k_:QU () (H.put n (iv t v l r q))):ok (bZ (.ref n) "plist" v) QU H:=Eq.mpr ((dh h (by kernel_rfl) (by kernel_rfl)).trans (by kernel_rfl)) k_
theorem Aq (h:H.at_ n=some (iv t p l r q)):ok (bZ (.ref n) "left" v) QU H=QU () (H.put n (iv t p v r q)):=(dh h (by kernel_rfl) (by kernel_rfl)).trans (by kernel_rfl)
theorem oK (h:H.at_ n=some (iv t p l r q)) (k_:QU () (H.put n (iv t p v r q))):ok (bZ (.ref n) "left" v) QU H:=(Aq h).mpr k_
theorem yH (h:H.at_ n=some (iv t p l r q)):ok (bZ (.ref n) "right" v) QU H=QU () (H.put n (iv t p l v q)):=(dh h (by kernel_rfl) (by kernel_rfl)).trans (by kernel_rfl)
theorem lL (h:H.at_ n=some (iv t p l r q)) (k_:QU () (H.put n (iv t p l v q))):ok (bZ (.ref n) "right" v) QU H:=(yH h).mpr k_
theorem hE (h:H.at_ n=some (iv t p l r q)) (k_:QU () (H.put n (iv t p l r v))):ok (bZ (.ref n) "parent" v) QU H:=Eq.mpr ((dh h (by kernel_rfl) (by kernel_rfl)).trans (by kernel_rfl)) k_
theorem kU (h:H.at_ n=some (zp q)) (k_:Q q H):ok (aV (.ref n) "root") Q H:=Eq.mpr (aW h (by kernel_rfl) (by kernel_rfl)) k_
theorem oz (h:H.at_ n=some (zp q)) (k_:QU () (H.put n (zp v))):ok (bZ (.ref n) "root" v) QU H:=Eq.mpr ((dh h (by kernel_rfl) (by kernel_rfl)).trans (by kernel_rfl)) k_
theorem Bl {m:Nat}{QB:KB}(h:H.at_ n=some (iv t p l r q)):ok (bQ .Is (.ref n) (.ref m)) QB H=QB (decide (n=m)) H:=Gm h
theorem ro {m:Nat}{QB:KB}(h:H.at_ n=some (iv t p l r q)) (k_:QB (decide (n=m)) H):ok (bQ .Is (.ref n) (.ref m)) QB H:=(Bl h).mpr k_
theorem eS (h:H.at_ n=some (iv t p l r q)) (h':H.at_ n=some (zp v)):False:=by
 rw[h] at h';have:=O.inst.inj (Option.some.inj h');have h2:=congrArg List.length this.2;simp at h2
end
def Wf (H:AH):Prop:=∀m,H.nx<=m->H.at_ m=none
section
variable {H H' H'':AH}{n m:Nat}{o o':O}{S S':Nat->Prop}
theorem Wf.lt (w:Wf H) (h:H.at_ m=some o):m<H.nx:=by
 rcases Nat.lt_or_ge m H.nx with q|q
 .exact q
 .rw[w m q] at h;exact ns h
theorem Wf.put (w:Wf H) (h:H.at_ n=some o'):Wf (H.put n o):=λm hm=>by
 have:=w.lt h;refine wr aK (wr (if_neg (by rintro rfl;exact absurd this (Nat.not_lt.mpr hm))) ?_);exact w m hm
theorem Wf.add (w:Wf H):Wf (H.add o):=λm hm=>by
 have hm:H.nx+1<=m:=hm;refine wr bq (wr (if_neg (by exact Nat.ne_of_gt (by assumption))) ?_);exact w m (by exact Nat.le_of_lt (by assumption))
structure Fm (S:Nat->Prop) (H H':AH):Prop where
 wf:Wf H'
 nx:H.nx<=H'.nx
 keep:∀m,m<H.nx->¬S m->H'.at_ m=H.at_ m
theorem Fm.refl (w:Wf H):Fm S H H:=⟨w,Nat.le_refl _,λu_ u_ u_=>rfl⟩
theorem Fm.put (w:Wf H) (h:H.at_ n=some o') (hn:S n):Fm S H (H.put n o):=⟨w.put h,Nat.le_refl _,λm u_ hm=>by rw[aK,if_neg];rintro rfl;exact hm hn⟩
theorem Fm.add (w:Wf H):Fm S H (H.add o):=⟨w.add,Nat.le_succ _,λm hl u_=>by exact wr bq (wr (if_neg (Nat.ne_of_lt hl)) rfl)⟩
theorem Fm.trans (x:Fm S H H') (y:Fm S H' H''):Fm S H H'':=⟨y.wf,Nat.le_trans x.nx y.nx,λm hl hm=>(y.keep m (Nat.lt_of_lt_of_le hl x.nx) hm).trans (x.keep m hl hm)⟩
theorem Fm.more (x:Fm S H H') (h:∀m,m<H.nx->S m->S' m):Fm S' H H':=⟨x.wf,x.nx,λm hl hm=>x.keep m hl λq=>hm (h m hl q)⟩
theorem Fm.at_ (x:Fm S H H') (w:Wf H) (h:H.at_ m=some o) (hm:¬S m):H'.at_ m=some o:=(x.keep m (w.lt h) hm).trans h
end
inductive T where
 |nil
 |node (n:Nat) (t:Int) (p:V) (l r:T)
namespace T
noncomputable def root:T->V
 |nil=>.none
 |node n _ _ _ _=>.ref n
noncomputable def au:T->Int
 |nil=>0
 |node _ t _ _ _=>t
noncomputable def cnt (x:Nat):T->Nat
 |nil=>0
 |node n _ _ l r=>(if x=n then 1 else 0)+l.cnt x+r.cnt x
noncomputable def isRoot (m:Nat):T->Prop
 |nil=>False
 |node n _ _ _ _=>m=n
noncomputable def At (H:AH):T->V->Prop
 |nil,_=>True
 |node n t p l r,q=>H.at_ n=some (iv t p l.root r.root q)/\l.At H (.ref n)/\r.At H (.ref n)
noncomputable def seq:T->List (Nat×Int×V)
 |nil=>[]
 |node n t p l r=>l.seq++(n,t-l.au-r.au,p)::r.seq
theorem eD {m:Nat}{t:T}(h:t.isRoot m):1<=t.cnt m:=by
 rcases t with _|⟨n,_,_,l,r⟩
 .exact h.elim
 .have h:m=n:=h;unfold cnt;refine wr (if_pos h) ?_;exact Nat.le_add_right_of_le (Nat.le_add_right _ _)
theorem af {x n:Nat}{t:Int}{p:V}{l r:T}:(node n t p l r).cnt x=(if x=n then 1 else 0)+l.cnt x+r.cnt x:=rfl
theorem cnt_nil {x:Nat}:nil.cnt x=0:=rfl
end T
section
variable {H H':AH}{S:Nat->Prop}
theorem T.At.fm {q:V}(w:Wf H) (f:Fm S H H'):∀{t:T} {q:V},(∀m,1<=t.cnt m->¬S m)->t.At H q->t.At H' q
 |.nil,_,_,_=>trivial
 |.node n t p l r,q,hs,h=>by
  refine⟨f.at_ w h.1 (hs n ?_),T.At.fm (q:=q) w f (λm hm=>hs m ?_) h.2.1,T.At.fm (q:=q) w f (λm hm=>hs m ?_) h.2.2⟩
  .refine wr T.af (wr (if_pos rfl) ?_);exact Nat.le_add_right_of_le (Nat.le_add_right _ _)
  .refine wr T.af ?_;exact Nat.le_add_right_of_le (Nat.le_add_left_of_le (by assumption))
  .refine wr T.af ?_;exact Nat.le_add_left_of_le (by assumption)
theorem T.At.live {m:Nat}:∀{t:T} {q:V},t.At H q->1<=t.cnt m->∃t p l r q,H.at_ m=some (iv t p l r q)
 |.nil,_,_,h=>absurd h (Nat.not_succ_le_zero 0)
 |.node n t p l r,q,h,hm=>by
  by_cases e:m=n
  .subst e;exact⟨_,_,_,_,_,h.1⟩
  .rw[T.af,if_neg e] at hm
   by_cases hl:1<=l.cnt m
   .exact h.2.1.live hl
   .exact h.2.2.live (by lia)
theorem T.At.off {m:Nat}{v:V}{t:T}{q:V}(h:t.At H q) (hm:H.at_ m=some (zp v)):t.cnt m=0:=by
 rcases Nat.eq_zero_or_pos (t.cnt m) with e|e
 .exact e
 .refine fM (h.live e) λu_ u_ u_ u_ u_ e=>?_;exact(eS e hm).elim
end
inductive Fr where
 |L (n:Nat) (t:Int) (p:V) (r:T)
 |R (n:Nat) (t:Int) (p:V) (l:T)
namespace Fr
noncomputable def n:Fr->Nat
 |L n _ _ _=>n
 |R n _ _ _=>n
noncomputable def fill:Fr->T->T
 |L n t p r,x=>.node n t p x r
 |R n t p l,x=>.node n t p l x
noncomputable def cnt (x:Nat):Fr->Nat
 |L n _ _ r=>(if x=n then 1 else 0)+r.cnt x
 |R n _ _ l=>(if x=n then 1 else 0)+l.cnt x
noncomputable def At (H:AH) (hole q:V):Fr->Prop
 |L n t p r=>H.at_ n=some (iv t p hole r.root q)/\r.At H (.ref n)
 |R n t p l=>H.at_ n=some (iv t p l.root hole q)/\l.At H (.ref n)
theorem cZ {x n:Nat}{t:Int}{p:V}{r:T}:(L n t p r).cnt x=(if x=n then 1 else 0)+r.cnt x:=rfl
theorem d0 {x n:Nat}{t:Int}{p:V}{r:T}:(R n t p r).cnt x=(if x=n then 1 else 0)+r.cnt x:=rfl
end Fr
noncomputable abbrev Cx:=List Fr
namespace Cx
noncomputable def bR:Cx->T->T
 |[],x=>x
 |f::c,x=>bR c (f.fill x)
noncomputable def par:Cx->V
 |[]=>.none
 |f::_=>.ref f.n
noncomputable def cnt (x:Nat):Cx->Nat
 |[]=>0
 |f::c=>f.cnt x+cnt x c
noncomputable def At (H:AH):Cx->V->Prop
 |[],_=>True
 |f::c,h=>f.At H h (par c)/\At H c (.ref f.n)
noncomputable def top:Cx->V->V
 |[],h=>h
 |f::c,_=>top c (.ref f.n)
noncomputable def ED (m:Nat):Cx->Prop
 |[]=>False
 |f::_=>m=f.n
theorem cnt_cons {x:Nat}{f:Fr}{c:Cx}:cnt x (f::c)=f.cnt x+cnt x c:=rfl
theorem cnt_nil {x:Nat}:cnt x []=0:=rfl
end Cx
section
variable {H H':AH}{S:Nat->Prop}
theorem Fr.At.fm (w:Wf H) (g:Fm S H H') {f:Fr}{h q:V}(hs:∀m,1<=f.cnt m->¬S m) (x:f.At H h q):f.At H' h q:=by
 induction f with
 |L n t p r=>
  refine⟨g.at_ w x.1 (hs n ?_),x.2.fm (q:=q) w g λm hm=>hs m ?_⟩
  .refine wr Fr.cZ (wr (if_pos rfl) ?_);lia
  .refine wr Fr.cZ ?_;exact Nat.le_add_left_of_le (by assumption)
 |R n t p l=>
  refine⟨g.at_ w x.1 (hs n ?_),x.2.fm (q:=q) w g λm hm=>hs m ?_⟩
  .refine wr Fr.d0 (wr (if_pos rfl) ?_);lia
  .refine wr Fr.d0 ?_;exact Nat.le_add_left_of_le (by assumption)
theorem Cx.At.fm (w:Wf H) (g:Fm S H H'):∀{c:Cx} {h:V},(∀m,1<=Cx.cnt m c->¬S m)->Cx.At H c h->Cx.At H' c h
 |[],_,_,_=>trivial
 |f::c,h,hs,x=>⟨x.1.fm w g λm hm=>hs m (by refine wr Cx.cnt_cons ?_;exact Nat.le_add_right_of_le (by assumption)),Cx.At.fm w g (λm hm=>hs m (by refine wr Cx.cnt_cons ?_;exact Nat.le_add_left_of_le (by assumption))) x.2⟩
theorem Fr.At.live {m:Nat}{f:Fr}{h q:V}(x:f.At H h q) (hm:1<=f.cnt m):∃t p l r q,H.at_ m=some (iv t p l r q):=by
 induction f with
 |L n t p r=>
  by_cases e:m=n
  .subst e;exact⟨_,_,_,_,_,x.1⟩
  .rw[Fr.cZ,if_neg e] at hm;exact x.2.live (by lia)
 |R n t p r=>
  by_cases e:m=n
  .subst e;exact⟨_,_,_,_,_,x.1⟩
  .rw[Fr.d0,if_neg e] at hm;exact x.2.live (by lia)
theorem Cx.At.live {m:Nat}:∀{c:Cx} {h:V},Cx.At H c h->1<=Cx.cnt m c->∃t p l r q,H.at_ m=some (iv t p l r q)
 |[],_,_,hm=>absurd hm (Nat.not_succ_le_zero 0)
 |f::c,h,x,hm=>by
  by_cases e:1<=f.cnt m
  .exact x.1.live e
  .rw[Cx.cnt_cons] at hm;exact Cx.At.live x.2 (by lia)
theorem Cx.At.off {m:Nat}{v:V}{c:Cx}{q:V}(h:Cx.At H c q) (hm:H.at_ m=some (zp v)):Cx.cnt m c=0:=by
 rcases Nat.eq_zero_or_pos (Cx.cnt m c) with e|e
 .exact e
 .refine fM (h.live e) λu_ u_ u_ u_ u_ e=>?_;exact(eS e hm).elim
theorem Fr.yl (f:Fr):1<=f.cnt f.n:=by
 induction f
 .rename_i n t p r;refine wr Fr.cZ ?_;show 1<=(if n=n then 1 else 0)+_;refine wr (if_pos rfl) ?_;lia
 .rename_i n t p r;refine wr Fr.d0 ?_;show 1<=(if n=n then 1 else 0)+_;refine wr (if_pos rfl) ?_;lia
variable {k:Nat}{Q:KV}
theorem bD {t:T}{q:V}(h:t.At H q) (K:Q (.int t.au) H):ok (ae (aa (k+1)) "total_of" [t.root]) Q H:=by
 refine P.zr ?_
 rcases t with _|⟨n,t,p,l,r⟩
 .refine wr (show T.root .nil=V.none from rfl) ?_;refine fF ?_;exact K
 .refine wr (show T.root (.node n t p l r)=V.ref n from rfl) ?_;refine hS ?_;refine bz h.1 ?_;exact K
theorem gY {n:Nat}{t:Int}{p:V}{l r:T}{q:V}(h:(T.node n t p l r).At H q) (K:Q (.int (t-l.au-r.au)) H):ok (ae (aa (k+2)) "own_length" [.ref n]) Q H:=by
 refine P.vH<|bz h.1 (bC h.1 ?_)
 refine bD h.2.1<|aT (bj h.1 ?_)
 refine bD h.2.2 ?_;refine aT ?_;exact K
theorem gL {n:Nat}{t:Int}{p l r q q0:V}{o:T}(w:Wf H) (h:H.at_ n=some (iv t p l r q)) (ho:o.At H q0) (hn:o.cnt n=0) (d:∀x,o.cnt x<=1)
  (K:∀H',H'.at_ n=some (iv t p o.root r q)->o.At H' (.ref n)->Fm (λm=>m=n\/o.isRoot m) H H'->Q .none H'):ok (ae (aa (k+1)) "set_left" [.ref n,o.root]) Q H:=by
 refine P.zD<|oK h ?_
 have w1:=w.put (o:=iv t p o.root r q) h;have g1:(H.put n (iv t p o.root r q)).at_ n=some (iv t p o.root r q):=wr aK (wr (if_pos rfl) rfl);have f1:Fm (λm=>m=n\/o.isRoot m) H (H.put n (iv t p o.root r q)):=.put w h (.inl rfl)
 rcases o with _|⟨m,t',p',l',r'⟩
 .refine wr (show T.root .nil=V.none from rfl) ?_;refine bF ?_;exact K _ g1 trivial f1
 .have hmn:m≠n:=by rintro rfl;rw[T.af,if_pos rfl] at hn;lia
  rw[show T.root (.node m t' p' l' r')=V.ref m from rfl] at*;refine bK ?_;have g2:(H.put n (iv t p (.ref m) r q)).at_ m=some (iv t' p' l'.root r'.root q0):=by refine wr aK (wr (if_neg hmn) ?_);exact ho.1
  refine hE g2 ?_;have fm2:∀{x:T},x.cnt n=0->x.cnt m=0->x.At H (.ref m)->x.At ((H.put n (iv t p (.ref m) r q)).put m (iv t' p' l'.root r'.root (.ref n))) (.ref m):=λ{x} h1 h2 hx=>
   (hx.fm (q:=q) w (Fm.put (S:=λy=>y=n) w h rfl) λy hy e=>by rw[e] at hy;lia).fm (q:=q) w1 (Fm.put (S:=λy=>y=m) w1 g2 rfl) λy hy e=>by rw[e] at hy;lia
  have d1:=d m;rw[T.af] at hn d1;rw[if_pos rfl] at d1;refine K _ ?_ ⟨?_,fm2 (by lia) (by lia) ho.2.1,fm2 (by lia) (by lia) ho.2.2⟩ (f1.trans (.put w1 g2 (.inr rfl)))
  .refine wr aK (wr (if_neg hmn.symm) ?_);exact g1
  .exact wr aK (wr (if_pos rfl) rfl)
theorem iw {n:Nat}{t:Int}{p l r q q0:V}{o:T}(w:Wf H) (h:H.at_ n=some (iv t p l r q)) (ho:o.At H q0) (hn:o.cnt n=0) (d:∀x,o.cnt x<=1)
  (K:∀H',H'.at_ n=some (iv t p l o.root q)->o.At H' (.ref n)->Fm (λm=>m=n\/o.isRoot m) H H'->Q .none H'):ok (ae (aa (k+1)) "set_right" [.ref n,o.root]) Q H:=by
 refine P.xI<|lL h ?_
 have w1:=w.put (o:=iv t p l o.root q) h;have g1:(H.put n (iv t p l o.root q)).at_ n=some (iv t p l o.root q):=wr aK (wr (if_pos rfl) rfl);have f1:Fm (λm=>m=n\/o.isRoot m) H (H.put n (iv t p l o.root q)):=.put w h (.inl rfl)
 rcases o with _|⟨m,t',p',l',r'⟩
 .refine wr (show T.root .nil=V.none from rfl) ?_;refine bF ?_;exact K _ g1 trivial f1
 .have hmn:m≠n:=by rintro rfl;rw[T.af,if_pos rfl] at hn;lia
  rw[show T.root (.node m t' p' l' r')=V.ref m from rfl] at*;refine bK ?_;have g2:(H.put n (iv t p l (.ref m) q)).at_ m=some (iv t' p' l'.root r'.root q0):=by refine wr aK (wr (if_neg hmn) ?_);exact ho.1
  refine hE g2 ?_;have fm2:∀{x:T},x.cnt n=0->x.cnt m=0->x.At H (.ref m)->x.At ((H.put n (iv t p l (.ref m) q)).put m (iv t' p' l'.root r'.root (.ref n))) (.ref m):=λ{x} h1 h2 hx=>
   (hx.fm (q:=q) w (Fm.put (S:=λy=>y=n) w h rfl) λy hy e=>by rw[e] at hy;lia).fm (q:=q) w1 (Fm.put (S:=λy=>y=m) w1 g2 rfl) λy hy e=>by rw[e] at hy;lia
  have d1:=d m;rw[T.af] at hn d1;rw[if_pos rfl] at d1;refine K _ ?_ ⟨?_,fm2 (by lia) (by lia) ho.2.1,fm2 (by lia) (by lia) ho.2.2⟩ (f1.trans (.put w1 g2 (.inr rfl)))
  .refine wr aK (wr (if_neg hmn.symm) ?_);exact g1
  .exact wr aK (wr (if_pos rfl) rfl)
end
end Mi
namespace Mi
open PySem
section
variable {H H':AH}{S:Nat->Prop}{k:Nat}{Q:KV}
theorem T.gw {n:Nat}{o:T}(h:o.cnt n=0):¬o.isRoot n:=λq=>by have:=T.eD q;lia
theorem Cx.jg {m:Nat}{c:Cx}(h:Cx.ED m c):1<=Cx.cnt m c:=by
 rcases c with _|⟨f,c⟩
 .exact h.elim
 .have h:m=f.n:=h;subst h;refine wr Cx.cnt_cons ?_;have:=f.yl;exact Nat.le_add_right_of_le (by assumption)
theorem qk {n tr:Nat}{o:T}{c:Cx}(w:Wf H) (ht:H.at_ tr=some (zp (Cx.top c (.ref n)))) (hc:Cx.At H c (.ref n)) (ho:o.At H (Cx.par c)) (d:∀x,o.cnt x+Cx.cnt x c<=1) (dn:Cx.cnt n c=0)
  (live:∃t p l r q,H.at_ n=some (iv t p l r q))
  (K:∀H',H'.at_ tr=some (zp (Cx.top c o.root))->Cx.At H' c o.root->o.At H' (Cx.par c)->Fm (λm=>m=tr\/Cx.ED m c) H H'->Q .none H'):
  ok (bQ .Is (Cx.par c) V.none) (λb3 H=>cond b3 (ok (bZ (.ref tr) "root" o.root) (λu_ H=>Q V.none H) H) (ok (aV (Cx.par c) "left") (λx4 H=>ok (bQ .Is x4 (.ref n)) (λb5 H=>cond b5 (ok (bZ (Cx.par c) "left" o.root) (λu_ H=>Q V.none H) H) (ok (bZ (Cx.par c) "right" o.root) (λu_ H=>Q V.none H) H)) H) H)) H:=by
 have otr:o.cnt tr=0:=ho.off ht
 rcases c with _|⟨f,c⟩
 .refine wr (show Cx.par []=V.none from rfl) ?_;refine fF ?_;refine oz ht ?_;refine K _ (by refine wr aK (wr (if_pos rfl) ?_);rfl) trivial (ho.fm (q:=.none) w (Fm.put (S:=λy=>y=tr) w ht rfl) λy hy e=>?_) (.put w ht (.inl rfl));subst e;lia
 .obtain⟨hf,hc⟩:=hc;have ctr:Cx.cnt tr (f::c)=0:=Cx.At.off (c:=f::c) (q:=.ref n) ⟨hf,hc⟩ ht;rw[show Cx.par (f::c)=V.ref f.n from rfl,vM] at*;have dd:=λx=>d x
  induction f with
  |L m t p r=>
   obtain⟨h1,h2⟩:=hf;refine bC h1 ?_;obtain⟨_,_,_,_,_,hn⟩:=live;refine ro hn ?_;refine aM (decide_eq_true rfl) ?_;show ok (bZ (.ref m) "left" o.root) _ H;refine oK h1 ?_;have fm:Fm (λy=>y=m) H (H.put m (iv t p o.root r.root (Cx.par c))):=.put w h1 rfl;have dm:=d m;rw[Cx.cnt_cons,Fr.cZ,if_pos rfl] at dm;have ntr:tr≠m:=by rintro rfl;exact eS h1 ht
   refine K _ ?_ ⟨⟨by exact wr aK (wr (if_pos rfl) rfl),h2.fm (q:=.ref m) w fm λy hy e=>?_⟩,hc.fm w fm λy hy e=>?_⟩ (ho.fm (q:=.ref m) w fm λy hy e=>?_) (fm.more λy u_ e=>.inr e)
   .refine wr aK (wr (if_neg ntr) ?_);exact ht
   .subst e;lia
   .subst e;lia
   .subst e;lia
  |R m t p r=>
   obtain⟨h1,h2⟩:=hf;refine bC h1 ?_;rw[Cx.cnt_cons,Fr.d0] at dn;have hne:∀{QB:KB},ok (bQ .Is r.root (.ref n)) QB H=QB false H:=by
    intro QB
    rcases r with _|⟨j,tj,pj,lj,rj⟩
    .exact vN
    .refine wr (show(T.node j tj pj lj rj).root=V.ref j from rfl) (wr (Bl h2.1) ?_);rw[T.af] at dn;have:¬j=n:=by rintro rfl;rw[if_pos rfl] at dn;lia
     exact wr (decide_eq_false this) rfl
   refine wr hne ?_;show ok (bZ (.ref m) "right" o.root) _ H;refine lL h1 ?_;have fm:Fm (λy=>y=m) H (H.put m (iv t p r.root o.root (Cx.par c))):=.put w h1 rfl;have dm:=d m;rw[Cx.cnt_cons,Fr.d0,if_pos rfl] at dm;have ntr:tr≠m:=by rintro rfl;exact eS h1 ht
   refine K _ ?_ ⟨⟨by exact wr aK (wr (if_pos rfl) rfl),h2.fm (q:=.ref m) w fm λy hy e=>?_⟩,hc.fm w fm λy hy e=>?_⟩ (ho.fm (q:=.ref m) w fm λy hy e=>?_) (fm.more λy u_ e=>.inr e)
   .refine wr aK (wr (if_neg ntr) ?_);exact ht
   .subst e;lia
   .subst e;lia
   .subst e;lia
theorem eh {n tr:Nat}{t:Int}{p l r q0:V}{o:T}{c:Cx}(w:Wf H) (hn:H.at_ n=some (iv t p l r (Cx.par c))) (ht:H.at_ tr=some (zp (Cx.top c (.ref n)))) (hc:Cx.At H c (.ref n)) (ho:o.At H q0) (d:∀x,o.cnt x+Cx.cnt x c<=1) (dn:Cx.cnt n c=0)
  (K:∀H',H'.at_ tr=some (zp (Cx.top c o.root))->Cx.At H' c o.root->o.At H' (Cx.par c)->Fm (λm=>(m=tr\/Cx.ED m c)\/o.isRoot m) H H'->Q .none H'):
  ok (ae (aa (k+1)) "put_in_stead" [.ref tr,.ref n,o.root]) Q H:=by
 refine P.qQ<|aN hn ?_
 rcases o with _|⟨m,t',p',l',r'⟩
 .refine wr (show T.root .nil=V.none from rfl) ?_;refine bF ?_;exact qk (o:=.nil) w ht hc trivial d dn ⟨_,_,_,_,_,hn⟩ λH' a b c f=>K H' a b c (f.more λu_ u_ e=>.inl e)
 .refine wr (show T.root (.node m t' p' l' r')=V.ref m from rfl) ?_;refine bK ?_;have h1:=ho.1;refine hE h1 ?_;have w1:=w.put (o:=iv t' p' l'.root r'.root (Cx.par c)) h1;have fm:Fm (λy=>y=m) H (H.put m (iv t' p' l'.root r'.root (Cx.par c))):=.put w h1 rfl;have dm:=d m;rw[T.af,if_pos rfl] at dm;have ntr:tr≠m:=by rintro rfl;exact eS h1 ht
  refine qk (o:=.node m t' p' l' r') w1 (by refine wr aK (wr (if_neg ntr) ?_);exact ht) (hc.fm w fm λy hy e=>?_) ⟨by exact wr aK (wr (if_pos rfl) rfl),ho.2.1.fm (q:=.ref m) w fm λy hy e=>?_,ho.2.2.fm (q:=.ref m) w fm λy hy e=>?_⟩ d dn ?_
   λH' a b c f=>K H' a b c ((fm.more λu_ u_ e=>.inr e).trans (f.more λu_ u_ e=>.inl e))
  .subst e;lia
  .subst e;lia
  .subst e;lia
  .by_cases e:n=m
   .subst e;exact⟨_,_,_,_,_,by exact wr aK (wr (if_pos rfl) rfl)⟩
   .exact⟨_,_,_,_,_,by refine wr aK (wr (if_neg e) ?_);exact hn⟩
structure St (H:AH) (tr:Nat) (c:Cx) (t:T):Prop where
 wf:Wf H
 tree:H.at_ tr=some (zp (Cx.top c t.root))
 cx:Cx.At H c t.root
 here:t.At H (Cx.par c)
 nd:∀x,t.cnt x+Cx.cnt x c<=1
noncomputable def TS (tr:Nat) (c:Cx) (t:T):Nat->Prop:=λm=>m=tr\/1<=t.cnt m+Cx.cnt m c
def NS (n s:Nat) (b:T) (m:Nat):Prop:=(m=n\/m=s)\/b.isRoot m
theorem CF {b:T}{n s m x:Nat}(h:(if m=n then 1 else 0)+(if m=s then 1 else 0)+b.cnt m+x<=1) (hm:1<=x):¬NS n s b m:=λq=>by
 rcases q with(q|q)|q
 .rw[if_pos q] at h;lia
 .rw[if_pos q] at h;lia
 .have:=T.eD q;lia
theorem T.At.Gq {t:T}{q:V}{n:Nat}(h:t.At H q) (w:Wf H) (z:t.cnt n=0) (f:Fm (λy=>y=n) H H'):t.At H' q:=h.fm (q:=q) w f λm hm e=>by rw[e,z] at hm;exact Nat.not_succ_le_zero _ hm
theorem pL {n tr:Nat}{t:Int}{p l r q v:V}(hn:H.at_ n=some (iv t p l r q)) (ht:H.at_ tr=some (zp v)):n≠tr:=λe=>by subst e;exact eS hn ht
theorem jw {s tr m:Nat}{c:Cx}{st:Int}{sp:V}{x y:T}(h1:Cx.cnt m c=0) (h2:m≠tr) (h3:m≠s):¬((m=tr\/Cx.ED m c)\/(T.node s st sp x y).isRoot m):=λq=>by
 rcases q with(q|q)|q
 .exact h2 q
 .have:=Cx.jg q;lia
 .exact h3 q
theorem A0 {n s tr:Nat}{c:Cx}{t0 b x y:T}{st:Int}{sp:V}{H1 H5:AH}(hn:1<=t0.cnt n) (hs:1<=t0.cnt s) (hb:∀m,b.cnt m<=t0.cnt m) (f1:Fm (λm=>(m=tr\/Cx.ED m c)\/(T.node s st sp x y).isRoot m) H H1) (f:Fm (NS n s b) H1 H5):Fm (TS tr c t0) H H5:=by
 refine(f1.more λm u_ q=>?_).trans (f.more λm u_ q=>?_)
 .rcases q with(q|q)|q
  .exact .inl q
  .exact .inr (by have:=Cx.jg q;exact Nat.le_add_left_of_le (by assumption))
  .have q:m=s:=q;refine wr q ?_;exact .inr (by exact Nat.le_add_right_of_le (by assumption))
 .rcases q with(q|q)|q
  .refine wr q ?_;exact .inr (by exact Nat.le_add_right_of_le (by assumption))
  .refine wr q ?_;exact .inr (by exact Nat.le_add_right_of_le (by assumption))
  .exact .inr (by have:=T.eD q;have:=hb m;lia)
theorem oT {n s tr:Nat}{t st:Int}{p sp:V}{a b cc:T}{c:Cx}(h:St H tr c (.node n t p (.node s st sp a b) cc))
  (K:∀H',St H' tr c (.node s t sp a (.node n (t-st+b.au) p b cc))->Fm (TS tr c (.node n t p (.node s st sp a b) cc)) H H'->Q (.ref s) H'):
  ok (ae (aa (k+2)) "rotate_right" [.ref tr,.ref n]) Q H:=by
 obtain⟨w,ht,hc,⟨hn,⟨hs,ha,hb⟩,hcc⟩,nd⟩:=h;have nd:∀x,(if x=n then 1 else 0)+((if x=s then 1 else 0)+a.cnt x+b.cnt x)+cc.cnt x+Cx.cnt x c<=1:=nd;have hns:n≠s:=λe=>by have:=nd n;rw[if_pos rfl,if_pos e] at this;lia
 have dn:=nd n;rw[if_pos rfl,if_neg hns] at dn;have ds:=nd s;rw[if_pos (rfl:s=s),if_neg hns.symm] at ds;have ntr:=pL hn ht;have str:=pL hs ht;refine P.qA<|bC hn ?_
 refine eh (o:=.node s st sp a b) w hn ht hc ⟨hs,ha,hb⟩ (λx=>by have:=nd x;refine wr T.af ?_;lia) (by lia) λH1 ht1 hc1 ho1 f1=>?_;have hn1:=f1.at_ w hn (jw (by lia) ntr hns);have hcc1:cc.At H1 (.ref n):=hcc.fm (q:=.ref n) w f1 λm hm=>jw (by have:=nd m;lia) (λe=>by have:=hcc.off ht;rw[e] at hm;lia) (λe=>by rw[e] at hm;lia);have hs1:=ho1.1;have hb1:b.At H1 (.ref s):=ho1.2.2;have ha1:a.At H1 (.ref s):=ho1.2.1
 clear hs ha hb ht hc hcc hn ho1
 have w1:=f1.wf;refine bz hn1 (bz hn1 ?_);refine bz hs1 (aT ?_);refine bj hs1<|bD hb1<|aC (cP hn1 ?_)
 have f2:Fm (λy=>y=n) H1 (H1.put n (iv (t-st+b.au) p (T.node s st sp a b).root cc.root (Cx.par c))):=.put w1 hn1 rfl;have hn2:(H1.put n (iv (t-st+b.au) p (T.node s st sp a b).root cc.root (Cx.par c))).at_ n=some (iv (t-st+b.au) p (T.node s st sp a b).root cc.root (Cx.par c)):=wr aK (wr (if_pos rfl) rfl);generalize H1.put n (iv (t-st+b.au) p (T.node s st sp a b).root cc.root (Cx.par c))=H2 at f2 hn2;have hs2:=f2.at_ w1 hs1 hns.symm;refine bj hs2 ?_;refine gL f2.wf hn2 (hb1.Gq w1 (by lia) f2) (by lia) (λx=>by have:=nd x;lia) λH3 hn3 hb3 f3=>?_;have f13:Fm (NS n s b) H1 H3:=(f2.more λm u_ e=>.inl (.inl e)).trans (f3.more λm u_ q=>q.elim (λe=>.inl (.inl e)) .inr);have hs3:=f3.at_ f2.wf hs2 λq=>q.elim hns.symm (T.gw (by lia));have hcc3:cc.At H3 (.ref n):=hcc1.fm (q:=.ref n) w1 f13 λm hm=>CF (by have:=nd m;lia) hm;refine iw (o:=.node n (t-st+b.au) p b cc) f13.wf hs3 ⟨hn3,hb3,hcc3⟩ (by refine wr T.af (wr (if_neg hns.symm) ?_);lia) (λx=>by have:=nd x;refine wr T.af ?_;lia) λH4 hs4 ho4 f4=>?_;refine cP hs4 ?_;have f5:Fm (λy=>y=s) H4 (H4.put s (iv t sp a.root (T.node n (t-st+b.au) p b cc).root (Cx.par c))):=.put f4.wf hs4 rfl;have put_self':(H4.put s (iv t sp a.root (T.node n (t-st+b.au) p b cc).root (Cx.par c))).at_ s=some (iv t sp a.root (T.node n (t-st+b.au) p b cc).root (Cx.par c)):=wr aK (wr (if_pos rfl) rfl);have f15:Fm (NS n s b) H1 (H4.put s (iv t sp a.root (T.node n (t-st+b.au) p b cc).root (Cx.par c))):=(f13.trans (f4.more λm u_ q=>q.elim (λe=>.inl (.inr e)) λe=>.inl (.inl e))).trans (f5.more λm u_ e=>.inl (.inr e));have ho5:(T.node n (t-st+b.au) p b cc).At (H4.put s (iv t sp a.root (T.node n (t-st+b.au) p b cc).root (Cx.par c))) (.ref s):=ho4.Gq f4.wf (by refine wr T.af (wr (if_neg hns.symm) ?_);lia) f5;generalize H4.put s (iv t sp a.root (T.node n (t-st+b.au) p b cc).root (Cx.par c))=H5 at f5 put_self' f15 ho5;have ha5:a.At H5 (.ref s):=ha1.fm (q:=.ref s) w1 f15 λm hm=>CF (by have:=nd m;lia) hm;have bt:b.cnt tr=0:=hb1.off ht1;refine K H5 ⟨f15.wf,f15.at_ w1 ht1 λq=>q.elim (λq=>q.elim ntr.symm str.symm) (T.gw bt),hc1.fm w1 f15 λm hm=>CF (by have:=nd m;lia) hm,⟨put_self',ha5,ho5⟩,λx=>by have:=nd x;refine wr T.af (wr T.af ?_);lia⟩ ?_;refine A0 (n:=n) ?_ ?_ (λm=>?_) f1 f15
 .refine wr T.af (wr (if_pos rfl) ?_);exact Nat.le_add_right_of_le (Nat.le_add_right _ _)
 .refine wr T.af (wr T.af (wr (if_pos (rfl:s=s)) ?_));lia
 .refine wr T.af (wr T.af ?_);lia
end
end Mi
namespace Mi
open PySem
section
variable {H H':AH}{S:Nat->Prop}{k:Nat}{Q:KV}
theorem qB {n s tr:Nat}{t st:Int}{p sp:V}{a b cc:T}{c:Cx}(h:St H tr c (.node n t p cc (.node s st sp b a)))
  (K:∀H',St H' tr c (.node s t sp (.node n (t-st+b.au) p cc b) a)->Fm (TS tr c (.node n t p cc (.node s st sp b a))) H H'->Q (.ref s) H'):
  ok (ae (aa (k+2)) "rotate_left" [.ref tr,.ref n]) Q H:=by
 obtain⟨w,ht,hc,⟨hn,hcc,⟨hs,hb,ha⟩⟩,nd⟩:=h;have nd:∀x,(if x=n then 1 else 0)+cc.cnt x+((if x=s then 1 else 0)+b.cnt x+a.cnt x)+Cx.cnt x c<=1:=nd;have hns:n≠s:=λe=>by have:=nd n;rw[if_pos rfl,if_pos e] at this;lia
 have dn:=nd n;rw[if_pos rfl,if_neg hns] at dn;have ds:=nd s;rw[if_pos (rfl:s=s),if_neg hns.symm] at ds;have ntr:=pL hn ht;have str:=pL hs ht;refine P.sX<|bj hn ?_
 refine eh (o:=.node s st sp b a) w hn ht hc ⟨hs,hb,ha⟩ (λx=>by have:=nd x;refine wr T.af ?_;lia) (by lia) λH1 ht1 hc1 ho1 f1=>?_;have hn1:=f1.at_ w hn (jw (by lia) ntr hns);have hcc1:cc.At H1 (.ref n):=hcc.fm (q:=.ref n) w f1 λm hm=>jw (by have:=nd m;lia) (λe=>by have:=hcc.off ht;rw[e] at hm;lia) (λe=>by rw[e] at hm;lia);have hs1:=ho1.1;have hb1:b.At H1 (.ref s):=ho1.2.1;have ha1:a.At H1 (.ref s):=ho1.2.2
 clear hs ha hb ht hc hcc hn ho1
 have w1:=f1.wf;refine bz hn1 (bz hn1 ?_);refine bz hs1 (aT ?_);refine bC hs1<|bD hb1<|aC (cP hn1 ?_)
 have f2:Fm (λy=>y=n) H1 (H1.put n (iv (t-st+b.au) p cc.root (T.node s st sp b a).root (Cx.par c))):=.put w1 hn1 rfl;have hn2:(H1.put n (iv (t-st+b.au) p cc.root (T.node s st sp b a).root (Cx.par c))).at_ n=some (iv (t-st+b.au) p cc.root (T.node s st sp b a).root (Cx.par c)):=wr aK (wr (if_pos rfl) rfl);generalize H1.put n (iv (t-st+b.au) p cc.root (T.node s st sp b a).root (Cx.par c))=H2 at f2 hn2;have hs2:=f2.at_ w1 hs1 hns.symm;refine bC hs2 ?_;refine iw f2.wf hn2 (hb1.Gq w1 (by lia) f2) (by lia) (λx=>by have:=nd x;lia) λH3 hn3 hb3 f3=>?_;have f13:Fm (NS n s b) H1 H3:=(f2.more λm u_ e=>.inl (.inl e)).trans (f3.more λm u_ q=>q.elim (λe=>.inl (.inl e)) .inr);have hs3:=f3.at_ f2.wf hs2 λq=>q.elim hns.symm (T.gw (by lia));have hcc3:cc.At H3 (.ref n):=hcc1.fm (q:=.ref n) w1 f13 λm hm=>CF (by have:=nd m;lia) hm;refine gL (o:=.node n (t-st+b.au) p cc b) f13.wf hs3 ⟨hn3,hcc3,hb3⟩ (by refine wr T.af (wr (if_neg hns.symm) ?_);lia) (λx=>by have:=nd x;refine wr T.af ?_;lia) λH4 hs4 ho4 f4=>?_;refine cP hs4 ?_;have f5:Fm (λy=>y=s) H4 (H4.put s (iv t sp (T.node n (t-st+b.au) p cc b).root a.root (Cx.par c))):=.put f4.wf hs4 rfl;have put_self':(H4.put s (iv t sp (T.node n (t-st+b.au) p cc b).root a.root (Cx.par c))).at_ s=some (iv t sp (T.node n (t-st+b.au) p cc b).root a.root (Cx.par c)):=wr aK (wr (if_pos rfl) rfl);have f15:Fm (NS n s b) H1 (H4.put s (iv t sp (T.node n (t-st+b.au) p cc b).root a.root (Cx.par c))):=(f13.trans (f4.more λm u_ q=>q.elim (λe=>.inl (.inr e)) λe=>.inl (.inl e))).trans (f5.more λm u_ e=>.inl (.inr e));have ho5:(T.node n (t-st+b.au) p cc b).At (H4.put s (iv t sp (T.node n (t-st+b.au) p cc b).root a.root (Cx.par c))) (.ref s):=ho4.Gq f4.wf (by refine wr T.af (wr (if_neg hns.symm) ?_);lia) f5;generalize H4.put s (iv t sp (T.node n (t-st+b.au) p cc b).root a.root (Cx.par c))=H5 at f5 put_self' f15 ho5;have ha5:a.At H5 (.ref s):=ha1.fm (q:=.ref s) w1 f15 λm hm=>CF (by have:=nd m;lia) hm;have bt:b.cnt tr=0:=hb1.off ht1;refine K H5 ⟨f15.wf,f15.at_ w1 ht1 λq=>q.elim (λq=>q.elim ntr.symm str.symm) (T.gw bt),hc1.fm w1 f15 λm hm=>CF (by have:=nd m;lia) hm,⟨put_self',ho5,ha5⟩,λx=>by have:=nd x;refine wr T.af (wr T.af ?_);lia⟩ ?_;refine A0 (n:=n) ?_ ?_ (λm=>?_) f1 f15
 .refine wr T.af (wr (if_pos rfl) ?_);exact Nat.le_add_right_of_le (Nat.le_add_right _ _)
 .refine wr T.af (wr T.af (wr (if_pos (rfl:s=s)) ?_));lia
 .refine wr T.af (wr T.af ?_);lia
noncomputable def rh (t:Int) (l r:T):Bool:=match l with
 |.nil=>false
 |.node _ st _ a b=>decide (0<st-r.au)&&decide (nZ (a.au-(t-st+b.au))<st-r.au)
noncomputable def lh (t:Int) (l r:T):Bool:=match r with
 |.nil=>false
 |.node _ st _ b a=>decide (0<st-l.au)&&decide (nZ (a.au-(t-st+b.au))<st-l.au)
theorem Bc {i:Int}(k_:Q (.int (nZ i)) H):ok (cE .abs [.int i]) Q H:=Eq.mpr (cA rfl) k_
theorem jK {n:Nat}{t:Int}{p q:V}{l r:T}(h:(T.node n t p l r).At H q) (hr:0<=r.au) (K:Q (.bool (rh t l r)) H):ok (ae (aa (k+2)) "right_turn_helps" [.ref n]) Q H:=by
 refine mE h λhn hl hrr=>P.km<|bC hn<|bD hl<|bj hn<|bD hrr<|aT (kn ?_)
 rcases l with _|⟨s,st,sp,a,b⟩
 .have e:decide (T.nil.au-r.au<=0)=true:=decide_eq_true (show(0:Int)-r.au<=0 by lia);refine wr e<|K
 .refine mE hl λhs ha hb=>?_;have K:Q (.bool (decide (0<st-r.au)&&decide (nZ (a.au-(t-st+b.au))<st-r.au))) H:=K
  by_cases hd:st-r.au<=0
  .have e:decide ((T.node s st sp a b).au-r.au<=0)=true:=decide_eq_true hd;refine wr e ?_;rw[decide_eq_false (show¬0<st-r.au by lia)] at K;exact K
  .have e:decide ((T.node s st sp a b).au-r.au<=0)=false:=decide_eq_false hd;refine wr e ?_;rw[decide_eq_true (show 0<st-r.au by lia)] at K;refine bC hs<|bD ha<|bz hn<|bz hs (aT ?_)
   refine bj hs<|bD hb<|aC (aT (Bc (cU ?_)))
   exact K
theorem kr {n:Nat}{t:Int}{p q:V}{l r:T}(h:(T.node n t p l r).At H q) (hr:0<=l.au) (K:Q (.bool (lh t l r)) H):ok (ae (aa (k+2)) "left_turn_helps" [.ref n]) Q H:=by
 refine mE h λhn hll hrr=>P.lJ<|bj hn<|bD hrr<|bC hn<|bD hll<|aT (kn ?_)
 rcases r with _|⟨s,st,sp,b,a⟩
 .have e:decide (T.nil.au-l.au<=0)=true:=decide_eq_true (show(0:Int)-l.au<=0 by lia);refine wr e<|K
 .refine mE hrr λhs hb ha=>?_;have K:Q (.bool (decide (0<st-l.au)&&decide (nZ (a.au-(t-st+b.au))<st-l.au))) H:=K
  by_cases hd:st-l.au<=0
  .have e:decide ((T.node s st sp b a).au-l.au<=0)=true:=decide_eq_true hd;refine wr e ?_;rw[decide_eq_false (show¬0<st-l.au by lia)] at K;exact K
  .have e:decide ((T.node s st sp b a).au-l.au<=0)=false:=decide_eq_false hd;refine wr e ?_;rw[decide_eq_true (show 0<st-l.au by lia)] at K;refine bj hs<|bD ha<|bz hn<|bz hs (aT ?_)
   refine bC hs<|bD hb<|aC (aT (Bc (cU ?_)))
   exact K
theorem zk {T:ao->AM Bool}{B:ao->AM (Fl×ao)}{ρ:ao}{r:Fl×ao}(h:aH T B ρ H=some (r,H')):∃n,cJ T B n ρ H=some (some r,H'):=by
 unfold aH at h
 split at h
 .rename_i hx;refine fP hx.choose_spec λr2 H2 h2=>?_;dsimp only at h;rw[h2] at h;refine xA (Prod.mk.inj (Option.some.inj h)) λe1 e2=>?_;rw[e1,e2] at h2;exact⟨_,h2⟩
 .exact ns h
theorem aX {tab:Tab}{d:Def}{n:Nat}{p:List Nat}{Q:Fl×ao->AH->Prop}{ρ:ao}
  (h:fN tab d p ρ (λc H=>cond c (gz tab d n p ρ (λf ρ H=>eA f (ok (bM tab d n p ρ) Q H) (λv=>Q (.ret v,ρ) H)) H) (Q (.next,ρ) H)) H):ok (bM tab d n p ρ) Q H:=by
 refine cF (F9 h) λc H1 e1 h1=>?_
 induction c with
 |false=>
  refine⟨(.next,ρ),H1,mF (n:=1) ?_,h1⟩;show(testM tab d p ρ H>>=_)=_;refine wr e1 ?_;rfl
 |true=>
  refine cF (He h1) λz1 H2 e2 h2=>?_;obtain⟨f,ρ'⟩:=z1
  induction f with
  |ret v=>
   refine⟨(.ret v,ρ'),H2,mF (n:=1) ?_,h2⟩;show(testM tab d p ρ H>>=_)=_;refine wr e1 ?_;show(y0 tab d n p ρ H1>>=_)=_;refine wr e2 ?_;rfl
  |next=>
   refine cF h2 λr H3 e3 h3=>xE (zk e3) λm e4=>⟨r,H3,mF (n:=m+1) ?_,h3⟩;show(testM tab d p ρ H>>=_)=_;refine wr e1 ?_;show(y0 tab d n p ρ H1>>=_)=_;refine wr e2<|e4
end
end Mi
namespace Mi
open PySem
section
variable {H H':AH}{S:Nat->Prop}{k:Nat}{Q:KV}{tab:Tab}
theorem dA {n:Nat}{f:Str}{A:(List V->AH->Prop)->AH->Prop}{m:LM}{ob:O}(h:H.at_ n=some ob) (hk:v9 f=some m) (hf:nh m ob=true) (a:A (λvs H=>∃o',H.at_ n=some o'/\ok (jm m n o' vs) Q H) H):aA tab (.ref n) f A Q H:=by
 refine⟨n,ob,rfl,h,?_⟩
 induction ob with
 |inst c fs=>induction m<;>exact nb hf
 |_=>unfold Er;dsimp only;refine wr hk ?_;exact⟨hf,a⟩
theorem bJ {n:Nat}{f c:Str}{fs:List (Str×V)}{A:(List V->AH->Prop)->AH->Prop}(h:H.at_ n=some (.inst c fs)) (hf:fs.lookup f=none) (a:A (λvs H=>ok (bB tab c f (.ref n::vs)) Q H) H):aA tab (.ref n) f A Q H:=
 ⟨n,_,rfl,h,hf,a⟩
theorem Iq {n:Nat}{l:List V}(h:H.at_ n=some (.list l)):ok (cE .len [.ref n]) Q H=Q (.int l.length) H:=by
 refine cA ?_;have h1:cE .len [.ref n] H=(fJ (.ref n) H>>=λp=>(pure (.int p.1.2.length):AM V) p.2):=rfl;have h3:fJ (.ref n) H=(look n H>>=λp=>(match p.1 with|.list l=>pure (n,l)|_=>ak:AM (Nat×List V)) p.2):=rfl;have h2:look n H=some (.list l,H):=by unfold look;exact wr h rfl
 refine wr h1 (wr h3 (wr h2 ?_));rfl
theorem aZ {n:Nat}{l:List V}(h:H.at_ n=some (.list l)) (k_:Q (.int l.length) H):ok (cE .len [.ref n]) Q H:=(Iq h).mpr k_
theorem vK {n:Nat}{o:O}{Q:Unit->AH->Prop}(h:fits o=true):ok (eB n o) Q H=Q () (H.put n o):=by
 refine cA ?_;unfold eB;refine wr h ?_;rfl
theorem eO {n:Nat}{o:O}{Q:Unit->AH->Prop}(h:fits o=true) (k_:Q () (H.put n o)):ok (eB n o) Q H:=(vK h).mpr k_
theorem bp {l:List V}(h:l.length<=1000):fits (.list l)=true:=Nat.ble_eq_true_of_le h
theorem HF {n:Nat}{l:List V}{x:V}(h:H.at_ n=some (.list (l++[x]))) (hl:l.length<=1000) (K:Q x (H.put n (.list l))):aA tab (.ref n) "pop" (λA H=>A [] H) Q H:=by
 refine dA (m:=.pop) h (by kernel_rfl) rfl ⟨_,h,?_⟩;have e:jm .pop n (.list (l++[x])) []=(do eB n (.list l);pure x:AM V):=by
  show(match (l++[x]).getLast? with|some v=>do eB n (.list (l++[x]).dropLast);pure v|none=>ak)=_;refine wr (List.getLast?_concat) ?_;exact wr List.dropLast_concat rfl
 refine wr e<|ah<|eO (bp hl)<|aq K
theorem Et {n:Nat}{l vs:List V}(w:Wf H) (h:H.at_ n=some (.list l)) (hl:l.length+vs.length<=1000) (K:Q .none ((H.add (.list vs)).put n (.list (l++vs)))):aA tab (.ref n) "extend" (λA H=>ok (ba (.list vs)) (λx6 H=>A [x6] H) H) Q H:=by
 have hlt:=w.lt h;refine dA (m:=.extend) h (by kernel_rfl) rfl<|aB (bp (by exact Nat.le_trans (Nat.le_add_left _ _) (by assumption))) ?_
 refine⟨.list l,by refine wr bq (wr (if_neg (Nat.ne_of_lt hlt)) ?_);exact h,?_⟩;refine cz ?_ K;have h1:jm .extend n (.list l) [.ref H.nx] (H.add (.list vs))=(look H.nx (H.add (.list vs))>>=λp=>(match p.1 with
  |.list k=>if Nat.beq n H.nx then ak else do eB n (.list (l++k));pure .none
  |_=>ak:AM V) p.2):=rfl
 have h2:look H.nx (H.add (.list vs))=some (.list vs,H.add (.list vs)):=by unfold look;exact wr bq (wr (if_pos rfl) rfl)
 refine wr h1 (wr h2 ?_);show((if Nat.beq n H.nx then ak else do eB n (.list (l++vs));pure .none:AM V)) (H.add (.list vs))=_;refine wr (nU (Nat.ne_of_lt hlt)) (wr (if_neg (by decide)) ?_);have h3:eB n (.list (l++vs)) (H.add (.list vs))=some ((),(H.add (.list vs)).put n (.list (l++vs))):=by
  unfold eB;refine wr (bp (by rw[List.length_append];exact hl)) ?_;rfl
 show(eB n (.list (l++vs)) (H.add (.list vs))>>=_)=_;refine wr h3 ?_;rfl
theorem Bk {n:Nat}{t:Int}{p l r q:V}{vs:List V}(h:H.at_ n=some (iv t p l r q)) (h':H.at_ n=some (.list vs)):False:=by rw[h] at h';exact nO h' rfl
theorem DH {n:Nat}{q:V}{vs:List V}(h:H.at_ n=some (zp q)) (h':H.at_ n=some (.list vs)):False:=by rw[h] at h';exact nO h' rfl
variable {tr:Nat}{c:Cx}{t:T}
theorem St.fm (h:St H tr c t) (f:Fm S H H') (hs:∀m,TS tr c t m->¬S m):St H' tr c t:=
 ⟨f.wf,f.at_ h.wf h.tree (hs tr (.inl rfl)),h.cx.fm h.wf f λm hm=>hs m (.inr (by exact Nat.le_add_left_of_le (by assumption))),h.here.fm (q:=.none) h.wf f λm hm=>hs m (.inr (by exact Nat.le_add_right_of_le (by assumption))),h.nd⟩
theorem St.off {w:Nat}{vs:List V}(h:St H tr c t) (hw:H.at_ w=some (.list vs)):¬TS tr c t w:=by
 rintro(q|q)
 .subst q;exact DH h.tree hw
 .rcases Nat.eq_zero_or_pos (t.cnt w) with e|e
  .refine fM (h.cx.live (m:=w) (by lia)) λu_ u_ u_ u_ u_ e=>?_;exact Bk e hw
  .refine fM (h.here.live e) λu_ u_ u_ u_ u_ e=>?_;exact Bk e hw
namespace T
noncomputable def ok:T->Prop
 |nil=>True
 |node _ t _ l r=>0<t-l.au-r.au/\l.ok/\r.ok
noncomputable def size:T->Nat
 |nil=>0
 |node _ _ _ l r=>l.size+r.size+1
noncomputable def pI:T->Nat
 |nil=>0
 |node n _ _ _ _=>n
theorem ok.au:∀{t:T},t.ok->0<=t.au
 |nil,_=>Int.le_refl 0
 |node n t p l r,h=>by
  have h1:=h.2.1.au;have h2:=h.2.2.au;have h3:=h.1;show 0<=t;lia
structure Eqv (a b:T):Prop where
 au:b.au=a.au
 seq:b.seq=a.seq
 cnt:∀x,b.cnt x=a.cnt x
 ok:b.ok
 size:b.size=a.size
 nn:b.root=.ref b.pI
theorem Eqv.trans {a b c:T}(x:Eqv a b) (y:Eqv b c):Eqv a c:=⟨y.au.trans x.au,y.seq.trans x.seq,λz=>(y.cnt z).trans (x.cnt z),y.ok,y.size.trans x.size,y.nn⟩
end T
noncomputable abbrev sV (tr nd w top:V) (o1 o2:Option V):ao:=[("tree",some tr),("node",some nd),("waiting",some w),("top",some top),("here",o1),("son",o2)]
noncomputable abbrev Mv (t:T):Nat:=match t with|.nil=>0|.node _ _ _ l r=>(l.au-r.au).natAbs
def SW (k tr:Nat) (nd:V) (w top:Nat) (o1 o2:Option V) (Q:Fl×ao->AH->Prop) (H:AH):Prop:=ok (bM (aa (k+2)) (fD "settle") 7 [2] (sV (.ref tr) nd (.ref w) (.ref top) o1 o2)) Q H
def SK (k tr:Nat) (nd:V) (w:Nat) (Q:Fl×ao->AH->Prop) (c:Cx) (t:T) (rest:List V) (n top:Nat) (H:AH):Prop:=∀t' H' o1 o2,T.Eqv t t'->St H' tr c t'->H'.at_ w=some (.list rest)->Fm (λm=>TS tr c t m\/m=w) H H'->SW k tr nd w (if top=n then t'.pI else top) o1 o2 Q H'
def SL (k tr:Nat) (nd:V) (w:Nat) (Q:Fl×ao->AH->Prop) (t:T):Prop:=∀(c:Cx) (H:AH) (rest:List V) (top:Nat) (o1 o2:Option V),St H tr c t->H.at_ w=some (.list (rest++[t.root]))->rest.length+t.size+1<=1000->(top=t.pI\/t.cnt top=0)->
  SK k tr nd w Q c t rest t.pI top H->SW k tr nd w top o1 o2 Q H
structure Turn (c:Cx) (t0 low:T) (mk:T->T) (fr:Fr) (s n:Nat):Prop where
 lr:low.root=.ref n
 lid:low.pI=n
 mr:∀x,(mk x).root=.ref s
 mid:∀x,(mk x).pI=s
 sn:s≠n
 size:∀x,T.Eqv low x->(mk x).size=t0.size
 Km:low.size+1<=t0.size
 cnt:∀x,T.Eqv low x->∀y,(mk x).cnt y=t0.cnt y
 LG:∀y,low.cnt y<=t0.cnt y
 ls:low.cnt s=0
 Lg:t0.cnt s≠0
 cc:∀y,low.cnt y+Cx.cnt y (fr::c)=t0.cnt y+Cx.cnt y c
 Mn:∀{H tr},St H tr c (mk low)->St H tr (fr::c) low
 cls:∀{H tr x},T.Eqv low x->St H tr (fr::c) x->St H tr c (mk x)
 eqv:∀x,T.Eqv low x->T.Eqv t0 (mk x)
theorem T.Eqv.self {t:T}(h:t.ok) (hr:t.root=.ref t.pI):T.Eqv t t:=⟨rfl,rfl,λu_=>rfl,h,rfl,hr⟩
theorem AZ {c:Cx}{t0 low:T}{mk:T->T}{fr:Fr}{s n w top top':Nat}{nd:V}{rest:List V}{Q:Fl×ao->AH->Prop}(X:Turn c t0 low mk fr s n) (el:T.Eqv low low) (h2:St H tr c (mk low)) (hw:H.at_ w=some (.list rest)) (hb:rest.length+t0.size+1<=1000)
  (htp:top=n\/t0.cnt top=0) (htop:top'=if top=n then s else top) (i1:SL k tr nd w Q low) (i2:∀x,T.Eqv low x->SL k tr nd w Q (mk x)) (K:SK k tr nd w Q c t0 rest n top H):
  aA (aa (k+2)) (.ref w) "extend" (λA H=>ok (ba (.list [.ref s,.ref n])) (λx6 H=>A [x6] H) H) (λu_ H=>SW k tr nd w top' (some (.ref n)) (some (.ref s)) Q H) H:=by
 have z1:=X.size low el;have z2:=X.Km;refine Et h2.wf hw (by simp;lia) ?_;have f3:Fm (λm=>m=w) H ((H.add (.list [.ref s,.ref n])).put w (.list (rest++[.ref s,.ref n]))):=
  (Fm.add h2.wf).trans (.put (o':=.list rest) h2.wf.add (by refine wr bq (wr (if_neg (Nat.ne_of_lt (h2.wf.lt hw))) ?_);exact hw) rfl)
 have hw3:((H.add (.list [.ref s,.ref n])).put w (.list (rest++[.ref s,.ref n]))).at_ w=some (.list (rest++[.ref s,.ref n])):=wr aK (wr (if_pos rfl) rfl);generalize (H.add (.list [.ref s,.ref n])).put w (.list (rest++[.ref s,.ref n]))=H3 at f3 hw3;have hoff:=h2.off hw;have h3:St H3 tr c (mk low):=h2.fm f3 λm hm e=>hoff (e▸hm);have htn:top'≠n:=by refine wr htop ?_;split<;>first|exact X.sn|assumption
 have c1:low.cnt top'=0:=by
  refine wr htop ?_
  split
  .exact X.ls
  .rename_i q;have:=X.LG top;have:=htp.resolve_left q;lia
 refine i1 _ H3 (rest++[.ref s]) top' _ _ (X.Mn h3) (by refine wr X.lr (wr (List.append_assoc _ _ _) ?_);exact hw3) (by refine wr List.length_append ?_;show rest.length+1+low.size+1<=1000;lia) (.inr c1) ?_;intro x H4 u1 u2 ex h4 hw4 f4;refine wr X.lid (wr (if_neg htn) ?_);have z3:=X.size x ex;have c2:top'=(mk x).pI\/(mk x).cnt top'=0:=by
  refine wr htop (wr (X.mid _) (wr ((X.cnt x ex) _) ?_))
  split
  .exact .inl rfl
  .rename_i q;exact .inr (htp.resolve_left q)
 refine i2 x ex c H4 rest top' _ _ (X.cls ex h4) (by refine wr (X.mr _) ?_;exact hw4) (by lia) c2 ?_;intro y H5 v1 v2 ey h5 hw5 f5;have top5:(if top'=(mk x).pI then y.pI else top')=(if top=n then y.pI else top):=by
  refine wr htop (wr (X.mid _) ?_)
  by_cases q:top=n
  .exact wr (if_pos q) (wr (if_pos q) (wr (if_pos rfl) rfl))
  .exact wr (if_neg q) (wr (if_neg q) (wr (if_neg λ(e:top=s)=>X.Lg (e▸htp.resolve_left q)) rfl))
 refine wr top5<|K y H5 v1 v2 ((X.eqv x ex).trans ey) h5 hw5 (((f3.more λm u_ e=>.inr e).trans (f4.more λm u_ e=>?_)).trans (f5.more λm u_ e=>?_))
 .rcases e with(e|e)|e
  .exact .inl (.inl e)
  .left;right;refine wr ((X.cc m).symm) ?_;exact e
  .exact .inr e
 .rcases e with(e|e)|e
  .exact .inl (.inl e)
  .left;right;refine wr ((X.cnt x ex m).symm) ?_;exact e
  .exact .inr e
theorem zo {c:Cx}{n s:Nat}{tt st:Int}{p sp:V}{a b r:T}(h2:St H tr c (.node s tt sp a (.node n (tt-st+b.au) p b r))) (k1:0<tt-st-r.au) (k2:0<st-a.au-b.au) (ka:a.ok):
  Turn c (.node n tt p (.node s st sp a b) r) (.node n (tt-st+b.au) p b r) (λx=>.node s tt sp a x) (.R s tt sp a) s n:=by
 have nns:∀x,(if x=s then 1 else 0)+a.cnt x+((if x=n then 1 else 0)+b.cnt x+r.cnt x)+Cx.cnt x c<=1:=h2.nd;have ns:=nns s;rw[if_pos rfl] at ns;have hsn:s≠n:=λe=>by rw[if_pos e] at ns;lia
 rw[if_neg hsn] at ns;refine⟨rfl,rfl,λu_=>rfl,λu_=>rfl,hsn,λx ex=>?_,?_,λx ex y=>?_,λy=>?_,?_,?_,λy=>?_,λh3=>⟨h3.wf,h3.tree,⟨⟨h3.here.1,h3.here.2.1⟩,h3.cx⟩,h3.here.2.2,λx=>?_⟩,λex h4=>⟨h4.wf,h4.tree,h4.cx.2,⟨h4.cx.1.1,h4.cx.1.2,h4.here⟩,λy=>?_⟩,λx ex=>⟨rfl,?_,λz=>?_,⟨?_,ka,ex.ok⟩,?_,rfl⟩⟩
 .have e:=ex.size;show a.size+x.size+1=(a.size+b.size+1)+r.size+1;refine wr e ?_;show a.size+(b.size+r.size+1)+1=_;lia
 .show b.size+r.size+1+1<=(a.size+b.size+1)+r.size+1;lia
 .refine wr T.af (wr T.af (wr T.af (wr (ex.cnt y) (wr T.af ?_))));lia
 .refine wr T.af (wr T.af (wr T.af ?_));lia
 .refine wr T.af (wr (if_neg hsn) ?_);lia
 .refine wr T.af (wr T.af (wr (if_pos rfl) ?_));lia
 .refine wr Cx.cnt_cons (wr Fr.d0 (wr T.af (wr T.af (wr T.af ?_))));lia
 .refine wr Cx.cnt_cons (wr Fr.d0 (wr T.af ?_));have:=nns x;lia
 .have:=nns y;refine wr T.af (wr (ex.cnt y) (wr T.af ?_));assumption
 .have e1:x.seq=b.seq++(n,tt-st+b.au-b.au-r.au,p)::r.seq:=ex.seq;have xtot:x.au=tt-st+b.au:=ex.au;show a.seq++(s,tt-a.au-x.au,sp)::x.seq=(a.seq++(s,st-a.au-b.au,sp)::b.seq)++(n,tt-st-r.au,p)::r.seq;exact wr e1 (wr xtot (wr (List.append_assoc _ _ _) (wr List.cons_append (wr (show tt-a.au-(tt-st+b.au)=st-a.au-b.au by lia) (wr (show tt-st+b.au-b.au-r.au=tt-st-r.au by lia) rfl)))))
 .refine wr T.af (wr T.af (wr T.af (wr (ex.cnt z) (wr T.af ?_))));lia
 .have xtot:x.au=tt-st+b.au:=ex.au;lia
 .have e:=ex.size;show a.size+x.size+1=(a.size+b.size+1)+r.size+1;refine wr e ?_;show a.size+(b.size+r.size+1)+1=_;lia
theorem B0 {c:Cx}{n s:Nat}{tt st:Int}{p sp:V}{a b l:T}(h2:St H tr c (.node s tt sp (.node n (tt-st+b.au) p l b) a)) (k1:0<tt-l.au-st) (k2:0<st-b.au-a.au) (ka:a.ok):
  Turn c (.node n tt p l (.node s st sp b a)) (.node n (tt-st+b.au) p l b) (λx=>.node s tt sp x a) (.L s tt sp a) s n:=by
 have nns:∀x,(if x=s then 1 else 0)+((if x=n then 1 else 0)+l.cnt x+b.cnt x)+a.cnt x+Cx.cnt x c<=1:=h2.nd;have ns:=nns s;rw[if_pos rfl] at ns;have hsn:s≠n:=λe=>by rw[if_pos e] at ns;lia
 rw[if_neg hsn] at ns;refine⟨rfl,rfl,λu_=>rfl,λu_=>rfl,hsn,λx ex=>?_,?_,λx ex y=>?_,λy=>?_,?_,?_,λy=>?_,λh3=>⟨h3.wf,h3.tree,⟨⟨h3.here.1,h3.here.2.2⟩,h3.cx⟩,h3.here.2.1,λx=>?_⟩,λex h4=>⟨h4.wf,h4.tree,h4.cx.2,⟨h4.cx.1.1,h4.here,h4.cx.1.2⟩,λy=>?_⟩,λx ex=>⟨rfl,?_,λz=>?_,⟨?_,ex.ok,ka⟩,?_,rfl⟩⟩
 .have e:=ex.size;show x.size+a.size+1=l.size+(b.size+a.size+1)+1;refine wr e ?_;show(l.size+b.size+1)+a.size+1=_;lia
 .show l.size+b.size+1+1<=l.size+(b.size+a.size+1)+1;lia
 .refine wr T.af (wr T.af (wr T.af (wr (ex.cnt y) (wr T.af ?_))));lia
 .refine wr T.af (wr T.af (wr T.af ?_));lia
 .refine wr T.af (wr (if_neg hsn) ?_);lia
 .refine wr T.af (wr T.af (wr (if_pos rfl) ?_));lia
 .refine wr Cx.cnt_cons (wr Fr.cZ (wr T.af (wr T.af (wr T.af ?_))));lia
 .refine wr Cx.cnt_cons (wr Fr.cZ (wr T.af ?_));have:=nns x;lia
 .have:=nns y;refine wr T.af (wr (ex.cnt y) (wr T.af ?_));assumption
 .have e1:x.seq=l.seq++(n,tt-st+b.au-l.au-b.au,p)::b.seq:=ex.seq;have xtot:x.au=tt-st+b.au:=ex.au;show x.seq++(s,tt-x.au-a.au,sp)::a.seq=l.seq++(n,tt-l.au-st,p)::(b.seq++(s,st-b.au-a.au,sp)::a.seq);exact wr e1 (wr xtot (wr (List.append_assoc _ _ _) (wr List.cons_append (wr (show tt-(tt-st+b.au)-a.au=st-b.au-a.au by lia) (wr (show tt-st+b.au-l.au-b.au=tt-l.au-st by lia) rfl)))))
 .refine wr T.af (wr T.af (wr T.af (wr (ex.cnt z) (wr T.af ?_))));lia
 .have xtot:x.au=tt-st+b.au:=ex.au;lia
 .have e:=ex.size;show x.size+a.size+1=l.size+(b.size+a.size+1)+1;refine wr e ?_;show(l.size+b.size+1)+a.size+1=_;lia
theorem Eo {d g e:Int}(q:nZ d<e) (h:e=g):d.natAbs<g.natAbs:=by
 have h1:(d.natAbs:Int)<e:=by unfold nZ at q;split at q<;>lia
 exact Int.ofNat_lt.mp (Int.lt_of_lt_of_le h1 (h▸Int.le_natAbs))
theorem Gw {d d' g e:Int}(q:nZ d<e) (hd:d'= -d) (h:e= -g):d'.natAbs<g.natAbs:=by
 refine wr hd (wr (Int.natAbs_neg _) (wr ((Int.natAbs_neg g).symm) ?_));exact Eo q h
theorem xH {w n top:Nat}{nd p:V}{tt:Int}{l r:T}{rest:List V}{o1 o2:Option V}{Q:Fl×ao->AH->Prop}(h:St H tr c (.node n tt p l r)) (hk:(T.node n tt p l r).ok) (hw:H.at_ w=some (.list (rest++[.ref n]))) (hb:rest.length+(T.node n tt p l r).size+1<=1000)
  (htp:top=n\/(T.node n tt p l r).cnt top=0) (K:SK k tr nd w Q c (.node n tt p l r) rest n top H)
  (i1R:∀s st sp a b,l=.node s st sp a b->0<tt-st+b.au-b.au-r.au->a.ok->b.ok->SL k tr nd w Q (.node n (tt-st+b.au) p b r))
  (i2R:∀s st sp a b x,l=.node s st sp a b->x.size=b.size+r.size+1->(a.au-x.au).natAbs<(st-r.au).natAbs->0<tt-a.au-x.au->a.ok->x.ok->SL k tr nd w Q (.node s tt sp a x))
  (i1L:∀s st sp a b,r=.node s st sp b a->0<tt-st+b.au-l.au-b.au->a.ok->b.ok->SL k tr nd w Q (.node n (tt-st+b.au) p l b))
  (i2L:∀s st sp a b x,r=.node s st sp b a->x.size=l.size+b.size+1->(x.au-a.au).natAbs<(l.au-st).natAbs->0<tt-x.au-a.au->a.ok->x.ok->SL k tr nd w Q (.node s tt sp x a)):
  SW k tr nd w top o1 o2 Q H:=by
 refine aX ?_;refine P.uh ?_;refine aZ hw (bN ?_);refine wr List.length_append ?_;refine aM (decide_eq_true (show((rest.length+[V.ref n].length:Nat):Int)>0 by simp)) ?_;refine P.Ce<|HF hw (by lia) ?_
 have f1:Fm (λm=>m=w) H (H.put w (.list rest)):=.put h.wf hw rfl;have hw1:(H.put w (.list rest)).at_ w=some (.list rest):=wr aK (wr (if_pos rfl) rfl);have hoff:=h.off hw;generalize H.put w (.list rest)=H1 at f1 hw1⊢;have h1:St H1 tr c (.node n tt p l r):=h.fm f1 λm hm e=>hoff (e▸hm);have K1:SK k tr nd w Q c (.node n tt p l r) rest n top H1:=λt' H' o1 o2 e q1 q2 q3=>K t' H' o1 o2 e q1 q2 ((f1.more λm u_ e=>.inr e).trans q3)
 clear K f1 hoff h hw
 refine jK h1.here hk.2.2.au<|aj ?_
 rcases hR:rh tt l r with _|_
 .dsimp only[cond];refine kr h1.here hk.2.1.au<|aj ?_
  rcases hL:lh tt l r with _|_
  .dsimp only[cond];have:=K1 (.node n tt p l r) H1 (some (.ref n)) o2 ⟨rfl,rfl,λu_=>rfl,hk,rfl,rfl⟩ h1 hw1 (.refl h1.wf)
   by_cases q:top=n
   .rw[if_pos q] at this;refine wr q ?_;exact this
   .rw[if_neg q] at this;exact this
  .dsimp only[cond]
   rcases r with _|⟨s,st,sp,b,a⟩
   .exact nb hL
   .have hL:(decide (0<st-l.au)&&decide (nZ (a.au-(tt-st+b.au))<st-l.au))=true:=hL;rw[Bool.and_eq_true,decide_eq_true_iff,decide_eq_true_iff] at hL;have k1:0<tt-l.au-st:=hk.1;refine qB h1 λH2 h2 f2=>?_;have hw2:H2.at_ w=some (.list rest):=f2.at_ h1.wf hw1 λe=>h1.off hw1 e;have go:=λtop' htop=>AZ (k:=k) (nd:=nd) (Q:=Q) (top:=top) (top':=top') (B0 h2 k1 hk.2.2.1 hk.2.2.2.2) (.self ⟨by lia,hk.2.1,hk.2.2.2.1⟩ rfl) h2 hw2 hb htp htop (i1L s st sp a b rfl (by lia) hk.2.2.2.2 hk.2.2.2.1) (λx ex=>i2L s st sp a b x rfl ex.size (by have e:=ex.au;have q:=hL.2;refine wr e ?_;exact Gw (d':=(tt-st+b.au)-a.au) q (by lia) (by lia)) (by have e:=ex.au;refine wr e ?_;show 0<tt-(tt-st+b.au)-a.au;have:=hk.2.2.1;lia) hk.2.2.2.2 ex.ok)
     λt' H' o1 o2 e q1 q2 q3=>K1 t' H' o1 o2 e q1 q2 ((f2.more λm u_ e=>.inl e).trans q3)
    refine ro h2.here.2.1.1 ?_
    by_cases q:n=top
    .refine aM (decide_eq_true q) ?_;exact go s (by exact wr (if_pos q.symm) rfl)
    .refine aJ (decide_eq_false q) ?_;exact go top (by exact wr (if_neg (λe=>q e.symm)) rfl)
 .dsimp only[cond]
  rcases l with _|⟨s,st,sp,a,b⟩
  .exact nb hR
  .have hR:(decide (0<st-r.au)&&decide (nZ (a.au-(tt-st+b.au))<st-r.au))=true:=hR;rw[Bool.and_eq_true,decide_eq_true_iff,decide_eq_true_iff] at hR;have k1:0<tt-st-r.au:=hk.1;refine oT h1 λH2 h2 f2=>?_;have hw2:H2.at_ w=some (.list rest):=f2.at_ h1.wf hw1 λe=>h1.off hw1 e;have go:=λtop' htop=>AZ (k:=k) (nd:=nd) (Q:=Q) (top:=top) (top':=top') (zo h2 k1 hk.2.1.1 hk.2.1.2.1) (.self ⟨by lia,hk.2.1.2.2,hk.2.2⟩ rfl) h2 hw2 hb htp htop (i1R s st sp a b rfl (by lia) hk.2.1.2.1 hk.2.1.2.2) (λx ex=>i2R s st sp a b x rfl ex.size (by have e:=ex.au;have q:=hR.2;refine wr e ?_;exact Eo (d:=a.au-(tt-st+b.au)) q rfl) (by have e:=ex.au;refine wr e ?_;show 0<tt-a.au-(tt-st+b.au);have:=hk.2.1.1;lia) hk.2.1.2.1 ex.ok)
    λt' H' o1 o2 e q1 q2 q3=>K1 t' H' o1 o2 e q1 q2 ((f2.more λm u_ e=>.inl e).trans q3)
   refine ro h2.here.2.2.1 ?_
   by_cases q:n=top
   .refine aM (decide_eq_true q) ?_;exact go s (by exact wr (if_pos q.symm) rfl)
   .refine aJ (decide_eq_false q) ?_;exact go top (by exact wr (if_neg (λe=>q e.symm)) rfl)
theorem gd {w:Nat}{nd:V}{Q:Fl×ao->AH->Prop}:∀(t:T),t.root=.ref t.pI->t.ok->SL k tr nd w Q t
 |.nil,hr,_=>by exact JO hr rfl
 |.node n tt p l r,hr,hk=>by
  intro c H rest top o1 o2 h hw hb htp K;have i1R:∀s st sp a b,l=.node s st sp a b->0<tt-st+b.au-b.au-r.au->a.ok->b.ok->SL k tr nd w Q (.node n (tt-st+b.au) p b r):=λs st sp a b hl q u_ kb=>
   gd (.node n (tt-st+b.au) p b r) rfl ⟨q,kb,hk.2.2⟩
  have i2R:∀s st sp a b x,l=.node s st sp a b->x.size=b.size+r.size+1->(a.au-x.au).natAbs<(st-r.au).natAbs->0<tt-a.au-x.au->a.ok->x.ok->SL k tr nd w Q (.node s tt sp a x):=λs st sp a b x hl hs hd q ka kx=>
   gd (.node s tt sp a x) rfl ⟨q,ka,kx⟩
  have i1L:∀s st sp a b,r=.node s st sp b a->0<tt-st+b.au-l.au-b.au->a.ok->b.ok->SL k tr nd w Q (.node n (tt-st+b.au) p l b):=λs st sp a b hl q u_ kb=>
   gd (.node n (tt-st+b.au) p l b) rfl ⟨q,hk.2.1,kb⟩
  have i2L:∀s st sp a b x,r=.node s st sp b a->x.size=l.size+b.size+1->(x.au-a.au).natAbs<(l.au-st).natAbs->0<tt-x.au-a.au->a.ok->x.ok->SL k tr nd w Q (.node s tt sp x a):=λs st sp a b x hl hs hd q ka kx=>
   gd (.node s tt sp x a) rfl ⟨q,kx,ka⟩
  exact xH h hk hw hb htp K i1R i2R i1L i2L
termination_by t=>(t.size,Mv t)
decreasing_by
 .subst hl
  apply Prod.Lex.left
  show b.size+r.size+1<(a.size+b.size+1)+r.size+1;lia
 .subst hl;exact Prod.Lex.right' _ (show a.size+x.size+1<=(a.size+b.size+1)+r.size+1 by lia) hd
 .subst hl
  apply Prod.Lex.left
  show l.size+b.size+1<l.size+(b.size+a.size+1)+1;lia
 .subst hl;exact Prod.Lex.right' _ (show x.size+a.size+1<=l.size+(b.size+a.size+1)+1 by lia) hd
end
end Mi
namespace Mi
open PySem
section
variable {H H':AH}{S:Nat->Prop}{k:Nat}{Q:KV}{tab:Tab}{tr:Nat}
theorem Fm.aE {S':Nat->Prop}(x:Fm S H H') (h:∀m,S m->S' m):Fm S' H H':=x.more λm u_=>h m
theorem St.add {c:Cx}{t:T}{o:O}(h:St H tr c t):St (H.add o) tr c t:=h.fm (Fm.add (S:=λu_=>False) h.wf) λu_ u_ e=>e
theorem ui {c:Cx}{t:T}(h:St H tr c t) (hr:t.root=.ref t.pI) (hk:t.ok) (hs:t.size+2<=1000)
  (K:∀t' H',T.Eqv t t'->St H' tr c t'->Fm (TS tr c t) H H'->Q (.ref t'.pI) H'):ok (ae (aa (k+3)) "settle" [.ref tr,t.root]) Q H:=by
 refine P.DX<|aB (bp (by simp))<|wr hr ?_
 refine gd (w:=H.nx) (nd:=.ref t.pI) t hr hk c _ [] t.pI _ _ h.add (by refine wr bq (wr (if_pos rfl) (wr hr ?_));rfl) (by show 0+t.size+1<=1000;lia) (.inl rfl) ?_;intro t' H2 o1 o2 e h2 hw f;unfold SW;refine wr (if_pos rfl)<|aX<|P.uh (aZ hw (bN ?_))
 refine wr (decide_eq_false (show¬((([]:List V).length:Nat):Int)>0 by simp)) ?_;show bU _ _ _ _ (sV _ _ _ _ _ _) _ H2;refine P.Ci<|K t' H2 e h2 (((Fm.add h.wf).trans f).more λm hm q=>?_)
 rcases q with q|q
 .exact q
 .lia
namespace Cx
noncomputable def ok:Cx->Int->Prop
 |[],_=>True
 |.L _ t _ r::c,x=>0<t-x-r.au/\r.ok/\ok c t
 |.R _ t _ l::c,x=>0<t-l.au-x/\l.ok/\ok c t
noncomputable def size:Cx->Nat
 |[]=>0
 |.L _ _ _ r::c=>r.size+1+size c
 |.R _ _ _ l::c=>l.size+1+size c
noncomputable def pre:Cx->Int->List (Nat×Int×V)
 |[],_=>[]
 |.L _ t _ _::c,_=>pre c t
 |.R n t p l::c,x=>pre c t++(l.seq++[(n,t-l.au-x,p)])
noncomputable def post:Cx->Int->List (Nat×Int×V)
 |[],_=>[]
 |.L n t p r::c,x=>(n,t-x-r.au,p)::(r.seq++post c t)
 |.R _ t _ _::c,_=>post c t
noncomputable def bw (m:Int):Cx->Cx
 |[]=>[]
 |.L n t p r::c=>.L n (t+m) p r::bw m c
 |.R n t p l::c=>.R n (t+m) p l::bw m c
theorem eN:∀{c:Cx} {t:T},(bR c t).seq=pre c t.au++t.seq++post c t.au
 |[],t=>(List.append_nil t.seq).symm
 |.L n tt p r::c,t=>by
  show(bR c (.node n tt p t r)).seq=_;refine wr eN ?_;show pre c tt++(t.seq++(n,tt-t.au-r.au,p)::r.seq)++post c tt=pre c tt++t.seq++((n,tt-t.au-r.au,p)::(r.seq++post c tt));simp
 |.R n tt p l::c,t=>by
  show(bR c (.node n tt p l t)).seq=_;refine wr eN ?_;show pre c tt++(l.seq++(n,tt-l.au-t.au,p)::t.seq)++post c tt=pre c tt++(l.seq++[(n,tt-l.au-t.au,p)])++t.seq++post c tt;simp
theorem iA {m:Int}:∀{c:Cx} {x:Int},pre (bw m c) (x+m)=pre c x
 |[],_=>rfl
 |.L n t p r::c,x=>by show pre (bw m c) (t+m)=pre c t;exact iA
 |.R n t p l::c,x=>by
  show pre (bw m c) (t+m)++(l.seq++[(n,t+m-l.au-(x+m),p)])=pre c t++(l.seq++[(n,t-l.au-x,p)]);exact wr iA (wr (show t+m-l.au-(x+m)=t-l.au-x by lia) rfl)
theorem post_add {m:Int}:∀{c:Cx} {x:Int},post (bw m c) (x+m)=post c x
 |[],_=>rfl
 |.L n t p r::c,x=>by
  show(n,t+m-(x+m)-r.au,p)::(r.seq++post (bw m c) (t+m))=(n,t-x-r.au,p)::(r.seq++post c t);exact wr post_add (wr (show t+m-(x+m)-r.au=t-x-r.au by lia) rfl)
 |.R n t p l::c,x=>by show post (bw m c) (t+m)=post c t;exact post_add
theorem iC {m:Int}:∀{c:Cx} {x:Int},ok (bw m c) (x+m)↔ok c x
 |[],_=>Iff.rfl
 |.L n t p r::c,x=>by
  show(0<t+m-(x+m)-r.au/\r.ok/\ok (bw m c) (t+m))↔(0<t-x-r.au/\r.ok/\ok c t);exact wr (propext (iC)) (wr (show t+m-(x+m)-r.au=t-x-r.au by lia) (by rfl))
 |.R n t p l::c,x=>by
  show(0<t+m-l.au-(x+m)/\l.ok/\ok (bw m c) (t+m))↔(0<t-l.au-x/\l.ok/\ok c t);exact wr (propext (iC)) (wr (show t+m-l.au-(x+m)=t-l.au-x by lia) (by rfl))
theorem gQ {m:Int}{x:Nat}:∀{c:Cx},cnt x (bw m c)=cnt x c
 |[]=>rfl
 |.L n t p r::c=>by show(Fr.L n (t+m) p r).cnt x+cnt x (bw m c)=_;refine wr gQ ?_;rfl
 |.R n t p r::c=>by show(Fr.R n (t+m) p r).cnt x+cnt x (bw m c)=_;refine wr gQ ?_;rfl
theorem jz {m:Int}:∀{c:Cx},par (bw m c)=par c
 |[]=>rfl
 |.L n t p r::c=>rfl
 |.R n t p r::c=>rfl
theorem uT {m:Int}:∀{c:Cx} {h:V},top (bw m c) h=top c h
 |[],_=>rfl
 |.L n t p r::c,h=>by show top (bw m c) (.ref n)=top c (.ref n);exact uT
 |.R n t p r::c,h=>by show top (bw m c) (.ref n)=top c (.ref n);exact uT
theorem hO {m:Int}:∀{c:Cx},size (bw m c)=size c
 |[]=>rfl
 |.L n t p r::c=>by show r.size+1+size (bw m c)=r.size+1+size c;exact wr hO rfl
 |.R n t p r::c=>by show r.size+1+size (bw m c)=r.size+1+size c;exact wr hO rfl
theorem cN:∀{c:Cx} {t:T},(bR c t).ok↔t.ok/\ok c t.au
 |[],t=>⟨λh=>⟨h,trivial⟩,λh=>h.1⟩
 |.L n tt p r::c,t=>by
  show(bR c (.node n tt p t r)).ok↔_;refine wr (propext (cN)) ?_;show(0<tt-t.au-r.au/\t.ok/\r.ok)/\ok c tt↔t.ok/\0<tt-t.au-r.au/\r.ok/\ok c tt
  constructor
  .rintro⟨⟨a,b,d⟩,e⟩;exact⟨b,a,d,e⟩
  .rintro⟨b,a,d,e⟩;exact⟨⟨a,b,d⟩,e⟩
 |.R n tt p l::c,t=>by
  show(bR c (.node n tt p l t)).ok↔_;refine wr (propext (cN)) ?_;show(0<tt-l.au-t.au/\l.ok/\t.ok)/\ok c tt↔t.ok/\0<tt-l.au-t.au/\l.ok/\ok c tt
  constructor
  .rintro⟨⟨a,b,d⟩,e⟩;exact⟨d,a,b,e⟩
  .rintro⟨b,a,d,e⟩;exact⟨⟨a,d,b⟩,e⟩
theorem dz {x:Nat}:∀{c:Cx} {t:T},(bR c t).cnt x=t.cnt x+cnt x c
 |[],t=>rfl
 |.L n tt p r::c,t=>by
  show(bR c (.node n tt p t r)).cnt x=_;refine wr dz (wr T.af (wr cnt_cons (wr Fr.cZ ?_)));lia
 |.R n tt p l::c,t=>by
  show(bR c (.node n tt p l t)).cnt x=_;refine wr dz (wr T.af (wr cnt_cons (wr Fr.d0 ?_)));lia
theorem bX:∀{c:Cx} {t:T},(bR c t).size=t.size+size c
 |[],t=>rfl
 |.L n tt p r::c,t=>by
  show(bR c (.node n tt p t r)).size=_;refine wr bX ?_;show t.size+r.size+1+size c=t.size+(r.size+1+size c);lia
 |.R n tt p l::c,t=>by
  show(bR c (.node n tt p l t)).size=_;refine wr bX ?_;show l.size+t.size+1+size c=t.size+(l.size+1+size c);lia
theorem qS:∀{c:Cx} {a b:T},b.au=a.au->(bR c b).au=(bR c a).au
 |[],_,_,h=>h
 |.L n tt p r::c,a,b,_=>qS (c:=c) (a:=.node n tt p a r) (b:=.node n tt p b r) rfl
 |.R n tt p l::c,a,b,_=>qS (c:=c) (a:=.node n tt p l a) (b:=.node n tt p l b) rfl
theorem vE:∀{c:Cx} {t:T},t.root=.ref t.pI->(bR c t).root=.ref (bR c t).pI
 |[],_,h=>h
 |.L n tt p r::c,t,_=>vE (c:=c) (t:=.node n tt p t r) rfl
 |.R n tt p l::c,t,_=>vE (c:=c) (t:=.node n tt p l t) rfl
theorem Ed {c:Cx}{a b:T}(h:T.Eqv a b) (k:ok c a.au):T.Eqv (bR c a) (bR c b):=
 ⟨qS h.au,by exact wr eN (wr eN (wr h.au (wr h.seq rfl))),λx=>by exact wr dz (wr dz (wr (h.cnt _) rfl)),cN.mpr ⟨h.ok,h.au▸k⟩,by exact wr bX (wr bX (wr h.size rfl)),vE h.nn⟩
end Cx
theorem St.up {f:Fr}{c:Cx}{t:T}(h:St H tr (f::c) t):St H tr c (f.fill t):=by
 obtain⟨w,ht,⟨hf,hc⟩,h1,nd⟩:=h
 induction f with
 |L n tt p r=>exact⟨w,ht,hc,⟨hf.1,h1,hf.2⟩,λx=>by have:=nd x;rw[Cx.cnt_cons,Fr.cZ] at this;show(T.node n tt p t r).cnt x+_<=1;refine wr T.af ?_;lia⟩
 |R n tt p l=>exact⟨w,ht,hc,⟨hf.1,hf.2,h1⟩,λx=>by have:=nd x;rw[Cx.cnt_cons,Fr.d0] at this;show(T.node n tt p l t).cnt x+_<=1;refine wr T.af ?_;lia⟩
theorem St.yT {n:Nat}{tt:Int}{p:V}{l r:T}{c:Cx}(h:St H tr c (.node n tt p l r)):St H tr (.L n tt p r::c) l:=by
 obtain⟨w,ht,hc,h1,nd⟩:=h;exact⟨w,ht,⟨⟨h1.1,h1.2.2⟩,hc⟩,h1.2.1,λx=>by have:=nd x;rw[T.af] at this;refine wr Cx.cnt_cons (wr Fr.cZ ?_);lia⟩
theorem St.E6 {n:Nat}{tt:Int}{p:V}{l r:T}{c:Cx}(h:St H tr c (.node n tt p l r)):St H tr (.R n tt p l::c) r:=by
 obtain⟨w,ht,hc,h1,nd⟩:=h;exact⟨w,ht,⟨⟨h1.1,h1.2.1⟩,hc⟩,h1.2.2,λx=>by have:=nd x;rw[T.af] at this;refine wr Cx.cnt_cons (wr Fr.d0 ?_);lia⟩
theorem St.all:∀{c:Cx} {t:T},St H tr c t->St H tr [] (Cx.bR c t)
 |[],_,h=>h
 |f::c,t,h=>St.all (c:=c) h.up
theorem w0 {f:Fr}{c:Cx}{t:T}{m:Nat}:TS tr c (f.fill t) m↔TS tr (f::c) t m:=by
 unfold TS;have:(f.fill t).cnt m+Cx.cnt m c=t.cnt m+Cx.cnt m (f::c):=by
  induction f with
  |L n tt p r=>show(T.node n tt p t r).cnt m+_=_;refine wr T.af (wr Cx.cnt_cons (wr Fr.cZ ?_));lia
  |R n tt p r=>show(T.node n tt p r t).cnt m+_=_;refine wr T.af (wr Cx.cnt_cons (wr Fr.d0 ?_));lia
 exact wr this (by rfl)
theorem JG {c:Cx}{t t':T}{m:Nat}(h:T.Eqv t t'):TS tr c t' m↔TS tr c t m:=by unfold TS;exact wr (h.cnt _) (by rfl)
theorem Hs {c:Cx}{t:T}{m:Nat}:TS tr [] (Cx.bR c t) m↔TS tr c t m:=by unfold TS;refine wr Cx.dz (wr Cx.cnt_nil ?_);lia
theorem qv {Q:Fl×ao->AH->Prop}:∀{c:Cx} {t:T} {H:AH},St H tr c t->t.root=.ref t.pI->t.ok->Cx.ok c t.au->(Cx.bR c t).size+2<=1000->
  (∀t' H',T.Eqv (Cx.bR c t) t'->St H' tr [] t'->Fm (TS tr c t) H H'->Q (.next,[("tree",some (.ref tr)),("node",some .none)]) H')->
  ok (bM (aa (k+3)) (fD "settle_up") 7 [0] [("tree",some (.ref tr)),("node",some t.root)]) Q H:=by
 intro c
 induction c with
 |nil=>
  intro t H h hr hk hc hs K;refine aX<|P.fS<|wr hr<|bK<|aM rfl ?_
  refine P.k8<|wr (hr.symm)<|ui h hr hk hs λt' H2 e h2 f2=>?_
  have hp:∃tt p l r,H2.at_ t'.pI=some (iv tt p l r .none):=by
   have hnn:=e.nn
   rcases t' with _|⟨n,tt,p,l,r⟩
   .exact JO hnn rfl
   .exact⟨_,_,_,_,h2.here.1⟩
  refine tX hp λtt p l r hp=>aN hp<|aX<|P.fS (bF ?_)
  exact K t' H2 e h2 f2
 |cons f c ih=>
  intro t H h hr hk hc hs K;refine aX<|P.fS<|wr hr<|bK<|aM rfl ?_
  refine P.k8<|wr (hr.symm) ?_
  have hs1:t.size+2<=1000:=by rw[Cx.bX] at hs;lia
  refine ui h hr hk hs1 λt' H2 e h2 f2=>?_;have hp:∃tt p l r,H2.at_ t'.pI=some (iv tt p l r (.ref f.n)):=by
   have hnn:=e.nn
   rcases t' with _|⟨n,tt,p,l,r⟩
   .exact JO hnn rfl
   .exact⟨_,_,_,_,h2.here.1⟩
  refine tX hp λtt p l r hp=>aN hp ?_;have hfr:∀u,(f.fill u).root=.ref f.n:=λu=>by induction f<;>rfl
  have hfn:∀u,(f.fill u).pI=f.n:=λu=>by induction f<;>rfl
  have ef:T.Eqv (Cx.bR (f::c) t) (Cx.bR (f::c) t'):=Cx.Ed e hc;have hok:=Cx.cN (c:=f::c) (t:=t')|>.mpr ⟨e.ok,e.au▸hc⟩
  have hok':=(Cx.cN (c:=c) (t:=f.fill t')).mp hok;have:=ih (t:=f.fill t') (H:=H2) h2.up (by exact wr (hfr _) (wr (hfn _) rfl)) hok'.1 hok'.2 (by
   have:(Cx.bR c (f.fill t')).size=(Cx.bR (f::c) t').size:=rfl;refine wr this (wr ef.size ?_);exact hs) λt2 H3 e3 h3 f3=>K t2 H3 (ef.trans e3) h3 (f2.trans (f3.aE λm q=>(JG e).mp (w0.mp q)))
  rw[hfr] at this;exact this
theorem iu {c:Cx}{t:T}(h:St H tr c t) (hr:t.root=.ref t.pI) (hk:t.ok) (hc:Cx.ok c t.au) (hs:(Cx.bR c t).size+2<=1000)
  (K:∀t' H',T.Eqv (Cx.bR c t) t'->St H' tr [] t'->Fm (TS tr c t) H H'->Q .none H'):ok (ae (aa (k+4)) "settle_up" [.ref tr,t.root]) Q H:=by
 refine P.oE<|qv h hr hk hc hs K
theorem qu (K:Q .none H):ok (ae (aa (k+4)) "settle_up" [.ref tr,.none]) Q H:=by
 refine P.oE (aX ?_);exact P.fS (bF K)
theorem rU {m:Int}{Q:Fl×ao->AH->Prop}:∀{c:Cx} {H:AH} {hole:V},Wf H->Cx.At H c hole->(∀x,Cx.cnt x c<=1)->
  (∀H',Cx.At H' (Cx.bw m c) hole->Fm (λx=>1<=Cx.cnt x c) H H'->Q (.next,[("node",some .none),("many",some (.int m))]) H')->
  ok (bM (aa (k+1)) (fD "add_above") 7 [0] [("node",some (Cx.par c)),("many",some (.int m))]) Q H:=by
 intro c
 induction c with
 |nil=>
  intro H hole w h nd K;refine aX<|P.mh (bF ?_)
  exact K H trivial (.refl w)
 |cons f c ih=>
  intro H hole w h nd K;refine aX<|P.mh (bK ?_)
  dsimp only[cond];refine P.wZ<|xA h λhf hc=>?_
  induction f with
  |L n t p r=>
   have nn:=nd n;rw[Cx.cnt_cons,Fr.cZ,if_pos (rfl:n=n)] at nn;show ok (aV (.ref n) "total") _ H;refine bz hf.1 (Mi.aC ?_);show ok (bZ (.ref n) "total" _) _ H;refine cP hf.1 ?_;have f1:Fm (λx=>x=n) H (H.put n (iv (t+m) p hole r.root (Cx.par c))):=.put w hf.1 rfl;have g1:(H.put n (iv (t+m) p hole r.root (Cx.par c))).at_ n=some (iv (t+m) p hole r.root (Cx.par c)):=wr aK (wr (if_pos rfl) rfl);generalize H.put n (iv (t+m) p hole r.root (Cx.par c))=H1 at f1 g1;show ok (aV (.ref n) "parent") _ H1;refine aN g1 ?_;refine ih (hole:=.ref n) f1.wf (hc.fm w f1 λx hx e=>by rw[e] at hx;lia) (λx=>by have:=nd x;rw[Cx.cnt_cons] at this;exact Nat.le_trans (Nat.le_add_left _ _) (by assumption)) λH2 h2 f2=>?_;have nS:∀x,Cx.cnt x c=0->¬1<=Cx.cnt x c:=λx e q=>by lia
   refine K H2 ⟨⟨by refine wr Cx.jz ?_;exact f2.at_ f1.wf g1 (nS _ (by lia)),(hf.2.fm (q:=.none) w f1 λx hx e=>by rw[e] at hx;lia).fm (q:=.none) f1.wf f2 λx hx=>nS _ (by have:=nd x;rw[Cx.cnt_cons,Fr.cZ] at this;lia)⟩,h2⟩
    ((f1.aE λx e=>?_).trans (f2.aE λx e=>?_))
   .subst e;refine wr Cx.cnt_cons (wr Fr.cZ (wr (if_pos rfl) ?_));exact Nat.le_add_right_of_le (Nat.le_add_right _ _)
   .refine wr Cx.cnt_cons ?_;exact Nat.le_add_left_of_le (by assumption)
  |R n t p r=>
   have nn:=nd n;rw[Cx.cnt_cons,Fr.d0,if_pos (rfl:n=n)] at nn;show ok (aV (.ref n) "total") _ H;refine bz hf.1 (Mi.aC ?_);show ok (bZ (.ref n) "total" _) _ H;refine cP hf.1 ?_;have f1:Fm (λx=>x=n) H (H.put n (iv (t+m) p r.root hole (Cx.par c))):=.put w hf.1 rfl;have g1:(H.put n (iv (t+m) p r.root hole (Cx.par c))).at_ n=some (iv (t+m) p r.root hole (Cx.par c)):=wr aK (wr (if_pos rfl) rfl);generalize H.put n (iv (t+m) p r.root hole (Cx.par c))=H1 at f1 g1;show ok (aV (.ref n) "parent") _ H1;refine aN g1 ?_;refine ih (hole:=.ref n) f1.wf (hc.fm w f1 λx hx e=>by rw[e] at hx;lia) (λx=>by have:=nd x;rw[Cx.cnt_cons] at this;exact Nat.le_trans (Nat.le_add_left _ _) (by assumption)) λH2 h2 f2=>?_;have nS:∀x,Cx.cnt x c=0->¬1<=Cx.cnt x c:=λx e q=>by lia
   refine K H2 ⟨⟨by refine wr Cx.jz ?_;exact f2.at_ f1.wf g1 (nS _ (by lia)),(hf.2.fm (q:=.none) w f1 λx hx e=>by rw[e] at hx;lia).fm (q:=.none) f1.wf f2 λx hx=>nS _ (by have:=nd x;rw[Cx.cnt_cons,Fr.d0] at this;lia)⟩,h2⟩
    ((f1.aE λx e=>?_).trans (f2.aE λx e=>?_))
   .subst e;refine wr Cx.cnt_cons (wr Fr.d0 (wr (if_pos rfl) ?_));exact Nat.le_add_right_of_le (Nat.le_add_right _ _)
   .refine wr Cx.cnt_cons ?_;exact Nat.le_add_left_of_le (by assumption)
theorem iK {m:Int}{c:Cx}{hole:V}(w:Wf H) (h:Cx.At H c hole) (nd:∀x,Cx.cnt x c<=1)
  (K:∀H',Cx.At H' (Cx.bw m c) hole->Fm (λx=>1<=Cx.cnt x c) H H'->Q .none H'):ok (ae (aa (k+2)) "add_above" [Cx.par c,.int m]) Q H:=
 P.za (rU w h nd K)
end
end Mi
namespace Mi
open PySem
noncomputable abbrev E3:=Nat×Int×V
noncomputable def aI:List E3->Int
 |[]=>0
 |e::l=>e.2.1+aI l
theorem dx {a b:List E3}:aI (a++b)=aI a+aI b:=by
 induction a with
 |nil=>exact(Int.zero_add _).symm
 |cons e a ih=>exact(congrArg (e.2.1+·) ih).trans (Int.add_assoc _ _ _).symm
namespace T
noncomputable def nn:T->Bool
 |nil=>false
 |_=>true
theorem vg {t:T}:aI t.seq=t.au:=by
 induction t with
 |nil=>rfl
 |node n t p l r ihl ihr=>
  show aI (l.seq++(n,t-l.au-r.au,p)::r.seq)=t;refine wr dx ?_;show aI l.seq+(t-l.au-r.au+aI r.seq)=t;refine wr ihl (wr ihr ?_);lia
theorem pQ {x:Nat}{t:T}:t.cnt x=(t.seq.map (·.1)).count x:=by
 induction t with
 |nil=>rfl
 |node n t p l r ihl ihr=>
  show _=((l.seq++(n,t-l.au-r.au,p)::r.seq).map (·.1)).count x;refine wr af (wr List.map_append (wr List.map_cons (wr List.count_append (wr List.count_cons (wr ihl (wr ihr ?_))))))
  by_cases h:x=n
  .subst h;simp;lia
  .have:(n==x)=false:=by simp;exact λe=>h e.symm
   refine wr (if_neg h) ?_;simp[this]
theorem k7 {t:T}:t.size=t.seq.length:=by
 induction t with
 |nil=>rfl
 |node n t p l r ihl ihr=>
  show l.size+r.size+1=(l.seq++(n,t-l.au-r.au,p)::r.seq).length;refine wr List.length_append (wr List.length_cons (wr ihl (wr ihr ?_)));rfl
theorem qX:∀{t:T},t.ok->∀e∈t.seq,0<e.2.1
 |nil,_,e,h=>nomatch h
 |node n t p l r,k,e,h=>by
  rcases List.mem_append.mp h with h|h
  .exact qX k.2.1 e h
  .rcases List.mem_cons.mp h with h|h
   .subst h;exact k.1
   .exact qX k.2.2 e h
noncomputable def lz:Cx->T->Cx
 |c,nil=>c
 |c,node n t p l r=>lz (.L n t p r::c) l
theorem lH {t:T}{c:Cx}:Cx.bR (lz c t) nil=Cx.bR c t:=by
 induction t generalizing c with
 |nil=>rfl
 |node n t p l r ihl _=>exact ihl (c:=.L n t p r::c)
theorem Eu {t:T}{c:Cx}:Cx.pre (lz c t) 0=Cx.pre c t.au/\Cx.post (lz c t) 0=t.seq++Cx.post c t.au:=by
 induction t generalizing c with
 |nil=>exact⟨rfl,rfl⟩
 |node n t p l r ihl _=>
  have:=ihl (c:=.L n t p r::c);refine⟨this.1,this.2.trans ?_⟩;show l.seq++((n,t-l.au-r.au,p)::(r.seq++Cx.post c t))=(l.seq++(n,t-l.au-r.au,p)::r.seq)++Cx.post c t;simp
end T
section
variable {H H':AH}{S:Nat->Prop}{k:Nat}{Q:KV}{QB:KB}{tab:Tab}{tr:Nat}
theorem zT {t:T}:ok (bQ .IsNot t.root .none) QB H=QB t.nn H:=by
 rcases t with _|⟨n,t,p,l,r⟩
 .exact qZ
 .exact qY
theorem gM {t:T}(k_:QB t.nn H):ok (bQ .IsNot t.root .none) QB H:=(zT).mpr k_
theorem CD {t:T}:ok (bQ .Is t.root .none) QB H=QB (!t.nn) H:=by
 rcases t with _|⟨n,t,p,l,r⟩
 .exact Bb
 .exact vM
theorem fj {t:T}(k_:QB (!t.nn) H):ok (bQ .Is t.root .none) QB H:=(CD).mpr k_
theorem St.lz:∀{t:T} {c:Cx},St H tr c t->St H tr (T.lz c t) .nil
 |.nil,_,h=>h
 |.node n t p l r,c,h=>St.lz (t:=l) h.yT
theorem St.into:∀{c:Cx} {t:T},St H tr [] (Cx.bR c t)->St H tr c t
 |[],_,h=>h
 |.L n tt p r::c,t,h=>by
  have h:St H tr [] (Cx.bR c (.node n tt p t r)):=h;exact(St.into h).yT
 |.R n tt p l::c,t,h=>by
  have h:St H tr [] (Cx.bR c (.node n tt p l t)):=h;exact(St.into h).E6
theorem focus (t:T) (c0:Cx) {A B:List E3}{e:E3}(h:t.seq=A++e::B):∃c tt l r,Cx.bR c0 t=Cx.bR c (.node e.1 tt e.2.2 l r)/\e.2.1=tt-l.au-r.au/\Cx.pre c tt++l.seq=Cx.pre c0 t.au++A/\r.seq++Cx.post c tt=B++Cx.post c0 t.au:=by
 induction t generalizing c0 A B with
 |nil=>
  have h:[]=A++e::B:=h
  induction A<;>cases h
 |node n tt p l r ihl ihr=>
  have h:l.seq++(n,tt-l.au-r.au,p)::r.seq=A++e::B:=h
  rcases List.append_eq_append_iff.mp h with⟨a',h1,h2⟩|⟨c',h1,h2⟩
  .rcases a' with _|⟨y,a'⟩
   .refine xA (List.cons.inj h2) λz1 z2=>?_;subst z1;subst z2;refine⟨c0,tt,l,r,rfl,rfl,?_,rfl⟩;rw[List.append_nil] at h1;refine wr h1 ?_;rfl
   .refine xA (List.cons.inj h2) λh3 h4=>?_;subst h3;refine ed (ihr (.R n tt p l::c0) h4) λc t' l' r' e1 e2 e3 e4=>⟨c,t',l',r',e1,e2,e3.trans ?_,e4⟩;show Cx.pre c0 tt++(l.seq++[(n,tt-l.au-r.au,p)])++a'=Cx.pre c0 tt++A;refine wr h1 ?_;simp
  .rcases c' with _|⟨y,c'⟩
   .refine xA (List.cons.inj h2) λh3 h4=>?_;subst h3;subst h4;rw[List.append_nil] at h1;refine⟨c0,tt,l,r,rfl,rfl,?_,rfl⟩;refine wr h1 ?_;rfl
   .refine xA (List.cons.inj h2) λh3 h4=>?_;subst h3;refine ed (ihl (.L n tt p r::c0) h1) λc t' l' r' e1 e2 e3 e4=>⟨c,t',l',r',e1,e2,e3,e4.trans ?_⟩;show c'++((n,tt-l.au-r.au,p)::(r.seq++Cx.post c0 tt))=B++Cx.post c0 tt;refine wr h4 ?_;simp
noncomputable def T.fst:T->Nat
 |.nil=>0
 |.node n _ _ .nil _=>n
 |.node _ _ _ l _=>l.fst
noncomputable def T.lst:T->Nat
 |.nil=>0
 |.node n _ _ _ .nil=>n
 |.node _ _ _ _ r=>r.lst
theorem T.Bv:∀{t:T},t.nn=true->∃own p B,t.seq=(t.fst,own,p)::B
 |.nil,h=>by exact nb h
 |.node n tt p .nil r,_=>⟨_,_,_,rfl⟩
 |.node n tt p (.node m t' p' l' r') r,_=>by
  refine zj (T.Bv (t:=.node m t' p' l' r') rfl) λown q B e=>⟨own,q,B++(n,tt-(T.node m t' p' l' r').au-r.au,p)::r.seq,?_⟩;show(T.node m t' p' l' r').seq++_=_;refine wr e ?_;rfl
theorem T.vZ:∀{t:T},t.nn=true->∃own p B,t.seq=B++[(t.lst,own,p)]
 |.nil,h=>by exact nb h
 |.node n tt p l .nil,_=>⟨_,_,l.seq,rfl⟩
 |.node n tt p l (.node m t' p' l' r'),_=>by
  refine zj (T.vZ (t:=.node m t' p' l' r') rfl) λown q B e=>⟨own,q,l.seq++(n,tt-l.au-(T.node m t' p' l' r').au,p)::B,?_⟩;show l.seq++(n,tt-l.au-(T.node m t' p' l' r').au,p)::(T.node m t' p' l' r').seq=_;refine wr e ?_;simp;rfl
theorem ti {Q:Fl×ao->AH->Prop}:∀{t:T} {q:V},t.nn=true->t.At H q->Q (.next,[("node",some (.ref t.fst))]) H->ok (bM (aa k) (fD "leftmost") 7 [0] [("node",some t.root)]) Q H:=by
 intro t
 induction t with
 |nil=>intro q h _ _;exact nb h
 |node n tt p l r ihl _=>
  intro q _ h K;refine aX<|P.yD<|bC h.1 (gM ?_)
  rcases l with _|⟨m,t',p',l',r'⟩
  .exact K
  .dsimp only[T.nn,cond];refine P.yE<|bC h.1<|ihl rfl h.2.1 K
theorem jb {t:T}{q:V}(hn:t.nn=true) (h:t.At H q) (K:Q (.ref t.fst) H):ok (ae (aa (k+1)) "leftmost" [t.root]) Q H:=by
 refine P.Ak (ti hn h ?_);refine P.yF ?_;exact K
theorem qG {Q:Fl×ao->AH->Prop}:∀{t:T} {q:V},t.nn=true->t.At H q->Q (.next,[("node",some (.ref t.lst))]) H->ok (bM (aa k) (fD "rightmost") 7 [0] [("node",some t.root)]) Q H:=by
 intro t
 induction t with
 |nil=>intro q h _ _;exact nb h
 |node n tt p l r _ ihr=>
  intro q _ h K;refine aX<|P.vm<|bj h.1 (gM ?_)
  rcases r with _|⟨m,t',p',l',r'⟩
  .exact K
  .dsimp only[T.nn,cond];refine P.vn<|bj h.1<|ihr rfl h.2.2 K
theorem lB {t:T}{q:V}(hn:t.nn=true) (h:t.At H q) (K:Q (.ref t.lst) H):ok (ae (aa (k+1)) "rightmost" [t.root]) Q H:=by
 refine P.xN (qG hn h ?_);refine P.vo ?_;exact K
noncomputable def Ky:List E3->V
 |[]=>.none
 |e::_=>.ref e.1
noncomputable def JP (l:List E3):V:=Ky l.reverse
theorem wF {Q:Fl×ao->AH->Prop}{G:Prop}{c:Cx}{m n:Nat}{t' tt:Int}{p' p:V}{l' l r:T}(ih:G->St H tr c (.node m t' p' l' (.node n tt p l r))->ok (bM (aa k) (fD "following") 7 [1] [("node",some (.ref m))]) Q H) (K:G) (h:St H tr (.R m t' p' l'::c) (.node n tt p l r)):
  ok (bM (aa k) (fD "following") 7 [1] [("node",some (.ref n))]) Q H:=
 aX (P.iF (aN h.here.1 (bK (aN h.here.1 (bj h.cx.1.1 (ro h.here.1 (aM (decide_eq_true rfl) (P.wH (aN h.here.1 (ih K h.up))))))))))
theorem rF {Q:Fl×ao->AH->Prop}:∀{c:Cx} {t:T},St H tr c t->t.nn=true->(∀n q tt p l r,H.at_ n=some (iv tt p l r q)->q=Ky (Cx.post c t.au)->Q (.next,[("node",some (.ref n))]) H)->ok (bM (aa k) (fD "following") 7 [1] [("node",some t.root)]) Q H:=by
 intro c
 induction c with
 |nil=>
  intro t h hn K
  rcases t with _|⟨n,tt,p,l,r⟩
  .exact nb hn
  refine aX<|P.iF<|aN h.here.1<|bF<|K n _ _ _ _ _ h.here.1 rfl
 |cons f c ih=>
  intro t h hn K
  rcases t with _|⟨n,tt,p,l,r⟩
  .exact nb hn
  rcases f with⟨m,t',p',r'⟩|⟨m,t',p',l'⟩
  case' R=>exact wF (λK h=>ih h rfl K) K h
  refine aX<|P.iF<|aN h.here.1<|bK<|aN h.here.1<|bj h.cx.1.1 ?_
  have nd:=h.nd n;rw[T.af,if_pos (rfl:n=n),Cx.cnt_cons,Fr.cZ] at nd;have hne:∀{QB:KB},ok (bQ .Is r'.root (.ref n)) QB H=QB false H:=by
   intro QB
   rcases r' with _|⟨j,tj,pj,lj,rj⟩
   .exact vN
   .refine wr (show(T.node j tj pj lj rj).root=V.ref j from rfl) (wr (Bl h.cx.1.2.1) ?_);rw[T.af] at nd;have:¬j=n:=by rintro rfl;rw[if_pos (rfl:j=j)] at nd;lia
    exact wr (decide_eq_false this) rfl
  show ok (bQ .Is r'.root (.ref n)) _ H;refine wr hne<|K n _ _ _ _ _ h.here.1 rfl
theorem wG {c:Cx}{n:Nat}{tt:Int}{p:V}{l r:T}(h:St H tr c (.node n tt p l r)) (K:Q (Ky (r.seq++Cx.post c tt)) H):ok (ae (aa (k+2)) "following" [.ref n]) Q H:=by
 refine P.yQ<|bj h.here.1 (gM ?_)
 rcases hr:r.nn with _|_
 .dsimp only[cond];have hr':r=.nil:=by induction r with|nil=>rfl|node=>exact tf hr
  subst hr';refine rF (t:=.node n tt p l .nil) h rfl λm q t' p' l' r' hm hq=>?_;refine P.wJ ?_;refine aN hm ?_;refine wr hq ?_;exact K
 .dsimp only[cond];refine bj h.here.1<|jb hr h.here.2.2<|zj (T.Bv hr) λown q B e=>?_
  rw[e] at K;exact K
theorem lK {l:List E3}{e:E3}:JP (l++[e])=.ref e.1:=by unfold JP;refine wr List.reverse_append ?_;rfl
theorem vy {Q:Fl×ao->AH->Prop}{G:Prop}{c:Cx}{m n:Nat}{t' tt:Int}{p' p:V}{l' l r:T}(ih:G->St H tr c (.node m t' p' (.node n tt p l r) l')->ok (bM (aa k) (fD "preceding") 7 [1] [("node",some (.ref m))]) Q H) (K:G) (h:St H tr (.L m t' p' l'::c) (.node n tt p l r)):
  ok (bM (aa k) (fD "preceding") 7 [1] [("node",some (.ref n))]) Q H:=
 aX (P.iz (aN h.here.1 (bK (aN h.here.1 (bC h.cx.1.1 (ro h.here.1 (aM (decide_eq_true rfl) (P.vA (aN h.here.1 (ih K h.up))))))))))
theorem qR {Q:Fl×ao->AH->Prop}:∀{c:Cx} {t:T},St H tr c t->t.nn=true->(∀n q tt p l r,H.at_ n=some (iv tt p l r q)->q=JP (Cx.pre c t.au)->Q (.next,[("node",some (.ref n))]) H)->ok (bM (aa k) (fD "preceding") 7 [1] [("node",some t.root)]) Q H:=by
 intro c
 induction c with
 |nil=>
  intro t h hn K
  rcases t with _|⟨n,tt,p,l,r⟩
  .exact nb hn
  refine aX<|P.iz<|aN h.here.1<|bF<|K n _ _ _ _ _ h.here.1 rfl
 |cons f c ih=>
  intro t h hn K
  rcases t with _|⟨n,tt,p,l,r⟩
  .exact nb hn
  rcases f with⟨m,t',p',l'⟩|⟨m,t',p',r'⟩
  case' L=>exact vy (λK h=>ih h rfl K) K h
  refine aX<|P.iz<|aN h.here.1<|bK<|aN h.here.1<|bC h.cx.1.1 ?_
  have nd:=h.nd n;rw[T.af,if_pos (rfl:n=n),Cx.cnt_cons,Fr.d0] at nd;have hne:∀{QB:KB},ok (bQ .Is r'.root (.ref n)) QB H=QB false H:=by
   intro QB
   rcases r' with _|⟨j,tj,pj,lj,rj⟩
   .exact vN
   .refine wr (show(T.node j tj pj lj rj).root=V.ref j from rfl) (wr (Bl h.cx.1.2.1) ?_);rw[T.af] at nd;have:¬j=n:=by rintro rfl;rw[if_pos (rfl:j=j)] at nd;lia
    exact wr (decide_eq_false this) rfl
  show ok (bQ .Is r'.root (.ref n)) _ H;refine wr hne<|K n _ _ _ _ _ h.here.1 ?_
  show V.ref m=JP (Cx.pre c t'++(r'.seq++[_]));exact wr ((List.append_assoc _ _ _).symm) (wr lK rfl)
theorem vz {c:Cx}{n:Nat}{tt:Int}{p:V}{l r:T}(h:St H tr c (.node n tt p l r)) (K:Q (JP (Cx.pre c tt++l.seq)) H):ok (ae (aa (k+2)) "preceding" [.ref n]) Q H:=by
 refine P.xV<|bC h.here.1 (gM ?_)
 rcases hr:l.nn with _|_
 .dsimp only[cond];have hr':l=.nil:=by induction l with|nil=>rfl|node=>exact tf hr
  subst hr';refine qR (t:=.node n tt p .nil r) h rfl λm q t' p' l' r' hm hq=>?_;refine P.vC ?_;refine aN hm ?_;refine wr hq ?_;have:Cx.pre c tt++T.nil.seq=Cx.pre c tt:=List.append_nil _;rw[this] at K;exact K
 .dsimp only[cond];refine bC h.here.1<|lB hr h.here.2.1<|zj (T.vZ hr) λown q B e=>?_
  rw[e,<-List.append_assoc,lK] at K;exact K
theorem C9 {Q:Fl×ao->AH->Prop}{tV:V}{at_:Int}:∀{t:T} {q:V} {b:Int} {A B:List E3} {e:E3} {o1 o2:Option V} {H:AH},Wf H->t.At H q->t.ok->t.seq=A++e::B->b+aI A<=at_->at_<b+aI A+e.2.1->
  (∀H' x ρ,H'.at_ x=some (.tup [.ref e.1,.int (b+aI A)])->Fm (λu_=>False) H H'->Q (.ret (.ref x),ρ) H')->ok (bM (aa (k+2)) (fD "find_interval") 7 [2] [("tree",some tV),("at",some (.int at_)),("node",some t.root),("begin",some (.int b)),("ahead",o1),("own",o2)]) Q H
 :=by
 intro t
 induction t with
 |nil=>
  intro q b A B e o1 o2 H _ _ _ h _ _ _;have h:[]=A++e::B:=h
  induction A<;>cases h
 |node n tt p l r ihl ihr=>
  intro q b A B e o1 o2 H w h hk hs h1 h2 K;have hs:l.seq++(n,tt-l.au-r.au,p)::r.seq=A++e::B:=hs;refine aX ?_;refine P.nB ?_;refine aj ?_;refine P.nF<|bC h.1<|bD h.2.1 (gY h ?_)
  refine Mi.aC (cU ?_);have pos:=T.qX hk.2.2;have posl:=T.qX hk.2.1;have nonneg:∀{l:List E3},(∀e∈l,0<e.2.1)->0<=aI l:=by
   intro l
   induction l with
   |nil=>intro _;exact Int.le_refl 0
   |cons x l ih=>intro hx;have:=ih λy hy=>hx y (List.mem_cons_of_mem _ hy);have:=hx x List.mem_cons_self;show 0<=x.2.1+aI l;lia
  rcases List.append_eq_append_iff.mp hs with⟨a',g1,g2⟩|⟨c',g1,g2⟩
  .have sA:aI A=l.au+aI a':=wr g1 (wr dx (wr T.vg rfl))
   rcases a' with _|⟨y,a'⟩
   .refine xA (List.cons.inj g2) λz3 z4=>?_;subst z3;subst z4;have sA:aI A=l.au+0:=sA;dsimp only at h2;refine aJ (decide_eq_false (show¬at_<b+l.au by lia)) ?_;refine Mi.aC (Mi.aC (cU ?_));refine aM (decide_eq_true (show at_<b+l.au+(tt-l.au-r.au) by lia)) ?_;refine Mi.aC (aB (by kernel_rfl) ?_);refine K _ _ _ (by refine wr bq (wr (if_pos rfl) (wr (show b+l.au=b+aI A by lia) ?_));rfl) (.add w)
   .refine xA (List.cons.inj g2) λg3 g4=>?_;subst g3;have sA:aI A=l.au+((tt-l.au-r.au)+aI a'):=sA;have na:=nonneg (l:=a') λx hx=>pos x (by refine wr g4 ?_;exact List.mem_append_left _ hx);refine aJ (decide_eq_false (show¬at_<b+l.au by have:=hk.1;lia)) ?_;refine Mi.aC (Mi.aC (cU ?_));refine aJ (decide_eq_false (show¬at_<b+l.au+(tt-l.au-r.au) by lia)) ?_;refine Mi.aC (Mi.aC ?_);refine bj h.1 ?_;have eb:b+aI A=b+l.au+(tt-l.au-r.au)+aI a':=by lia
    refine ihr w h.2.2 hk.2.2 g4 (by lia) (by lia) λH' x ρ hx f=>K H' x ρ (by refine wr eb ?_;exact hx) f
  .have sl:l.au=aI A+aI c':=wr (T.vg.symm) (wr g1 (wr dx rfl))
   rcases c' with _|⟨y,c'⟩
   .refine xA (List.cons.inj g2) λz5 z6=>?_;subst z5;subst z6;have sl:l.au=aI A+0:=sl;dsimp only at h2;refine aJ (decide_eq_false (show¬at_<b+l.au by lia)) ?_;refine Mi.aC (Mi.aC (cU ?_));refine aM (decide_eq_true (show at_<b+l.au+(tt-l.au-r.au) by lia)) ?_;refine Mi.aC (aB (by kernel_rfl) ?_);refine K _ _ _ (by refine wr bq (wr (if_pos rfl) (wr (show b+l.au=b+aI A by lia) ?_));rfl) (.add w)
   .refine xA (List.cons.inj g2) λg3 g4=>?_;subst g3;have sl:l.au=aI A+(e.2.1+aI c'):=sl;have na:=nonneg (l:=c') λx hx=>posl x (by refine wr g1 ?_;exact List.mem_append_right _ (List.mem_cons_of_mem _ hx));refine aM (decide_eq_true (show at_<b+l.au by lia))<|bC h.1<|ihl w h.2.1 hk.2.1 g1 h1 h2 K
theorem nE {t:T}{at_:Int}{A B:List E3}{e:E3}(h:St H tr [] t) (hk:t.ok) (hs:t.seq=A++e::B) (h1:aI A<=at_) (h2:at_<aI A+e.2.1)
  (K:∀H' x,H'.at_ x=some (.tup [.ref e.1,.int (aI A)])->Fm (λu_=>False) H H'->Q (.ref x) H'):ok (ae (aa (k+3)) "find_interval" [.ref tr,.int at_]) Q H:=by
 refine P.px<|kU h.tree<|C9 (t:=t) h.wf h.here hk hs (by lia) (by lia) λH' x ρ hx f=>K H' x (by exact wr hx (wr (show(0:Int)+aI A=aI A by lia) rfl)) f
end
end Mi
namespace Mi
open PySem
section
variable {H H':AH}{S:Nat->Prop}{k:Nat}{Q:KV}{QB:KB}{tab:Tab}{tr:Nat}
def TL (tr:Nat) (L:List E3) (m:Nat):Prop:=m=tr\/m∈L.map (·.1)
theorem zc {T:T}{m:Nat}:TS tr [] T m↔TL tr T.seq m:=by
 unfold TS TL;refine wr Cx.cnt_nil (wr (Nat.add_zero _) (wr T.pQ ?_));exact wr (propext (show(1<=(T.seq.map (·.1)).count m)↔m∈T.seq.map (·.1) from List.one_le_count_iff)) (by rfl)
theorem Ht {L M:List E3}(h:∀e∈L,e∈M) {m:Nat}(x:TL tr L m):TL tr M m:=by
 rcases x with x|x
 .exact .inl x
 .refine bW (List.mem_map.mp x) λe he z1=>?_;subst z1;exact .inr (List.mem_map_of_mem (h e he))
noncomputable abbrev leaf (fr:Nat) (many:Int) (pl:V):T:=.node fr many pl .nil .nil
theorem BR {m fr:Nat}{t many:Int}{p pl q0:V}{r:T}{c:Cx}(h:St H tr (.L m t p r::c) .nil) (hf:H.at_ fr=some (iv many pl .none .none q0)) (hfr:Cx.cnt fr (.L m t p r::c)=0)
  (K:∀H',St H' tr (.L m t p r::c) (leaf fr many pl)->Fm (λx=>x=m\/x=fr) H H'->Q .none H'):ok (ae (aa (k+1)) "set_left" [.ref m,.ref fr]) Q H:=by
 have hfr':=hfr;rw[Cx.cnt_cons,Fr.cZ] at hfr';have hne:fr≠m:=by rintro rfl;rw[if_pos (rfl:fr=fr)] at hfr';lia
 rw[if_neg hne] at hfr';obtain⟨w,ht,⟨⟨hm,hr⟩,hc⟩,-,nd⟩:=h;have ntr:tr≠m/\tr≠fr:=⟨by rintro rfl;exact eS hm ht,by rintro rfl;exact eS hf ht⟩;refine gL (o:=leaf fr many pl) w hm ⟨hf,trivial,trivial⟩ (by show(if m=fr then 1 else 0)+0+0=0;exact wr (if_neg hne.symm) rfl) (λx=>by show(if x=fr then 1 else 0)+0+0<=1;split<;>lia) λH1 g1 g2 f=>?_;have nS:∀{x},x≠m->x≠fr->¬(x=m\/(leaf fr many pl).isRoot x):=λh1 h2 q=>by
  rcases q with q|q
  .exact h1 q
  .exact h2 q
 have nm:=nd m;rw[Cx.cnt_cons,Fr.cZ,if_pos (rfl:m=m)] at nm;refine K H1 ⟨f.wf,f.at_ w ht (nS ntr.1 ntr.2),⟨⟨g1,hr.fm (q:=.none) w f λx hx=>nS (by rintro rfl;lia) (by rintro rfl;lia)⟩,hc.fm w f λx hx=>nS (by rintro rfl;lia) (by rintro rfl;lia)⟩,g2,λx=>?_⟩ (f.aE λx q=>?_)
 .have:=nd x;show(if x=fr then 1 else 0)+0+0+_<=1
  by_cases e:x=fr
  .subst e;refine wr hfr (wr (if_pos rfl) ?_);exact Nat.le_refl _
  .refine wr (if_neg e) ?_;rw[T.cnt_nil] at this;assumption
 .rcases q with q|q
  .exact .inl q
  .exact .inr q
theorem Hg {m fr:Nat}{t many:Int}{p pl q0:V}{l:T}{c:Cx}(h:St H tr (.R m t p l::c) .nil) (hf:H.at_ fr=some (iv many pl .none .none q0)) (hfr:Cx.cnt fr (.R m t p l::c)=0)
  (K:∀H',St H' tr (.R m t p l::c) (leaf fr many pl)->Fm (λx=>x=m\/x=fr) H H'->Q .none H'):ok (ae (aa (k+1)) "set_right" [.ref m,.ref fr]) Q H:=by
 have hfr':=hfr;rw[Cx.cnt_cons,Fr.d0] at hfr';have hne:fr≠m:=by rintro rfl;rw[if_pos (rfl:fr=fr)] at hfr';lia
 rw[if_neg hne] at hfr';obtain⟨w,ht,⟨⟨hm,hr⟩,hc⟩,-,nd⟩:=h;have ntr:tr≠m/\tr≠fr:=⟨by rintro rfl;exact eS hm ht,by rintro rfl;exact eS hf ht⟩;refine iw (o:=leaf fr many pl) w hm ⟨hf,trivial,trivial⟩ (by show(if m=fr then 1 else 0)+0+0=0;exact wr (if_neg hne.symm) rfl) (λx=>by show(if x=fr then 1 else 0)+0+0<=1;split<;>lia) λH1 g1 g2 f=>?_;have nS:∀{x},x≠m->x≠fr->¬(x=m\/(leaf fr many pl).isRoot x):=λh1 h2 q=>by
  rcases q with q|q
  .exact h1 q
  .exact h2 q
 have nm:=nd m;rw[Cx.cnt_cons,Fr.d0,if_pos (rfl:m=m)] at nm;refine K H1 ⟨f.wf,f.at_ w ht (nS ntr.1 ntr.2),⟨⟨g1,hr.fm (q:=.none) w f λx hx=>nS (by rintro rfl;lia) (by rintro rfl;lia)⟩,hc.fm w f λx hx=>nS (by rintro rfl;lia) (by rintro rfl;lia)⟩,g2,λx=>?_⟩ (f.aE λx q=>?_)
 .have:=nd x;show(if x=fr then 1 else 0)+0+0+_<=1
  by_cases e:x=fr
  .subst e;refine wr hfr (wr (if_pos rfl) ?_);exact Nat.le_refl _
  .refine wr (if_neg e) ?_;rw[T.cnt_nil] at this;assumption
 .rcases q with q|q
  .exact .inl q
  .exact .inr q
theorem St.raised {m:Int}{c:Cx}{t:T}(h:St H tr c t) (f:Fm (λx=>1<=Cx.cnt x c) H H') (hc:Cx.At H' (Cx.bw m c) t.root):St H' tr (Cx.bw m c) t:=by
 have ctr:Cx.cnt tr c=0:=h.cx.off h.tree;refine⟨f.wf,by refine wr Cx.uT ?_;exact f.at_ h.wf h.tree (by lia),hc,?_,λx=>by refine wr Cx.gQ ?_;exact h.nd x⟩;refine wr Cx.jz ?_;exact h.here.fm (q:=.none) h.wf f λx hx=>by have:=h.nd x;lia
theorem Cx.Ds {m:Int}{f:Fr}{c:Cx}:∃g,Cx.bw m (f::c)=g::Cx.bw m c/\g.n=f.n:=by
 induction f
 .exact⟨_,rfl,rfl⟩
 .exact⟨_,rfl,rfl⟩
theorem Fr.jF (f:Fr) (u:T):(f.fill u).root=.ref f.n:=by induction f<;>rfl
theorem Fr.yR (f:Fr) (u:T):(f.fill u).pI=f.n:=by induction f<;>rfl
theorem raised {f:Fr}{c:Cx}{t:T}{many:Int}{Q0:KV}(h:St H tr (f::c) t) (hk:t.ok) (hc:Cx.ok (f::c) (t.au-many)) (hs:(Cx.bR (f::c) t).size+2<=1000)
  (K:∀H1,Fm (λx=>1<=Cx.cnt x (f::c)) H H1->t.At H1 (.ref f.n)->(∀{Q:KV},(∀H' T',St H' tr [] T'->T'.ok->T'.seq=Cx.pre (f::c) (t.au-many)++t.seq++Cx.post (f::c) (t.au-many)->Fm (TS tr (f::c) t) H H'->Q .none H')->
   ok (ae (aa (k+4)) "settle_up" [.ref tr,.ref f.n]) Q H1)->Q0 .none H1):
  ok (ae (aa (k+4)) "add_above" [.ref f.n,.int many]) Q0 H:=by
 refine iK (c:=f::c) (k:=k+2) h.wf h.cx (λx=>by have:=h.nd x;exact Nat.le_trans (Nat.le_add_left _ _) (by assumption)) λH1 g1 f1=>?_;refine K H1 f1 (h.here.fm (q:=.none) h.wf f1 λx hx=>by have:=h.nd x;lia) λ{Q} K=>?_;have h1:=h.raised f1 g1;refine bW (Cx.Ds (m:=many) (f:=f) (c:=c)) λg hg hgn=>?_;rw[hg] at h1;have hx:(t.au-many)+many=t.au:=by lia
 have hok:(Cx.bR (g::Cx.bw many c) t).ok:=by
  refine wr (hg.symm) ?_;refine Cx.cN.mpr ⟨hk,?_⟩;refine wr (hx.symm) ?_;exact Cx.iC.mpr hc
 refine xA ((Cx.cN (c:=Cx.bw many c) (t:=g.fill t)).mp hok) λk1 k2=>?_;have hsz:(Cx.bR (Cx.bw many c) (g.fill t)).size=(Cx.bR (f::c) t).size:=by
  show(Cx.bR (g::Cx.bw many c) t).size=_;exact wr (hg.symm) (wr Cx.bX (wr Cx.bX (wr Cx.hO rfl)))
 have:=iu (k:=k) (Q:=Q) h1.up (by exact wr (Fr.jF _ _) (wr (Fr.yR _ _) rfl)) k1 k2 (by refine wr hsz ?_;exact hs) λT' H2 e h2 f2=>?_
 .rw[Fr.jF,hgn] at this;exact this
 .refine K H2 T' h2 e.ok ?_ ((f1.aE λx q=>?_).trans (f2.aE λx q=>?_))
  .have e2:(Cx.bR (g::Cx.bw many c) t).seq=Cx.pre (f::c) (t.au-many)++t.seq++Cx.post (f::c) (t.au-many):=by
    refine wr (hg.symm) (wr Cx.eN ?_);have a1:Cx.pre (Cx.bw many (f::c)) t.au=Cx.pre (f::c) (t.au-many):=by
     have:=Cx.iA (m:=many) (c:=f::c) (x:=t.au-many);rwa [hx] at this
    have a2:Cx.post (Cx.bw many (f::c)) t.au=Cx.post (f::c) (t.au-many):=by
     have:=Cx.post_add (m:=many) (c:=f::c) (x:=t.au-many);rwa [hx] at this
    exact wr a1 (wr a2 rfl)
   exact e.seq.trans e2
  .right;exact Nat.le_add_left_of_le (by assumption)
  .have q:=w0.mp q
   rcases q with q|q
   .exact .inl q
   .right;rw[<-hg,Cx.gQ] at q;exact q
theorem T.vV:∀{t:T} {c:Cx},t.nn=true->∃t' p' r' c',T.lz c t=.L t.fst t' p' r'::c'
 |.nil,_,h=>by cases h
 |.node n tt p .nil r,c,_=>⟨_,_,_,_,rfl⟩
 |.node n tt p (.node m t' p' l' r') r,c,_=>T.vV (t:=.node m t' p' l' r') (c:=.L n tt p r::c) rfl
theorem xO {fr:Nat}{many:Int}{pl:V}{f:Fr}{c:Cx}(h:St H tr (f::c) (leaf fr many pl)) (hm:0<many) (hc:Cx.ok (f::c) 0) (hs:(Cx.bR (f::c) .nil).size+3<=1000)
  (K:∀H' T',St H' tr [] T'->T'.ok->T'.seq=Cx.pre (f::c) 0++(fr,many,pl)::Cx.post (f::c) 0->Fm (TS tr (f::c) (leaf fr many pl)) H H'->Q .none H'):
  ok (aV (.ref fr) "parent") (λx4 H=>ok (aV (.ref fr) "total") (λx5 H=>ok (ae (aa (k+4)) "add_above" [x4,x5]) (λx6 H=>ok (aV (.ref fr) "parent") (λx7 H=>ok (ae (aa (k+4)) "settle_up" [.ref tr,x7]) (λx8 H=>Q V.none H) H) H) H) H) H:=by
 have h0:=h.here.1;refine aN h0 (bz h0 ?_);have hx:(leaf fr many pl).au-many=0:=by show many-many=0;lia
 refine raised (k:=k) (many:=many) h ⟨by show 0<many-0-0;lia,trivial,trivial⟩ (by refine wr hx ?_;exact hc) (by rw[Cx.bX] at hs⊢;show 0+0+1+_+2<=1000;have:T.nil.size=0:=rfl;lia) λH1 f1 a1 su=>?_;refine aN a1.1<|su λH' T' a b d e=>K H' T' a b ?_ e
 refine wr d (wr hx ?_);have:(leaf fr many pl).seq=[(fr,many,pl)]:=by show[(fr,many-0-0,pl)]=_;exact wr (show many-0-0=many by lia) rfl
 refine wr this ?_;simp
theorem sZ {t:T}{A B:List E3}{e:E3}{fr:Nat}{many:Int}{pl q0:V}(h:St H tr [] t) (hk:t.ok) (hs:t.seq=A++e::B) (hf:H.at_ fr=some (iv many pl .none .none q0)) (hfr:fr∉t.seq.map (·.1)) (hm:0<many) (hb:t.seq.length+3<=1000)
  (K:∀H' T',St H' tr [] T'->T'.ok->T'.seq=A++e::(fr,many,pl)::B->Fm (λm=>TL tr t.seq m\/m=fr) H H'->Q .none H'):ok (ae (aa (k+5)) "put_behind" [.ref tr,.ref e.1,.ref fr]) Q H:=by
 refine ed (focus t [] hs) λc tt l r e1 e2 e3 e4=>?_;have e1:t=Cx.bR c (.node e.1 tt e.2.2 l r):=e1;have e3:Cx.pre c tt++l.seq=A:=e3;have e4:r.seq++Cx.post c tt=B:=by refine wr e4 ?_;show B++[]=B;simp
 have hz:St H tr c (.node e.1 tt e.2.2 l r):=by rw[e1] at h;exact h.into
 have hcnt:∀x,t.cnt x=(T.node e.1 tt e.2.2 l r).cnt x+Cx.cnt x c:=λx=>by exact wr e1 (wr Cx.dz rfl)
 have hfr0:t.cnt fr=0:=by refine wr T.pQ ?_;exact List.count_eq_zero.mpr hfr
 have hzk:=(Cx.cN (c:=c)).mp (e1▸hk);have hR:=hz.E6;have hkR:Cx.ok (.R e.1 tt e.2.2 l::c) r.au:=⟨hzk.1.1,hzk.1.2.1,hzk.2⟩;have hsz:(Cx.bR (.R e.1 tt e.2.2 l::c) r).size=t.seq.length:=by refine wr (T.k7.symm) (wr e1 ?_);rfl
 have own:tt-l.au-r.au=e.2.1:=e2.symm;have hcntR:Cx.cnt fr (.R e.1 tt e.2.2 l::c)=0/\r.cnt fr=0:=by
  have:=hcnt fr;rw[hfr0,T.af] at this;refine wr Cx.cnt_cons (wr Fr.d0 ?_);lia
 have fin:∀{H1 H':AH} {c1:Cx} {x:Nat},(∀m,Cx.cnt m c1=t.cnt m)->TL tr t.seq x->Fm (λm=>m=x\/m=fr) H H1->Fm (TS tr c1 (leaf fr many pl)) H1 H'->Fm (λm=>TL tr t.seq m\/m=fr) H H':=λ{H1 H' c1 x} hc1 hx f1 f2=>
  (f1.aE λm q=>by
   rcases q with q|q
   .subst q;exact .inl hx
   .exact .inr q).trans (f2.aE λm q=>by
   rcases q with q|q
   .exact .inl (.inl q)
   .by_cases hm:m=fr
    .exact .inr hm
    .left
     refine zc.mp (.inr ?_);have:(leaf fr many pl).cnt m=0:=by show(if m=fr then 1 else 0)+0+0=0;exact wr (if_neg hm) rfl
     rw[this,hc1] at q;lia)
 refine P.vq<|bj hz.here.1 (fj ?_)
 rcases hr:r.nn with _|_
 .have hr':r=.nil:=by cases r with|nil=>rfl|node=>cases hr
  subst hr';refine Hg hR hf hcntR.1 λH1 h1 f1=>?_;refine xO h1 hm hkR (by refine wr hsz ?_;exact hb) λH' T' a b d g=>K H' T' a b ?_ (fin (λm=>?_) ?_ f1 g)
  .refine wr d (wr (e3.symm) (wr (e4.symm) ?_));show Cx.pre c tt++(l.seq++[(e.1,tt-l.au-0,e.2.2)])++(fr,many,pl)::Cx.post c tt=Cx.pre c tt++l.seq++e::(fr,many,pl)::([]++Cx.post c tt);have:tt-l.au-0=e.2.1:=own;refine wr this ?_;simp
  .refine wr (hcnt m) (wr Cx.cnt_cons (wr Fr.d0 (wr T.af ?_)));have:T.nil.cnt m=0:=rfl;lia
  .refine zc.mp (.inr ?_);refine wr (hcnt _) (wr T.af (wr (if_pos rfl) ?_));lia
 .show ok (aV (.ref e.1) "right") _ H;refine bj hz.here.1<|jb hr hz.here.2.2<|tX (T.vV (c:=.R e.1 tt e.2.2 l::c) hr) λt' p' r' c' hlz=>?_
  have h0:=hR.lz;have hplug:=T.lH (t:=r) (c:=.R e.1 tt e.2.2 l::c);have hpre:=T.Eu (t:=r) (c:=.R e.1 tt e.2.2 l::c);rw[hlz] at h0 hplug hpre;have hc0:∀m,Cx.cnt m (.L r.fst t' p' r'::c')=t.cnt m:=λm=>by
   have:=congrArg (T.cnt m) hplug;rw[Cx.dz] at this;refine wr e1 ?_;have e0:T.nil.cnt m=0:=rfl;have e5:Cx.bR (.R e.1 tt e.2.2 l::c) r=Cx.bR c (.node e.1 tt e.2.2 l r):=rfl;refine wr (e5.symm) ?_;lia
  have hk0:Cx.ok (.L r.fst t' p' r'::c') 0:=by
   have:(Cx.bR (.L r.fst t' p' r'::c') .nil).ok:=by refine wr hplug ?_;exact e1▸hk
   exact(Cx.cN.mp this).2
  refine BR h0 hf (by refine wr (hc0 _) ?_;exact hfr0) λH1 h1 f1=>?_;refine xO h1 hm hk0 (by refine wr hplug (wr hsz ?_);exact hb) λH' T' a b d g=>K H' T' a b ?_ (fin hc0 ?_ f1 g)
  .refine wr d (wr hpre.1 (wr hpre.2 (wr (e3.symm) (wr (e4.symm) ?_))));show Cx.pre c tt++(l.seq++[(e.1,tt-l.au-r.au,e.2.2)])++(fr,many,pl)::(r.seq++Cx.post c tt)=Cx.pre c tt++l.seq++e::(fr,many,pl)::(r.seq++Cx.post c tt);refine wr own ?_;simp
  .refine zc.mp (.inr ?_);refine wr ((hc0 _).symm) (wr Cx.cnt_cons (wr Fr.cZ (wr (if_pos rfl) ?_)));lia
end
end Mi
namespace Mi
open PySem
def Sq (H:AH) (tr:Nat) (L:List E3):Prop:=∃T,St H tr [] T/\T.ok/\T.seq=L
section
variable {H H':AH}{S:Nat->Prop}{k:Nat}{Q:KV}{QB:KB}{tab:Tab}{tr:Nat}{L A B:List E3}{e:E3}
theorem Sq.wf (h:Sq H tr L):Wf H:=let⟨_,x,_⟩:=h;x.wf
theorem Sq.fm (h:Sq H tr L) (f:Fm S H H') (hs:∀m,TL tr L m->¬S m):Sq H' tr L:=by
 refine be h λT x y z1=>?_;subst z1;exact⟨T,x.fm f λm hm=>hs m (zc.mp hm),y,rfl⟩
theorem Sq.pos (h:Sq H tr L):∀e∈L,0<e.2.1:=by
 refine be h λT x y z2=>?_;subst z2;exact T.qX y
theorem Sq.zip (h:Sq H tr (A++e::B)):∃c tt l r,St H tr c (.node e.1 tt e.2.2 l r)/\(T.node e.1 tt e.2.2 l r).ok/\Cx.ok c tt/\e.2.1=tt-l.au-r.au/\Cx.pre c tt++l.seq=A/\r.seq++Cx.post c tt=B/\(Cx.bR c (.node e.1 tt e.2.2 l r)).seq=A++e::B/\(∀x,TS tr c (.node e.1 tt e.2.2 l r) x↔TL tr (A++e::B) x):=by
 refine be h λT x y hs=>ed (focus T [] hs) λc tt l r e1 e2 e3 e4=>?_;have e1:T=Cx.bR c (.node e.1 tt e.2.2 l r):=e1;have e4:r.seq++Cx.post c tt=B:=by refine wr e4 ?_;show B++[]=B;simp
 have:=(Cx.cN (c:=c)).mp (e1▸y);refine⟨c,tt,l,r,by rw[e1] at x;exact x.into,this.1,this.2,e2,e3,e4,by refine wr (e1.symm) ?_;exact hs,λm=>?_⟩;exact wr (hs.symm) (wr ((propext (zc)).symm) (wr e1 (wr (propext (Hs)) (by rfl))))
theorem Sq.live (h:Sq H tr L) {m:Nat}(hm:m∈L.map (·.1)):∃t p l r q,H.at_ m=some (iv t p l r q):=by
 refine be h λT x y z4=>?_;subst z4;exact x.here.live (by refine wr T.pQ ?_;exact List.one_le_count_iff.mpr hm)
theorem Sq.tree (h:Sq H tr L):∃v,H.at_ tr=some (zp v):=by
 refine be h λT x y z5=>?_;subst z5;exact⟨_,x.tree⟩
theorem Sq.cell (h:Sq H tr (A++e::B)):∃t l r q,H.at_ e.1=some (iv t e.2.2 l r q):=by
 refine HP h.zip λc tt l r h1 u_=>?_;exact⟨_,_,_,_,h1.here.1⟩
theorem DS (h:Sq H tr (A++e::B)):ok (aV (.ref e.1) "plist") Q H=Q e.2.2 H:=by
 refine tX h.cell λu_ u_ u_ u_ g=>?_;exact EA g
theorem fe (h:Sq H tr (A++e::B)) (k_:Q e.2.2 H):ok (aV (.ref e.1) "plist") Q H:=(DS h).mpr k_
theorem vh (h:Sq H tr (A++e::B)) (K:Q (.int e.2.1) H):ok (ae (aa (k+2)) "own_length" [.ref e.1]) Q H:=by
 refine BY h.zip λc tt l r h1 h2 h3 h4 u_=>?_;exact gY h1.here (by refine wr (h4.symm) ?_;exact K)
theorem mJ (h:Sq H tr L) (K:Q (.int (aI L)) H):ok (ae (aa (k+2)) "text_length" [.ref tr]) Q H:=by
 refine be h λT x y z6=>?_;subst z6;refine P.sG<|kU x.tree ?_
 exact bD x.here (by refine wr (T.vg.symm) ?_;exact K)
theorem ir {at_:Int}(h:Sq H tr (A++e::B)) (h1:aI A<=at_) (h2:at_<aI A+e.2.1)
  (K:∀H' x,H'.at_ x=some (.tup [.ref e.1,.int (aI A)])->Fm (λu_=>False) H H'->Q (.ref x) H'):ok (ae (aa (k+3)) "find_interval" [.ref tr,.int at_]) Q H:=by
 refine be h λT x y hs=>nE x y hs h1 h2 K
theorem vi (h:Sq H tr (A++e::B)) (K:Q (Ky B) H):ok (ae (aa (k+2)) "following" [.ref e.1]) Q H:=by
 obtain⟨c,tt,l,r,h1,h2,h3,h4,h5,h6,-⟩:=h.zip;exact wG h1 (by refine wr h6 ?_;exact K)
theorem k6 (h:Sq H tr (A++e::B)) (K:Q (JP A) H):ok (ae (aa (k+2)) "preceding" [.ref e.1]) Q H:=by
 obtain⟨c,tt,l,r,h1,h2,h3,h4,h5,h6,-⟩:=h.zip;exact vz h1 (by refine wr h5 ?_;exact K)
theorem A5 {m:Int}(h:Sq H tr (A++e::B)) (hm:0<e.2.1+m) (K:∀H',Sq H' tr (A++(e.1,e.2.1+m,e.2.2)::B)->Fm (TL tr (A++e::B)) H H'->Q .none H'):ok (ae (aa (k+2)) "add_above" [.ref e.1,.int m]) Q H:=by
 obtain⟨c,tt,l,r,h1,h2,h3,h4,h5,h6,h7,h8⟩:=h.zip;have hL:=h1.yT;refine iK (c:=.L e.1 tt e.2.2 r::c) hL.wf hL.cx (λx=>by have:=hL.nd x;exact Nat.le_trans (Nat.le_add_left _ _) (by assumption)) λH1 g1 f1=>?_;have hA:=hL.raised f1 g1;refine K H1 ⟨_,hA.all,?_,?_⟩ (f1.aE λx q=>(h8 x).mp (.inr (by rw[Cx.cnt_cons,Fr.cZ] at q;refine wr T.af ?_;lia)))
 .refine Cx.cN.mpr ⟨h2.2.1,?_⟩;exact⟨by lia,h2.2.2,Cx.iC.mpr h3⟩
 .refine wr Cx.eN ?_;show Cx.pre (Cx.bw m c) (tt+m)++l.seq++((e.1,tt+m-l.au-r.au,e.2.2)::(r.seq++Cx.post (Cx.bw m c) (tt+m)))=_;exact wr Cx.iA (wr Cx.post_add (wr h5 (wr h6 (wr (show tt+m-l.au-r.au=e.2.1+m by lia) rfl))))
theorem Ca (h:Sq H tr (A++e::B)) (hb:(A++e::B).length+2<=1000) (K:∀H',Sq H' tr (A++e::B)->Fm (TL tr (A++e::B)) H H'->Q .none H'):ok (ae (aa (k+4)) "settle_up" [.ref tr,.ref e.1]) Q H:=by
 obtain⟨c,tt,l,r,h1,h2,h3,h4,h5,h6,h7,h8⟩:=h.zip;refine iu (t:=.node e.1 tt e.2.2 l r) h1 rfl h2 h3 (by refine wr T.k7 (wr h7 ?_);exact hb) λT' H1 ev g f=>K H1 ⟨T',g,ev.ok,ev.seq.trans h7⟩ (f.aE λx q=>(h8 x).mp q)
theorem mK {fr:Nat}{many:Int}{pl q0:V}(h:Sq H tr (A++e::B)) (hf:H.at_ fr=some (iv many pl .none .none q0)) (hfr:fr∉(A++e::B).map (·.1)) (hm:0<many) (hb:(A++e::B).length+3<=1000)
  (K:∀H',Sq H' tr (A++e::(fr,many,pl)::B)->Fm (λm=>TL tr (A++e::B) m\/m=fr) H H'->Q .none H'):ok (ae (aa (k+5)) "put_behind" [.ref tr,.ref e.1,.ref fr]) Q H:=by
 refine be h λT x y hs=>?_;exact sZ x y hs hf (by refine wr hs ?_;exact hfr) hm (by refine wr hs ?_;exact hb) λH' T' a b c d=>K H' ⟨T',a,b,c⟩ (by rw[hs] at d;exact d)
theorem DT {fr:Nat}{many:Int}{pl q0:V}(h:Sq H tr (A++e::B)) (hf:H.at_ fr=some (iv many pl .none .none q0)) (hfr:fr∉(A++e::B).map (·.1)) (hm:0<many) (hb:(A++e::B).length+3<=1000)
  (K:∀H',Sq H' tr (A++(fr,many,pl)::e::B)->Fm (λm=>TL tr (A++e::B) m\/m=fr) H H'->Q .none H'):ok (ae (aa (k+6)) "put_ahead" [.ref tr,.ref e.1,.ref fr]) Q H:=by
 refine P.xT (k6 (k:=k+3) h ?_)
 rcases List.eq_nil_or_concat A with rfl|⟨A',e',rfl⟩
 .show ok (bQ .IsNot .none .none) _ H;refine bF ?_;obtain⟨c,tt,l,r,h1,h2,h3,h4,h5,h6,h7,h8⟩:=h.zip;refine xA (List.append_eq_nil_iff.mp h5) λhp hl=>?_;have hl':l=.nil:=by
   rcases l with _|_
   .rfl
   .exact absurd hl (by show _++_::_≠[];simp)
  subst hl';have hL:=h1.yT;have hcnt:∀x,Cx.cnt x (.L e.1 tt e.2.2 r::c)=(T.node e.1 tt e.2.2 .nil r).cnt x+Cx.cnt x c:=λx=>by refine wr Cx.cnt_cons (wr Fr.cZ (wr T.af (wr T.cnt_nil ?_)));lia
  have hfr0:Cx.cnt fr (.L e.1 tt e.2.2 r::c)=0:=by
   refine wr (hcnt _) (wr (Cx.dz.symm) (wr T.pQ (wr h7 ?_)));exact List.count_eq_zero.mpr hfr
  refine BR hL hf hfr0 λH1 g1 f1=>bz g1.here.1 ?_;have hx:(leaf fr many pl).au-many=0:=by show many-many=0;lia
  have hok:Cx.ok (.L e.1 tt e.2.2 r::c) 0:=⟨by have:=h2.1;exact this,h2.2.2,h3⟩;have hsz:(Cx.bR (.L e.1 tt e.2.2 r::c) .nil).size=([]++e::B).length:=by refine wr (h7.symm) (wr (T.k7.symm) ?_);rfl
  refine raised (k:=k+1) (f:=.L e.1 tt e.2.2 r) (c:=c) (many:=many) g1 ⟨by show 0<many-0-0;lia,trivial,trivial⟩ (by refine wr hx ?_;exact hok) (by
   rw[Cx.bX] at hsz⊢;have:T.nil.size=0:=rfl;have:(leaf fr many pl).size=1:=rfl;lia) λH2 f2 a2 su=>?_
  refine su λH3 T' b1 b2 b3 f3=>K H3 ⟨T',b1,b2,?_⟩ ((f1.aE λx q=>?_).trans (f3.aE λx q=>?_))
  .refine wr b3 (wr hx ?_);have:(leaf fr many pl).seq=[(fr,many,pl)]:=by show[(fr,many-0-0,pl)]=_;exact wr (show many-0-0=many by lia) rfl
   refine wr this ?_;show Cx.pre c tt++[(fr,many,pl)]++((e.1,tt-0-r.au,e.2.2)::(r.seq++Cx.post c tt))=_;refine wr hp (wr h6 ?_);have:tt-0-r.au=e.2.1:=h4.symm;refine wr this ?_;rfl
  .rcases q with q|q
   .subst q;exact .inl (.inr (by simp))
   .exact .inr q
  .by_cases hxf:x=fr
   .exact .inr hxf
   .left
    refine(h8 x).mp ?_
    rcases q with q|q
    .exact .inl q
    .right
     have:(leaf fr many pl).cnt x=0:=by show(if x=fr then 1 else 0)+0+0=0;exact wr (if_neg hxf) rfl
     rw[hcnt] at q;lia
 .refine wr List.concat_eq_append (wr lK ?_);refine bK ?_;rw[List.concat_eq_append] at h hfr hb K;have ea:∀X:List E3,A'++[e']++X=A'++e'::X:=λX=>by simp
  rw[ea] at h hfr hb;refine mK h hf hfr hm hb λH' a b=>K H' (by refine wr (ea _) ?_;exact a) (by refine wr (ea _) ?_;exact b)
end
end Mi
namespace Mi
open PySem
namespace Cx
theorem jJ {a b:Int}:∀{c:Cx},bw a (bw b c)=bw (b+a) c
 |[]=>rfl
 |.L n t p r::c=>by show Fr.L n (t+b+a) p r::bw a (bw b c)=Fr.L n (t+(b+a)) p r::bw (b+a) c;exact wr jJ (wr (show t+b+a=t+(b+a) by lia) rfl)
 |.R n t p r::c=>by show Fr.R n (t+b+a) p r::bw a (bw b c)=Fr.R n (t+(b+a)) p r::bw (b+a) c;exact wr jJ (wr (show t+b+a=t+(b+a) by lia) rfl)
theorem rV {a:Int}:∀{c d:Cx},bw a (c++d)=bw a c++bw a d
 |[],_=>rfl
 |.L n t p r::c,d=>by show _::bw a (c++d)=_::(bw a c++bw a d);exact wr rV rfl
 |.R n t p r::c,d=>by show _::bw a (c++d)=_::(bw a c++bw a d);exact wr rV rfl
theorem nY:∀{c:Cx},bw 0 c=c
 |[]=>rfl
 |.L n t p r::c=>by show Fr.L n (t+0) p r::bw 0 c=_;exact wr nY (wr (show t+0=t by lia) rfl)
 |.R n t p r::c=>by show Fr.R n (t+0) p r::bw 0 c=_;exact wr nY (wr (show t+0=t by lia) rfl)
theorem pR {x:Nat}:∀{c d:Cx},cnt x (c++d)=cnt x c+cnt x d
 |[],d=>by show cnt x d=0+cnt x d;lia
 |f::c,d=>by show f.cnt x+cnt x (c++d)=f.cnt x+cnt x c+cnt x d;refine wr pR ?_;lia
end Cx
theorem T.ng:∀{t:T} {c:Cx},T.lz c t=T.lz [] t++c
 |.nil,_=>rfl
 |.node n t p l r,c=>by
  show T.lz (.L n t p r::c) l=T.lz [.L n t p r] l++c;refine wr T.ng (wr (T.ng (c:=[.L n t p r])) ?_);simp
section
variable {H H':AH}{S:Nat->Prop}{k:Nat}{Q:KV}{QB:KB}{tab:Tab}{tr:Nat}{L A B:List E3}{e:E3}
theorem qw {c:Cx}{t:T}(h:St H tr c t) (hk:(Cx.bR c t).ok) (hs:(Cx.bR c t).size+2<=1000)
  (K:∀H' T',St H' tr [] T'->T'.ok->T'.seq=(Cx.bR c t).seq->Fm (TS tr c t) H H'->Q .none H'):ok (ae (aa (k+4)) "settle_up" [.ref tr,Cx.par c]) Q H:=by
 rcases c with _|⟨f,c⟩
 .exact qu (K H t h hk rfl (.refl h.wf))
 .refine xA ((Cx.cN (c:=c) (t:=f.fill t)).mp hk) λk1 k2=>?_;have:=iu (k:=k) (Q:=Q) h.up (by exact wr (Fr.jF _ _) (wr (Fr.yR _ _) rfl)) k1 k2 hs λT' H1 e g f1=>K H1 T' g e.ok e.seq (f1.aE λx q=>w0.mp q);rw[Fr.jF] at this;exact this
theorem Dc {m:Int}{mid:Nat}{nV:V}{o1:Option V}{c1:Cx}{Q:Fl×ao->AH->Prop}:∀{d:Cx} {t:T} {H:AH},St H tr (d++c1) t->(∃p l r q,H.at_ mid=some (iv m p l r q))->Cx.cnt mid d=0->
  (∀H',St H' tr (Cx.bw m d++c1) t->Fm (λx=>1<=Cx.cnt x d) H H'->Q (.next,[("tree",some (.ref tr)),("node",some nV),("above",some (Cx.par c1)),("son",o1),("moved",some (.ref mid)),("here",some (Cx.par c1))]) H')->
  ok (bM (aa k) (fD "drop_interval") 7 [7] [("tree",some (.ref tr)),("node",some nV),("above",some (Cx.par c1)),("son",o1),("moved",some (.ref mid)),("here",some (Cx.par (d++c1)))]) Q H:=by
 intro d
 induction d with
 |nil=>
  intro t H h hm hc K;refine aX<|P.ia ?_
  have e:∀{QB:KB},ok (bQ .IsNot (Cx.par c1) (Cx.par c1)) QB H=QB false H:=by
   intro QB
   rcases c1 with _|⟨f,c⟩
   .exact qZ
   .have:∃t p l r q,H.at_ f.n=some (iv t p l r q):=h.cx.1.live f.yl;refine fM this λu_ u_ u_ u_ u_ hf=>cA ?_;show(I6 (.ref f.n) (.ref f.n) H>>=_)=_;refine wr (I8 hf) (wr (decide_eq_true rfl) ?_);rfl
  show ok (bQ .IsNot (Cx.par c1) (Cx.par c1)) _ H;refine wr e<|K H h (.refl h.wf)
 |cons f d ih=>
  intro t H h hm hc K;refine aX<|P.ia ?_
  have nf:=h.nd f.n;rw[List.cons_append,Cx.cnt_cons,Cx.pR] at nf;have fn:=f.yl;refine tX hm λp0 l0 r0 q0 hmid=>?_;have hne:mid≠f.n:=by rintro rfl;rw[Cx.cnt_cons] at hc;lia
  have e:∀{QB:KB},ok (bQ .IsNot (.ref f.n) (Cx.par c1)) QB H=QB true H:=by
   intro QB;obtain⟨_,_,_,_,_,hf⟩:∃t p l r q,H.at_ f.n=some (iv t p l r q):=h.cx.1.live f.yl
   rcases c1 with _|⟨g,c⟩
   .exact qY
   .refine cA ?_;have hgn:f.n≠g.n:=by intro q;rw[Cx.cnt_cons] at nf;have:=g.yl;rw[<-q] at this;lia
    show(I6 (.ref f.n) (.ref g.n) H>>=_)=_;refine wr (I8 hf) (wr (decide_eq_false hgn) ?_);rfl
  show ok (bQ .IsNot (.ref f.n) (Cx.par c1)) _ H;refine wr e<|P.nK ?_
  induction f with
  |L n t' p r=>
   have hcell:=h.cx.1.1;have nn:=h.nd n;rw[List.cons_append,Cx.cnt_cons,Fr.cZ,if_pos (rfl:n=n)] at nn;refine bz hcell (bz hmid (Mi.aC ?_));show ok (bZ (.ref n) "total" _) _ H;refine cP hcell ?_;have f1:Fm (λx=>x=n) H (H.put n (iv (t'+m) p t.root r.root (Cx.par (d++c1)))):=.put h.wf hcell rfl;have g1:(H.put n (iv (t'+m) p t.root r.root (Cx.par (d++c1)))).at_ n=some (iv (t'+m) p t.root r.root (Cx.par (d++c1))):=wr aK (wr (if_pos rfl) rfl);generalize H.put n (iv (t'+m) p t.root r.root (Cx.par (d++c1)))=H1 at f1 g1;show ok (aV (.ref n) "parent") _ H1;refine aN g1 ?_;have ntr:tr≠n:=by rintro rfl;exact eS hcell h.tree
   have h1:St H1 tr (.L n (t'+m) p r::(d++c1)) t:=
    ⟨f1.wf,f1.at_ h.wf h.tree ntr,⟨⟨g1,h.cx.1.2.fm (q:=.none) h.wf f1 λx hx e=>by rw[e] at hx;lia⟩,h.cx.2.fm h.wf f1 λx hx e=>by rw[e] at hx;lia⟩,h.here.fm (q:=.none) h.wf f1 λx hx e=>by rw[e] at hx;lia,h.nd⟩
   refine ih h1.up ⟨p0,l0,r0,q0,f1.at_ h.wf hmid hne⟩ (by rw[Cx.cnt_cons] at hc;lia) λH2 h2 f2=>K H2 h2.yT ((f1.aE λx q=>?_).trans (f2.aE λx q=>?_))
   .subst q;refine wr Cx.cnt_cons (wr Fr.cZ (wr (if_pos rfl) ?_));exact Nat.le_add_right_of_le (Nat.le_add_right _ _)
   .refine wr Cx.cnt_cons ?_;exact Nat.le_add_left_of_le (by assumption)
  |R n t' p r=>
   have hcell:=h.cx.1.1;have nn:=h.nd n;rw[List.cons_append,Cx.cnt_cons,Fr.d0,if_pos (rfl:n=n)] at nn;refine bz hcell (bz hmid (Mi.aC ?_));show ok (bZ (.ref n) "total" _) _ H;refine cP hcell ?_;have f1:Fm (λx=>x=n) H (H.put n (iv (t'+m) p r.root t.root (Cx.par (d++c1)))):=.put h.wf hcell rfl;have g1:(H.put n (iv (t'+m) p r.root t.root (Cx.par (d++c1)))).at_ n=some (iv (t'+m) p r.root t.root (Cx.par (d++c1))):=wr aK (wr (if_pos rfl) rfl);generalize H.put n (iv (t'+m) p r.root t.root (Cx.par (d++c1)))=H1 at f1 g1;show ok (aV (.ref n) "parent") _ H1;refine aN g1 ?_;have ntr:tr≠n:=by rintro rfl;exact eS hcell h.tree
   have h1:St H1 tr (.R n (t'+m) p r::(d++c1)) t:=
    ⟨f1.wf,f1.at_ h.wf h.tree ntr,⟨⟨g1,h.cx.1.2.fm (q:=.none) h.wf f1 λx hx e=>by rw[e] at hx;lia⟩,h.cx.2.fm h.wf f1 λx hx e=>by rw[e] at hx;lia⟩,h.here.fm (q:=.none) h.wf f1 λx hx e=>by rw[e] at hx;lia,h.nd⟩
   refine ih h1.up ⟨p0,l0,r0,q0,f1.at_ h.wf hmid hne⟩ (by rw[Cx.cnt_cons] at hc;lia) λH2 h2 f2=>K H2 h2.E6 ((f1.aE λx q=>?_).trans (f2.aE λx q=>?_))
   .subst q;refine wr Cx.cnt_cons (wr Fr.d0 (wr (if_pos rfl) ?_));exact Nat.le_add_right_of_le (Nat.le_add_right _ _)
   .refine wr Cx.cnt_cons ?_;exact Nat.le_add_left_of_le (by assumption)
theorem drop_one {n:Nat}{tt own:Int}{p:V}{l r o:T}{c:Cx}(h:St H tr (Cx.bw (0-own) c) (.node n tt p l r)) (ho:o.At H (.ref n)) (hcnt:∀x,o.cnt x=l.cnt x+r.cnt x) (hk:o.ok) (hc:Cx.ok c tt) (hx:o.au=tt-own) (hs:o.size+Cx.size c+2<=1000)
  (K:∀H' T',St H' tr [] T'->T'.ok->T'.seq=Cx.pre c tt++o.seq++Cx.post c tt->Fm (TS tr c (.node n tt p l r)) H H'->Q .none H'):
  ok (ae (aa (k+4)) "put_in_stead" [.ref tr,.ref n,o.root]) (λu_ H=>ok (ae (aa (k+4)) "settle_up" [.ref tr,Cx.par c]) (λu_ H=>Q V.none H) H) H:=by
 have nd:=h.nd;have ndn:=nd n;rw[T.af,if_pos rfl] at ndn;refine eh (k:=k+3) (o:=o) h.wf h.here.1 h.tree h.cx ho (λx=>by have:=nd x;rw[T.af] at this;refine wr (hcnt _) ?_;lia) (by lia) λH1 t1 c1 o1 f1=>?_;have h1:St H1 tr (Cx.bw (0-own) c) o:=⟨f1.wf,t1,c1,o1,λx=>by have:=nd x;rw[T.af] at this;refine wr (hcnt _) ?_;lia⟩;have ex:o.au=tt+(0-own):=by lia
 have hok:(Cx.bR (Cx.bw (0-own) c) o).ok:=Cx.cN.mpr ⟨hk,by refine wr ex ?_;exact Cx.iC.mpr hc⟩;have:=qw (k:=k) (Q:=λu_ H=>Q .none H) h1 hok (by refine wr Cx.bX (wr Cx.hO ?_);exact hs) λH2 T' a b d f2=>K H2 T' a b (by exact wr d (wr Cx.eN (wr ex (wr Cx.iA (wr Cx.post_add rfl))))) ((f1.aE λx q=>?_).trans (f2.aE λx q=>?_))
 .rw[Cx.jz] at this;exact this
 .rcases q with(q|q)|q
  .exact .inl q
  .right;have:=Cx.jg q;rw[Cx.gQ] at this;exact Nat.le_add_left_of_le (by assumption)
  .right;have:=T.eD q;rw[hcnt] at this;refine wr T.af ?_;lia
 .rcases q with q|q
  .exact .inl q
  .right;rw[Cx.gQ,hcnt] at q;refine wr T.af ?_;lia
theorem G7 (h:Sq H tr (A++e::B)) (hb:(A++e::B).length+2<=1000) (K:∀H',Sq H' tr (A++B)->Fm (TL tr (A++e::B)) H H'->Q .none H'):ok (ae (aa (k+5)) "drop_interval" [.ref tr,.ref e.1]) Q H:=by
 obtain⟨c,tt,l,r,h1,h2,h3,h4,h5,h6,h7,h8⟩:=h.zip;have hsz:l.size+r.size+1+Cx.size c=(A++e::B).length:=by refine wr (h7.symm) (wr (T.k7.symm) (wr Cx.bX ?_));rfl
 refine P.pz<|aN h1.here.1<|gY (k:=k+2) h1.here ?_
 refine aT ?_;refine wr (h4.symm) ?_;refine iK (k:=k+2) h1.wf h1.cx (λx=>by have:=h1.nd x;exact Nat.le_trans (Nat.le_add_left _ _) (by assumption)) λH1 g1 f1=>?_;have g:=h1.raised f1 g1;have f1':Fm (TL tr (A++e::B)) H H1:=f1.aE λx q=>(h8 x).mp (.inr (by exact Nat.le_add_left_of_le (by assumption)));have key:∀H' T',St H' tr [] T'->T'.ok->T'.seq=Cx.pre c tt++(l.seq++r.seq)++Cx.post c tt->Fm (TS tr c (.node e.1 tt e.2.2 l r)) H1 H'->Q .none H':=λH' T' a b d f=>K H' ⟨T',a,b,by refine wr d (wr (h5.symm) (wr (h6.symm) ?_));simp⟩ (f1'.trans (f.aE λx q=>(h8 x).mp q));refine aN g.here.1 ?_;refine wr Cx.jz ?_;refine bC g.here.1 (fj ?_)
 rcases hl:l.nn with _|_
 .have hl':l=.nil:=by cases l with|nil=>rfl|node=>cases hl
  subst hl';have t0:T.nil.au=0:=rfl;refine bj g.here.1 (fj ?_);have fin:=drop_one (k:=k) (Q:=Q) (own:=e.2.1) (o:=r) g g.here.2.2 (λx=>by refine wr T.cnt_nil ?_;lia) h2.2.2 h3 (by lia) (by lia) λH' T' a b d f=>key H' T' a b (by refine wr d ?_;rfl) f
  rcases hr:r.nn with _|_
  .have hr':r=.nil:=by cases r with|nil=>rfl|node=>cases hr
   subst hr';refine bC g.here.1<|fin
  .dsimp only[cond,Bool.not];refine bj g.here.1<|fin
 .dsimp only[cond,Bool.not];refine bj g.here.1 (fj ?_)
  rcases hr:r.nn with _|_
  .have hr':r=.nil:=by cases r with|nil=>rfl|node=>cases hr
   subst hr';have t0:T.nil.au=0:=rfl;refine bj g.here.1 (fj ?_);refine bC g.here.1 ?_;exact drop_one (k:=k) (Q:=Q) (own:=e.2.1) (o:=l) g g.here.2.1 (λx=>by refine wr T.cnt_nil ?_;lia) h2.2.1 h3 (by lia) (by lia) λH' T' a b d f=>key H' T' a b (by refine wr d ?_;rw[show T.nil.seq=[] from rfl,List.append_nil]) f
  .dsimp only[cond,Bool.not];refine bC g.here.1 (bj g.here.1 ?_);refine jb (k:=k+3) hr g.here.2.2<|bj g.here.1 ?_
   have nd:=g.nd;have ndn:=nd e.1;rw[T.af,if_pos rfl] at ndn;generalize hc1:Cx.bw (0-e.2.1) c=c1 at g nd ndn;have hpar:Cx.par c1=Cx.par c:=wr (hc1.symm) (wr Cx.jz rfl);refine eh (k:=k+3) (o:=r) g.wf g.here.1 g.tree g.cx g.here.2.2 (λx=>by have:=nd x;rw[T.af] at this;lia) (by lia) λH2 t2 c2 r2 f2=>?_;have g2:St H2 tr c1 r:=⟨f2.wf,t2,c2,r2,λx=>by have:=nd x;rw[T.af] at this;lia⟩;have ltr:=g.here.2.1.off g.tree;have l2:l.At H2 (.ref e.1):=g.here.2.1.fm (q:=.none) g.wf f2 λx hx q=>by
    have:=nd x;rw[T.af] at this
    rcases q with(q|q)|q
    .subst q;lia
    .have:=Cx.jg q;lia
    .have:=T.eD q;lia
   have g3:=g2.lz;refine tX (T.vV (c:=c1) hr) λt' p' r' c' hlz=>?_;have hcnt:∀x,Cx.cnt x (T.lz c1 r)=r.cnt x+Cx.cnt x c1:=λx=>by
    have:=congrArg (T.cnt x) (T.lH (t:=r) (c:=c1));rw[Cx.dz,Cx.dz,T.cnt_nil] at this;lia
   have g3':=g3;rw[hlz] at g3';have hfst:1<=Cx.cnt r.fst (T.lz c1 r):=by refine wr hlz (wr Cx.cnt_cons (wr Fr.cZ (wr (if_pos rfl) ?_)));exact Nat.le_add_right_of_le (Nat.le_add_right _ _)
   have nfst:=nd r.fst;rw[T.af] at nfst;have hfst':=hcnt r.fst;refine gL (k:=k+3) (o:=l) g2.wf g3'.cx.1.1 l2 (by lia) (λx=>by have:=nd x;rw[T.af] at this;lia) λH3 n3 l3 f3=>?_;have nS:∀{x},x≠r.fst->l.cnt x=0->¬(x=r.fst\/l.isRoot x):=λa b q=>by
    rcases q with q|q
    .exact a q
    .exact T.gw b q
   have nfr:=g3'.nd r.fst;rw[Cx.cnt_cons,Fr.cZ,if_pos (rfl:r.fst=r.fst)] at nfr;have trr:tr≠r.fst:=by intro q;exact eS g3'.cx.1.1 (q▸g2.tree)
   have hsub:∀x,Cx.cnt x (.L r.fst t' p' r'::c')=r.cnt x+Cx.cnt x c1:=λx=>by refine wr (hlz.symm) ?_;exact hcnt x
   have g4:St H3 tr (.L r.fst t' p' r'::c') l:=by
    refine⟨f3.wf,f3.at_ g2.wf g3'.tree (nS trr ltr),⟨⟨n3,g3'.cx.1.2.fm (q:=.none) g2.wf f3 λx hx=>nS (by rintro rfl;lia) ?_⟩,g3'.cx.2.fm g2.wf f3 λx hx=>nS (by rintro rfl;lia) ?_⟩,l3,λx=>?_⟩
    .have:=nd x;have:=hsub x;rw[T.af] at*;rw[Cx.cnt_cons,Fr.cZ] at*;lia
    .have:=nd x;have:=hsub x;rw[T.af] at*;rw[Cx.cnt_cons,Fr.cZ] at*;lia
    .have:=nd x;refine wr (hsub x) ?_;rw[T.af] at this;lia
   rw[<-hlz,T.ng] at g4
   rcases l with _|⟨ln,lt,lp,ll,lr⟩
   .cases hl
   .have hdl:Cx.cnt ln (T.lz [] r)=0:=by
     have a1:=hcnt ln;rw[T.ng,Cx.pR] at a1;have:=nd ln;rw[T.af,T.af,if_pos (rfl:ln=ln)] at this;lia
    have hpar2:Cx.par (T.lz [] r++c1)=.ref r.fst:=by refine wr (T.ng.symm) (wr hlz ?_);rfl
    have loop:=Dc (k:=k+4) (m:=lt) (mid:=ln) (nV:=.ref e.1) (o1:=none) (c1:=c1) (d:=T.lz [] r) (t:=.node ln lt lp ll lr) (H:=H3) (Q:=λr32 H=>eA r32.1 (bU (aa (k+4)) (fD "drop_interval") 7 [8] r32.2 (fin Q) H) (λv=>(fin Q) (Fl.ret v) r32.2 H)) g4 ⟨_,_,_,_,l3.1⟩ hdl λH4 h4 f4=>?_
    .rw[hpar2,hpar] at loop;exact loop
    .show bU _ _ _ _ _ _ H4;refine P.nR<|aN h4.here.1 ?_
     have hm:Cx.bw lt (T.lz [] r)++c1=Cx.bw lt (T.lz (Cx.bw (0-lt) c1) r):=by
      exact wr (T.ng (c:=Cx.bw (0-lt) c1)) (wr Cx.rV (wr Cx.jJ (wr (show 0-lt+lt=0 by lia) (wr Cx.nY rfl))))
     have hc2:Cx.bw (0-lt) c1=Cx.bw (0-e.2.1+(0-lt)) c:=wr (hc1.symm) (wr Cx.jJ rfl);have hown:e.2.1=tt-lt-r.au:=by assumption
     have hrt:r.au=tt+(0-e.2.1+(0-lt)):=by lia
     have hX:Cx.pre (T.lz (Cx.bw (0-lt) c1) r) 0=Cx.pre c tt/\Cx.post (T.lz (Cx.bw (0-lt) c1) r) 0=r.seq++Cx.post c tt/\Cx.ok (T.lz (Cx.bw (0-lt) c1) r) 0:=by
      have a:=T.Eu (t:=r) (c:=Cx.bw (0-lt) c1);refine⟨a.1.trans ?_,a.2.trans ?_,?_⟩
      .exact wr hc2 (wr hrt (wr Cx.iA rfl))
      .exact wr hc2 (wr hrt (wr Cx.post_add rfl))
      .have b:(Cx.bR (T.lz (Cx.bw (0-lt) c1) r) .nil).ok:=by
        refine wr T.lH<|Cx.cN.mpr ⟨h2.2.2,?_⟩
        refine wr hc2 (wr hrt ?_);exact Cx.iC.mpr h3
       exact(Cx.cN.mp b).2
     have el:(T.node ln lt lp ll lr).au=0+lt:=by show lt=0+lt;lia
     rw[hm] at h4⊢;have hok4:(Cx.bR (Cx.bw lt (T.lz (Cx.bw (0-lt) c1) r)) (.node ln lt lp ll lr)).ok:=by
      refine Cx.cN.mpr ⟨h2.2.1,?_⟩;refine wr el ?_;exact Cx.iC.mpr hX.2.2
     have hszX:Cx.size (T.lz (Cx.bw (0-lt) c1) r)=r.size+Cx.size c:=by
      have:=congrArg T.size (T.lH (t:=r) (c:=Cx.bw (0-lt) c1));rw[Cx.bX,Cx.bX,hc2,Cx.hO] at this;have t0:T.nil.size=0:=rfl;refine wr hc2 ?_;lia
     refine qw (k:=k) h4 hok4 (by refine wr Cx.bX (wr Cx.hO (wr hszX ?_));lia) λH5 T' b1 b2 b3 f5=>key H5 T' b1 b2 ?_ ?_
     .refine wr b3 (wr Cx.eN (wr el (wr Cx.iA (wr Cx.post_add (wr hX.1 (wr hX.2.1 ?_))))));simp
     .have cc:∀x,Cx.cnt x c1=Cx.cnt x c:=λx=>by exact wr (hc1.symm) (wr Cx.gQ rfl)
      have cd:∀x,Cx.cnt x (T.lz [] r)=r.cnt x:=λx=>by
       have:=congrArg (T.cnt x) (T.lH (t:=r) (c:=[]));rw[Cx.dz,Cx.dz,T.cnt_nil,Cx.cnt_nil] at this;lia
      refine(((f2.aE λx q=>?_).trans (f3.aE λx q=>?_)).trans (f4.aE λx q=>?_)).trans (f5.aE λx q=>?_)
      .rcases q with(q|q)|q
       .exact .inl q
       .right;have:=Cx.jg q;rw[cc] at this;exact Nat.le_add_left_of_le (by assumption)
       .right;have:=T.eD q;refine wr T.af ?_;exact Nat.le_add_right_of_le (Nat.le_add_left_of_le (by assumption))
      .rcases q with q|q
       .subst q;right;have:=cc r.fst;refine wr T.af ?_;lia
       .right;have:=T.eD q;refine wr T.af ?_;lia
      .right;rw[cd] at q;refine wr T.af ?_;exact Nat.le_add_right_of_le (Nat.le_add_left_of_le (by assumption))
      .rcases q with q|q
       .exact .inl q
       .right
        rw[<-hm,Cx.pR,Cx.gQ,cd,cc] at q;refine wr T.af ?_;lia
end
end Mi
namespace Mi
open PySem
noncomputable def chars:List E3->List V
 |[]=>[]
 |e::l=>List.replicate e.2.1.toNat e.2.2++chars l
theorem bP:∀{a b:List E3},chars (a++b)=chars a++chars b
 |[],b=>rfl
 |e::a,b=>by show List.replicate _ _++chars (a++b)=List.replicate _ _++chars a++chars b;refine wr bP ?_;simp
theorem fX:∀{l:List E3},(∀e∈l,0<e.2.1)->((chars l).length:Int)=aI l
 |[],_=>rfl
 |e::l,h=>by
  show((List.replicate e.2.1.toNat e.2.2++chars l).length:Int)=e.2.1+aI l;have h1:=h e List.mem_cons_self;have:=fX (l:=l) λx hx=>h x (List.mem_cons_of_mem _ hx);refine wr List.length_append (wr List.length_replicate ?_);lia
theorem e9:∀{l:List E3},(∀e∈l,0<e.2.1)->0<=aI l
 |[],_=>Int.le_refl 0
 |e::l,h=>by
  have h1:=h e List.mem_cons_self;have:=e9 (l:=l) λx hx=>h x (List.mem_cons_of_mem _ hx);show 0<=e.2.1+aI l;lia
theorem place:∀{L:List E3} {at_:Int},(∀e∈L,0<e.2.1)->0<=at_->at_<aI L->∃A e B,L=A++e::B/\aI A<=at_/\at_<aI A+e.2.1
 |[],at_,_,h1,h2=>by have:at_<0:=h2;lia
 |e::L,at_,hp,h1,h2=>by
  have h2:at_<e.2.1+aI L:=h2
  by_cases q:at_<e.2.1
  .exact⟨[],e,L,rfl,h1,by show at_<0+e.2.1;lia⟩
  .refine eK (place (L:=L) (at_:=at_-e.2.1) (λx hx=>hp x (List.mem_cons_of_mem _ hx)) (by lia) (by lia)) λA x B e1 e2 e3=>?_;exact⟨e::A,x,B,by refine wr e1 ?_;rfl,by show e.2.1+aI A<=at_;lia,by show at_<e.2.1+aI A+x.2.1;lia⟩
structure Cut (n0:Nat) (L:List E3) (at_:Int) (A B:List E3):Prop where
 chars:chars (A++B)=chars L
 sum:aI A=at_
 ids:∀e∈A++B,e.1∈L.map (·.1)\/n0<=e.1
 len:(A++B).length<=L.length+1
 has:∀i∈L.map (·.1),i∈(A++B).map (·.1)
 ext:∀X Y,L=X++Y->aI X<=at_->∃Z,A=X++Z
theorem Cy {A B X Y:List E3}(hp:∀e∈A++B,0<e.2.1) (h:A++B=X++Y) (hs:aI X<=aI A):∃Z,A=X++Z:=by
 rcases List.append_eq_append_iff.mp h with⟨c,h1,h2⟩|⟨c,h1,h2⟩
 .rcases c with _|⟨e,c⟩
  .exact⟨[],by refine wr h1 ?_;simp⟩
  .have:=hp e (by refine wr h2 ?_;simp);have:=e9 (l:=c) λx hx=>hp x (by refine wr h2 ?_;simp[hx]);have e1:aI X=aI A+(e.2.1+aI c):=by refine wr h1 (wr dx ?_);rfl
   lia
 .exact⟨c,h1⟩
theorem Ec {A B X Y:List E3}{e:E3}{at_:Int}(hp:∀x∈A++e::B,0<x.2.1) (h:A++e::B=X++Y) (h1:aI X<=at_) (h2:at_<aI A+e.2.1):∃Z,A=X++Z:=by
 rcases List.append_eq_append_iff.mp h with⟨c,g1,g2⟩|⟨c,g1,g2⟩
 .rcases c with _|⟨d,c⟩
  .exact⟨[],by refine wr g1 ?_;simp⟩
  .refine xA (List.cons.inj g2) λz1 g3=>?_;subst z1;have:=e9 (l:=c) λx hx=>hp x (by refine wr g3 ?_;simp[hx]);have e1:aI X=aI A+(e.2.1+aI c):=by refine wr g1 (wr dx ?_);rfl
   lia
 .exact⟨c,g1⟩
section
variable {H H':AH}{S:Nat->Prop}{k:Nat}{Q:KV}{QB:KB}{tab:Tab}{tr:Nat}{L A B:List E3}{e:E3}
theorem dO {c:Str}{g:List V->AM V}{args:List V}(h:ok (g (.ref H.nx::args)) (λv H'=>v=.none/\Q (.ref H.nx) H') (H.add (.inst c []))):ok (mkObj c g args) Q H:=by
 unfold mkObj;refine ah<|aB rfl<|ah (az h λv H' q=>?_)
 obtain⟨rfl,q⟩:=q;exact aq q
theorem pJ {n:Nat}{o o':O}:(H.put n o).put n o'=H.put n o':=by
 show AH.mk _ _=AH.mk _ _
 congr 1
 funext m
 show(bif Nat.beq m n then some o' else(bif Nat.beq m n then some o else H.at_ m))=_
 induction (Nat.beq m n)<;>rfl
theorem Fm.bG {S':Nat->Prop}{H'':AH}(x:Fm S H H') (y:Fm S' H' H'') (h:∀m,m<H.nx->S' m->S m):Fm S H H'':=
 ⟨y.wf,Nat.le_trans x.nx y.nx,λm hl hm=>(y.keep m (Nat.lt_of_lt_of_le hl x.nx) λq=>hm (h m hl q)).trans (x.keep m hl hm)⟩
theorem EB {t:Int}{p:V}(w:Wf H) (K:∀H',H'.at_ H.nx=some (iv t p .none .none .none)->H.nx<H'.nx->Fm (λu_=>False) H H'->Q (.ref H.nx) H'):ok (ae (aa (k+1)) "Interval" [.int t,p]) Q H:=by
 refine P.AV (dO (P.pB ?_));have at0:∀{o:O},(H.add o).at_ H.nx=some o:=λ{o}=>by exact wr bq (wr (if_pos rfl) rfl)
 have pa:∀{H:AH} {n:Nat} {o:O},(H.put n o).at_ n=some o:=λ{H n o}=>by exact wr aK (wr (if_pos rfl) rfl)
 refine eP at0 (by kernel_rfl) (by kernel_rfl) (eP pa (by kernel_rfl) (by kernel_rfl) (eP pa (by kernel_rfl) (by kernel_rfl) (eP pa (by kernel_rfl) (by kernel_rfl) (eP pa (by kernel_rfl) (by kernel_rfl) ?_))));refine wr pJ (wr pJ (wr pJ (wr pJ ?_)));refine⟨rfl,K _ ?_ (Nat.lt_succ_self _) ⟨Wf.put (o':=.inst "Interval" []) w.add at0,Nat.le_succ _,λm hm u_=>by exact wr aK (wr (if_neg (Nat.ne_of_lt hm)) (wr bq (wr (if_neg (Nat.ne_of_lt hm)) rfl)))⟩⟩;refine wr pa<|congrArg some (show _=iv t p .none .none .none by kernel_rfl)
theorem Sq.fresh (h:Sq H tr L) {i:Nat}(hi:i∈L.map (·.1)):i<H.nx:=by
 refine fM (h.live hi) λu_ u_ u_ u_ u_ e=>?_;exact h.wf.lt e
theorem Sq.J0 (h:Sq H tr L):tr<H.nx:=by
 refine xE h.tree λu_ e=>?_;exact h.wf.lt e
theorem KQ (h:Sq H tr L) {m:Nat}(x:TL tr L m):m<H.nx:=by
 rcases x with x|x
 .subst x;exact h.J0
 .exact h.fresh x
theorem Cut.whole (n0:Nat) {A B:List E3}(hp:∀e∈A++B,0<e.2.1):Cut n0 (A++B) (aI A) A B:=⟨rfl,rfl,λe he=>.inl (List.mem_map_of_mem he),by lia,λu_ h=>h,λu_ u_ h hs=>Cy hp h hs⟩
theorem item_tup {x:Nat}{i:Int}{l:List V}{v:V}(h:H.at_ x=some (.tup l)) (hi:¬i<0) (hv:l[i.toNat]? =some v) (K:Q v H):ok (gn (.ref x) (.int i)) Q H:=by
 unfold gn;refine ah ⟨.tup l,H,by unfold look;exact wr h rfl,?_⟩;dsimp only;refine wr (if_neg hi) (wr hv ?_);exact aq K
theorem item_list {x:Nat}{i:Int}{l:List V}{v:V}(h:H.at_ x=some (.list l)) (hi:¬i<0) (hv:l[i.toNat]? =some v) (K:Q v H):ok (gn (.ref x) (.int i)) Q H:=by
 unfold gn;refine ah ⟨.list l,H,by unfold look;exact wr h rfl,?_⟩;dsimp only;refine wr (if_neg hi) (wr hv ?_);exact aq K
theorem eL {x:Nat}{a b:V}{P:V->V->Prop}(h:H.at_ x=some (.tup [a,b])) (K:P a b):tZ (.ref x) P H:=⟨_,_,_,rfl,h,K⟩
theorem ql {at_:Int}(h:Sq H tr L) (h0:0<=at_) (h1:at_<=aI L) (hb:L.length+4<=1000)
  (K:∀H' A B,Sq H' tr (A++B)->Cut H.nx L at_ A B->Fm (TL tr L) H H'->Q .none H'):ok (ae (aa (k+6)) "split_at" [.ref tr,.int at_]) Q H:=by
 refine P.zA<|cU ?_
 by_cases q0:0<at_
 case neg=>
  refine aJ (decide_eq_false q0) ?_;have:at_=0:=by lia
  subst this;exact K H [] L h (Cut.whole (A:=[]) (B:=L) _ h.pos) (.refl h.wf)
 refine aM (decide_eq_true q0)<|mJ (k:=k+3) h<|cU ?_
 by_cases q1:at_<aI L
 case neg=>
  refine jG (decide_eq_false q1) ?_;have:at_=aI L:=by lia
  subst this;have:=K H L [] (by refine wr (List.append_nil _) ?_;exact h) (by have:=Cut.whole (A:=L) (B:=[]) H.nx (by refine wr (List.append_nil _) ?_;exact h.pos);rwa [List.append_nil] at this) (.refl h.wf);exact this
 refine iI (decide_eq_true q1) ?_;refine eK (place h.pos h0 q1) λA e B z3 g1 g2=>?_;subst z3;refine ir (k:=k+2) h g1 g2 λH1 x hx f1=>?_;have s1:Sq H1 tr (A++e::B):=h.fm f1 λu_ u_ q=>q;refine eL hx<|ej ?_
 by_cases q2:aI A=at_
 .subst q2;refine aM (show(aI A==aI A)=true from beq_self_eq_true _)<|K H1 A (e::B) s1 (Cut.whole _ s1.pos) (f1.aE λu_ q=>q.elim)
 refine aJ (show(aI A==at_)=false from beq_eq_false_iff_ne.mpr q2)<|vh (k:=k+3) s1<|aT (aT (aT ?_))
 have er:e.2.1+(0-(e.2.1-(at_-aI A)))=at_-aI A:=by lia
 refine A5 (k:=k+3) s1 (by lia) λH2 s2 f2=>?_;rw[er] at s2;refine wr (show V.ref e.1=V.ref (e.1,at_-aI A,e.2.2).1 from rfl) ?_;refine fe s2 ?_;refine EB (k:=k+4) s2.wf λH3 hf nx3 f3=>?_;have s3:Sq H3 tr (A++(e.1,at_-aI A,e.2.2)::B):=s2.fm f3 λu_ u_ q=>q;have hfr:H2.nx∉(A++(e.1,at_-aI A,e.2.2)::B).map (·.1):=λq=>Nat.lt_irrefl _ (s2.fresh q);have mapeq:(A++(e.1,at_-aI A,e.2.2)::B).map (·.1)=(A++e::B).map (·.1):=by simp
 refine mK (k:=k) s3 hf hfr (by lia) (by simp at hb⊢;exact Nat.le_add_left_of_le (by assumption)) λH4 s4 f4=>?_;have le2:H.nx<=H2.nx:=Nat.le_trans f1.nx f2.nx;refine K H4 (A++[(e.1,at_-aI A,e.2.2)]) ((H2.nx,e.2.1-(at_-aI A),e.2.2)::B) (by refine wr (List.append_assoc _ _ _) ?_;exact s4) ⟨?_,?_,?_,?_,?_,λX Y hX hs=>(Ec h.pos hX hs g2).imp' (·++[(e.1,at_-aI A,e.2.2)]) λZ hZ=>by refine wr hZ ?_;simp⟩ ?_
 .have e1:e.2.1.toNat=(at_-aI A).toNat+(e.2.1-(at_-aI A)).toNat:=(congrArg Int.toNat (show e.2.1=(at_-aI A)+(e.2.1-(at_-aI A)) by lia)).trans (Int.toNat_add (by lia) (by lia));refine wr bP (wr bP (wr bP ?_));show chars A++(List.replicate _ _++[])++(List.replicate _ _++chars B)=chars A++(List.replicate _ _++chars B);dsimp only;exact wr e1 (wr (List.replicate_append_replicate.symm) (wr (List.append_nil _) (wr (List.append_assoc _ _ _) (wr (List.append_assoc _ _ _) rfl))))
 .refine wr dx ?_;show aI A+(at_-aI A+0)=at_;lia
 .intro x hx;simp only[List.append_assoc,List.mem_append,List.mem_cons,List.not_mem_nil,or_false] at hx
  rcases hx with hx|hx|hx|hx
  .left;exact List.mem_map_of_mem (List.mem_append_left _ hx)
  .left;subst hx;simp
  .right;subst hx;exact le2
  .left;exact List.mem_map_of_mem (List.mem_append_right _ (List.mem_cons_of_mem _ hx))
 .simp;exact Nat.le_refl _
 .intro i hi;rw[<-mapeq] at hi;simp only[List.map_append,List.map_cons,List.mem_append,List.mem_cons,List.map_nil,List.append_assoc,List.not_mem_nil,or_false] at hi⊢
  rcases hi with hi|hi|hi
  .exact .inl hi
  .exact .inr (.inl hi)
  .exact .inr (.inr (.inr hi))
 .refine(((f1.aE λu_ q=>q.elim).trans (f2.aE λx q=>q)).trans (f3.aE λu_ q=>q.elim)).bG f4 λm hm q=>?_
  rcases q with q|q
  .rcases q with q|q
   .exact .inl q
   .exact .inr (by rw[mapeq] at q;exact q)
  .lia
theorem C1 {at_ many:Int}{pl:V}(h:Sq H tr L) (h0:0<=at_) (h1:at_<=aI L) (hm:0<many) (hb:L.length+5<=1000)
  (K:∀H' A B fr,Sq H' tr (A++(fr,many,pl)::B)->Cut H.nx L at_ A B->H.nx<=fr->Fm (TL tr L) H H'->Q .none H'):ok (ae (aa (k+7)) "insert_interval" [.ref tr,.int at_,.int many,pl]) Q H:=by
 refine P.lP ?_;refine ej ?_;refine aJ (show(many==0)=false from beq_eq_false_iff_ne.mpr (by lia)) ?_;refine EB (k:=k+5) h.wf λH1 hf nx1 f1=>?_;have s1:Sq H1 tr L:=h.fm f1 λu_ u_ q=>q;refine be s1 λT1 t1 k1 e1=>?_;have s1:Sq H1 tr L:=⟨T1,t1,k1,e1⟩;refine kU t1.tree<|fj ?_
 rcases hn:T1.nn with _|_
 .have hT:T1=.nil:=by induction T1 with|nil=>rfl|node=>exact tf hn
  subst hT;have hL:L=[]:=e1.symm;subst hL;refine oz t1.tree ?_;have h1:at_<=0:=h1;have:at_=0:=by lia
  subst this;have ntr:H.nx≠tr:=Nat.ne_of_gt h.J0;refine K _ [] [] H.nx ⟨leaf H.nx many pl,⟨t1.wf.put t1.tree,by refine wr aK (wr (if_pos rfl) ?_);rfl,trivial,⟨by refine wr aK (wr (if_neg ntr) ?_);exact hf,trivial,trivial⟩,λx=>?_⟩,⟨by show 0<many-0-0;lia,trivial,trivial⟩,?_⟩
   ⟨rfl,rfl,λu_ h=>(nomatch h),by simp,λu_ h=>h,λX Y h u_=>⟨[],by induction X with|nil=>rfl|cons=>cases h⟩⟩ (Nat.le_refl _) ((f1.aE λu_ q=>q.elim).trans (.put t1.wf t1.tree (.inl rfl)))
  .show(if x=H.nx then 1 else 0)+0+0+0<=1
   split<;>lia
  .show[(H.nx,many-0-0,pl)]=[(H.nx,many,pl)];exact wr (show many-0-0=many by lia) rfl
 .dsimp only[cond,Bool.not];refine ql (k:=k) s1 h0 h1 (by exact Nat.le_of_lt (by assumption)) λH2 A B s2 cut f2=>?_;have hf2:H2.at_ H.nx=some (iv many pl .none .none .none):=f2.at_ s1.wf hf λq=>by
   have q:TL tr L H.nx:=q;exact absurd (KQ h q) (Nat.lt_irrefl _)
  have hfr:H.nx∉(A++B).map (·.1):=λq=>by
   refine bW (List.mem_map.mp q) λe he hq=>?_
   rcases cut.ids e he with c|c
   .rw[hq] at c;exact absurd (h.fresh c) (Nat.lt_irrefl _)
   .lia
  have cut':Cut H.nx L at_ A B:=⟨cut.chars,cut.sum,λe he=>(cut.ids e he).imp_right λq=>by lia,cut.len,cut.has,cut.ext⟩;have ids2:∀x,x<H.nx->TL tr (A++B) x->TL tr L x:=λx hx q=>by
   rcases q with q|q
   .exact .inl q
   .refine bW (List.mem_map.mp q) λe he hq=>?_
    rcases cut.ids e he with c|c
    .rw[hq] at c;exact .inr c
    .lia
  have f12:Fm (TL tr L) H H2:=(f1.aE λu_ q=>q.elim).trans f2;refine mJ (k:=k+4) s2<|ej ?_
  rcases B with _|⟨e,B⟩
  .rw[List.append_nil] at s2 hfr ids2;refine wr (List.append_nil _) ?_;refine aM (show(at_==aI A)=true from beq_iff_eq.mpr cut.sum.symm) ?_;refine be s2 λT2 t2 k2 e2=>kU t2.tree ?_;have hne:T2.nn=true:=by
    rcases T2 with _|_
    .have hA:A=[]:=e2.symm;have:=cut.has;rw[hA] at this;have hL:L=[]:=by
      rcases L with _|⟨x,L⟩
      .rfl
      .exact absurd (this x.1 (by simp)) (by simp)
     rw[hL] at e1
     rcases T1 with _|_
     .exact nb hn
     .exact absurd e1 (by show _++_::_≠[];simp)
    .rfl
   refine lB (k:=k+5) hne t2.here<|zj (T.vZ hne) λown p B hb2=>?_
   have hA:A=B++[(T2.lst,own,p)]:=e2.symm.trans hb2;have s2:Sq H2 tr (B++(T2.lst,own,p)::[]):=hA▸⟨T2,t2,k2,e2⟩;refine mK (k:=k+1) (A:=B) (e:=(T2.lst,own,p)) (B:=[]) s2 hf2 (by refine wr (hA.symm) ?_;exact hfr) hm (by refine wr (hA.symm) ?_;have:=cut.len;simp at this;lia) λH3 s3 f3=>?_;refine K H3 A [] H.nx (by refine wr hA (wr (List.append_assoc _ _ _) ?_);exact s3) cut' (Nat.le_refl _) (f12.bG f3 λx hx q=>?_)
   rcases q with q|q
   .exact ids2 x hx (by refine wr hA ?_;exact q)
   .lia
  .have hpos:=s2.pos e (by simp);have hnn:=e9 (l:=B) λx hx=>s2.pos x (by simp[hx]);have hs:aI (A++e::B)=at_+(e.2.1+aI B):=by refine wr dx (wr cut.sum ?_);rfl
   refine aJ (show(at_==aI (A++e::B))=false from beq_eq_false_iff_ne.mpr (by lia)) ?_;refine ir (k:=k+3) s2 (by refine wr cut.sum ?_;lia) (by refine wr cut.sum ?_;lia) λH3 x hx f3=>?_;have s3:=s2.fm f3 λu_ u_ q=>q;have hf3:=f3.at_ s2.wf hf2 λq=>q;refine item_tup hx (by decide) rfl ?_;refine DT (k:=k) s3 hf3 hfr hm (by have:=cut.len;lia) λH4 s4 f4=>?_;refine K H4 A (e::B) H.nx s4 cut' (Nat.le_refl _) ((f12.trans (f3.aE λu_ q=>q.elim)).bG f4 λy hy q=>?_)
   rcases q with q|q
   .exact ids2 y hy q
   .lia
end
end Mi
namespace Mi
open PySem
set_option genInjectivity true in
inductive PV where
 |none
 |tt
 |int (i:Int)
 |lst (l:List Int)
deriving DecidableEq
noncomputable abbrev aO:=List (Int×PV)
noncomputable abbrev gF (H:AH):List V->List Int->Prop:=aS λv i=>∃m,v=.ref m/\H.at_ m=some (.tup [.str "symbol",.int i])
noncomputable def VP (H:AH):V->PV->Prop
 |.none,.none=>True
 |.bool b,.tt=>b=true
 |.int i,.int j=>i=j
 |.ref m,.lst l=>∃vs,H.at_ m=some (.tup (.str "list"::vs))/\gF H vs l/\l.length<=100
 |_,_=>False
noncomputable abbrev zd (H:AH):List V->aO->Prop:=aS λv e=>∃m a,v=.ref m/\H.at_ m=some (.tup [.int e.1,a])/\VP H a e.2
def PL (H:AH) (n:Nat) (p:aO):Prop:=∃vs,H.at_ n=some (.list vs)/\zd H vs p/\p.length<=100
noncomputable abbrev Up (H H':AH):Prop:=Fm (λu_=>False) H H'
section
variable {H H':AH}{S:Nat->Prop}{k:Nat}{Q:KV}{QB:KB}{tab:Tab}
def TK (H H':AH):Prop:=∀m l,H.at_ m=some (.tup l)->H'.at_ m=some (.tup l)
theorem TK.of (w:Wf H) (f:Fm S H H') (hs:∀m l,H.at_ m=some (.tup l)->¬S m):TK H H':=λm l h=>f.at_ w h (hs m l h)
theorem Up.tk (w:Wf H) (f:Up H H'):TK H H':=.of w f λu_ u_ u_ q=>q
theorem gF.tk (t:TK H H') {vs:List V}{l:List Int}(x:gF H vs l):gF H' vs l:=aS.mono (λu_ u_ q=>q.imp λu_ q=>⟨q.1,t _ _ q.2⟩) x
theorem VP.tk (t:TK H H') {v:V}{x:PV}(h:VP H v x):VP H' v x:=by
 induction v<;>induction x<;>try exact h
 refine be h λvs a b c=>⟨vs,t _ _ a,b.tk t,c⟩
theorem zd.tk (t:TK H H') {vs:List V}{p:aO}(x:zd H vs p):zd H' vs p:=aS.mono (λu_ u_ q=>q.imp λu_ q=>q.imp λu_ q=>⟨q.1,t _ _ q.2.1,q.2.2.tk t⟩) x
theorem PL.keep {n:Nat}{p:aO}(t:TK H H') (hn:∀l,H.at_ n=some (.list l)->H'.at_ n=some (.list l)) (h:PL H n p):PL H' n p:=by
 refine be h λvs a b c=>?_;exact⟨vs,hn _ a,b.tk t,c⟩
theorem PL.up {n:Nat}{p:aO}(w:Wf H) (f:Up H H') (h:PL H n p):PL H' n p:=h.keep (Up.tk w f) λl e=>f.at_ w e λq=>q
theorem VP.up {v:V}{x:PV}(w:Wf H) (f:Up H H') (h:VP H v x):VP H' v x:=h.tk (Up.tk w f)
theorem gF.len {vs:List V}{l:List Int}(x:gF H vs l):vs.length=l.length:=aS.len x
theorem zd.len {vs:List V}{p:aO}(x:zd H vs p):vs.length=p.length:=aS.len x
theorem zd.get {vs:List V}{p:aO}(x:zd H vs p) {i:Nat}{v:V}(e:vs[i]? =some v):∃m a e,v=.ref m/\p[i]? =some e/\H.at_ m=some (.tup [.int e.1,a])/\VP H a e.2:=AW (aS.got x e) λe h m a e1 e2 e3=>⟨m,a,e,e1,h,e2,e3⟩
theorem gF.get {vs:List V}{p:List Int}(x:gF H vs p) {i:Nat}{v:V}(e:vs[i]? =some v):∃m e,v=.ref m/\p[i]? =some e/\H.at_ m=some (.tup [.str "symbol",.int e]):=Hx (aS.got x e) λe h m e1 e2=>⟨m,e,e1,h,e2⟩
theorem dK {n:Nat}{o:O}{Q:O->AH->Prop}(h:H.at_ n=some o) (K:Q o H):ok (look n) Q H:=⟨o,H,by unfold look;exact wr h rfl,K⟩
theorem hW {v:V}{x:PV}(h:VP H v x) (K:Q (.bool (decide (x=.tt))) H):ok (isType "bool" v) Q H:=by
 have e1:(("bool":Str)==("tuple":Str))=false:=by kernel_rfl
 have e2:(("bool":Str)==("bool":Str))=true:=by kernel_rfl
 induction v<;>induction x<;>try exact h.elim
 .unfold isType;dsimp only;refine wr e1 (wr e2 ?_);exact aq K
 .unfold isType;dsimp only;refine wr e1 (wr e2 ?_);exact aq K
 .unfold isType;dsimp only;refine wr e1 (wr e2 ?_);exact aq K
 .refine be h λvs a b c=>?_;unfold isType;refine ah (dK a ?_);refine wr e1 (wr e2 ?_);exact aq K
noncomputable def PV.Kv:PV->Bool
 |.lst _=>true
 |_=>false
theorem Av {v:V}{x:PV}(h:VP H v x) (K:Q (.bool x.Kv) H):ok (isType "tuple" v) Q H:=by
 have e1:(("tuple":Str)==("tuple":Str))=true:=by kernel_rfl
 induction v<;>induction x<;>try exact h.elim
 .unfold isType;dsimp only;refine wr e1 ?_;exact aq K
 .unfold isType;dsimp only;refine wr e1 ?_;exact aq K
 .unfold isType;dsimp only;refine wr e1 ?_;exact aq K
 .refine be h λvs a b c=>?_;unfold isType;refine ah (dK a ?_);refine wr e1 ?_;exact aq K
theorem BA {n:Nat}:∀{vs ws:List V} {l m:List Int},gF H vs l->gF H ws m->∃r,ax (eT (n+2) H) vs ws=some r/\(r&&decide (vs.length=ws.length))=decide (l=m):=by
 intro vs
 induction vs with
 |nil=>
  intro ws l m x y
  rcases l with _|⟨i,l⟩
  case cons=>exact x.elim
  rcases m with _|⟨j,m⟩<;>rcases ws with _|⟨w,ws⟩<;>first|exact y.elim|exact⟨true,rfl,by simp⟩
 |cons v vs ih=>
  intro ws l m x y
  rcases l with _|⟨i,l⟩
  .exact x.elim
  rcases m with _|⟨j,m⟩
  .rcases ws with _|⟨w,ws⟩
   .exact⟨true,rfl,by simp⟩
   .exact y.elim
  rcases ws with _|⟨w,ws⟩
  .exact y.elim
  refine xA x λp1 r1=>xA y λp2 r2=>bW p1 λa e1 h1=>bW p2 λb e2 h2=>bW (ih r1 r2) λr e hr=>?_;subst e1;subst e2;have e0:eT (n+2) H (.ref a) (.ref b)=some (i==j):=by
   show(match H.at_ a,H.at_ b with
    |some (.list l),some (.list m)=>if l.length=m.length then ax (eT (n+1) H) l m else some false
    |some (.tup l),some (.tup m)=>match ax (eT (n+1) H) l m with
     |some r=>some (r&&decide (l.length=m.length))
     |none=>none
    |_,_=>none)=_
   refine wr h1 (wr h2 ?_);show(match ax (eT (n+1) H) [.str "symbol",.int i] [.str "symbol",.int j] with|some r=>some (r&&decide ([V.str "symbol",.int i].length=[V.str "symbol",.int j].length))|none=>none)=_;have e3:ax (eT (n+1) H) [.str "symbol",.int i] [.str "symbol",.int j]=some (true&&((i==j)&&true)):=by
    show(match some ((("symbol":Str)==("symbol":Str))),(match some (i==j),some true with|some x,some y=>some (x&&y)|_,_=>none) with|some x,some y=>some (x&&y)|_,_=>none)=_;exact wr (show(("symbol":Str)==("symbol":Str))=true from by kernel_rfl) rfl
   refine wr e3 ?_;simp
  refine⟨(i==j)&&r,?_,?_⟩
  .show(match eT (n+2) H (.ref a) (.ref b),ax (eT (n+2) H) vs ws with|some x,some y=>some (x&&y)|_,_=>none)=_;exact wr e0 (wr e rfl)
  .have:(decide ((V.ref a::vs).length=(V.ref b::ws).length))=decide (vs.length=ws.length):=by simp
   refine wr this (wr (Bool.and_assoc _ _ _) (wr hr ?_))
   by_cases q:i=j
   .subst q;simp
   .have:(i==j)=false:=beq_eq_false_iff_ne.mpr q;refine wr this ?_;simp[q]
theorem AD {a b:V}{r:Bool}{Q:KB}(h:eT 8 H a b=some r) (K:Q r H):ok (bQ .Eq a b) Q H:=by
 refine⟨r,H,?_,K⟩;show(match eT 8 H a b with|some r=>some (r,H)|none=>none)=_;exact wr h rfl
theorem KE {a b:V}{x y:PV}(h1:VP H a x) (h2:VP H b y) (hb:(x=.tt↔y=.tt)):eT 8 H a b=some (decide (x=y)):=by
 induction a<;>induction x<;>try exact h1.elim
 .induction b<;>induction y<;>try exact h2.elim
  .rfl
  .exact absurd (hb.mpr rfl) (by simp)
  .rfl
  .refine be h2 λvs e1 e2 u_=>?_;show(match H.at_ _ with|some (.tup _)=>some false|_=>none)=_;rw[e1];rfl
 .have:y=.tt:=hb.mp rfl;subst this
  induction b<;>try exact h2.elim
  subst h1;subst h2;rfl
 .induction b<;>induction y<;>try exact h2.elim
  .rfl
  .exact absurd (hb.mpr rfl) (by simp)
  .subst h1;subst h2;show some (_==_)=some (decide _)
   congr 1
   rename_i i j
   by_cases q:i=j
   .subst q;simp
   .have:(i==j)=false:=beq_eq_false_iff_ne.mpr q;rw[this];simp[q]
  .refine be h2 λvs e1 e2 u_=>?_;show(match H.at_ _ with|some (.tup _)=>some false|_=>none)=_;rw[e1];rfl
 .obtain⟨vs,e1,e2,-⟩:=h1
  induction b<;>induction y<;>try exact h2.elim
  .show(match H.at_ _ with|some (.tup _)=>some false|_=>none)=_;rw[e1];rfl
  .exact absurd (hb.mpr rfl) (by simp)
  .show(match H.at_ _ with|some (.tup _)=>some false|_=>none)=_;rw[e1];rfl
  .obtain⟨ws,e3,e4,-⟩:=h2;rename_i m l m' l';show(match H.at_ m,H.at_ m' with
    |some (.list l),some (.list m)=>if l.length=m.length then ax (eT 7 H) l m else some false
    |some (.tup l),some (.tup m)=>match ax (eT 7 H) l m with
     |some r=>some (r&&decide (l.length=m.length))
     |none=>none
    |_,_=>none)=_
   rw[e1,e3];refine bW (BA (n:=5) e2 e4) λr e5 e6=>?_;show(match ax (eT 7 H) (.str "list"::vs) (.str "list"::ws) with|some r=>some (r&&decide ((V.str "list"::vs).length=(V.str "list"::ws).length))|none=>none)=_;have e7:ax (eT 7 H) (.str "list"::vs) (.str "list"::ws)=some (true&&r):=by
    show(match some ((("list":Str)==("list":Str))),ax (eT 7 H) vs ws with|some x,some y=>some (x&&y)|_,_=>none)=_;rw[show(("list":Str)==("list":Str))=true from by kernel_rfl,e5]
   rw[e7];have:(decide ((V.str "list"::vs).length=(V.str "list"::ws).length))=decide (vs.length=ws.length):=by simp
   dsimp only;rw[this,Bool.true_and,e6];simp
theorem BB {a b:V}{x y:PV}(h1:VP H a x) (h2:VP H b y) (K:Q (.bool (decide (x=y))) H):ok (ae (aa (k+1)) "eq" [a,b]) Q H:=by
 refine P.LK (hW h1 ?_);refine aj ?_
 by_cases q1:x=.tt
 .refine aM (decide_eq_true q1)<|hW h1 ?_
  refine aj ?_;refine aM (decide_eq_true q1) ?_;refine hW h2<|aj ?_
  by_cases q2:y=.tt
  .refine aM (decide_eq_true q2)<|AD (KE h1 h2 ⟨λu_=>q2,λu_=>q1⟩) ?_
   refine aj ?_;exact K
  .refine aJ (decide_eq_false q2) ?_;have:¬x=y:=λe=>q2 (e▸q1);rw[decide_eq_false this] at K;exact K
 .refine aJ (decide_eq_false q1)<|hW h2<|aj ?_
  by_cases q2:y=.tt
  .refine aM (decide_eq_true q2)<|hW h1 ?_
   refine aj ?_;refine aJ (decide_eq_false q1) ?_;have:¬x=y:=λe=>q1 (e.trans q2);rw[decide_eq_false this] at K;exact K
  .refine aJ (decide_eq_false q2)<|AD (KE h1 h2 ⟨λe=>absurd e q1,λe=>absurd e q2⟩) K
end
end Mi
namespace Mi
open PySem
section
variable {H H':AH}{S:Nat->Prop}{k:Nat}{Q:KV}{QB:KB}{tab:Tab}
theorem Ee {n:Nat}(h:n<=1000):ok (cE .range [.int n]) Q H=Q (.ref H.nx) (H.add (.rng n)):=by
 refine Ba ?_;show(decide (0<=(n:Int))&&decide ((n:Int)<=1000))=true;refine wr (decide_eq_true (by exact Int.natCast_nonneg _)) (wr (decide_eq_true (by exact Int.ofNat_le.mpr (by assumption))) ?_);rfl
theorem hQ {n:Nat}(h:n<=1000) (k_:Q (.ref H.nx) (H.add (.rng n))):ok (cE .range [.int n]) Q H:=(Ee h).mpr k_
theorem fK {r n:Nat}(h:H.at_ r=some (.rng n)):aF (.ref r) H=some ((2,(List.range n).map λ(i:Nat)=>V.int (Int.ofNat i)),H):=by
 have h1:aF (.ref r) H=(look r H>>=λp=>(match p.1 with
  |.list l=>pure (0,l)
  |.tup l=>pure (1,l)
  |.rng k=>pure (2,(List.range k.toNat).map λ(i:Nat)=>V.int (Int.ofNat i))
  |_=>ak:AM (Nat×List V)) p.2):=rfl
 have h2:look r H=some (.rng n,H):=by unfold look;exact wr h rfl
 refine wr h1 (wr h2 ?_);rfl
theorem aD {r:Nat}{l:List V}(h:H.at_ r=some (.list l)):aF (.ref r) H=some ((0,l),H):=by
 have h1:aF (.ref r) H=(look r H>>=λp=>(match p.1 with
  |.list l=>pure (0,l)
  |.tup l=>pure (1,l)
  |.rng k=>pure (2,(List.range k.toNat).map λ(i:Nat)=>V.int (Int.ofNat i))
  |_=>ak:AM (Nat×List V)) p.2):=rfl
 have h2:look r H=some (.list l,H):=by unfold look;exact wr h rfl
 refine wr h1 (wr h2 ?_);rfl
theorem dB {r:Nat}{l:List V}(h:H.at_ r=some (.tup l)):aF (.ref r) H=some ((1,l),H):=by
 have h1:aF (.ref r) H=(look r H>>=λp=>(match p.1 with
  |.list l=>pure (0,l)
  |.tup l=>pure (1,l)
  |.rng k=>pure (2,(List.range k.toNat).map λ(i:Nat)=>V.int (Int.ofNat i))
  |_=>ak:AM (Nat×List V)) p.2):=rfl
 have h2:look r H=some (.tup l,H):=by unfold look;exact wr h rfl
 refine wr h1 (wr h2 ?_);rfl
theorem CS {p:aO}{i:Nat}{e:Int×PV}{x:Int}(h:p[i]? =some e) (h0:(p.take i).lookup x=none):(p.take (i+1)).lookup x=(if e.1=x then some e.2 else none)/\(e.1=x->p.lookup x=some e.2):=by
 have h1:p.take (i+1)=p.take i++[e]:=by refine wr List.take_add_one (wr h ?_);rfl
 have h2:([e]:aO).lookup x=if e.1=x then some e.2 else none:=by
  obtain⟨a,b⟩:=e;refine wr List.lookup_cons ?_
  by_cases q:a=x
  .subst q;simp
  .have:(x==a)=false:=beq_eq_false_iff_ne.mpr (λe=>q e.symm);refine wr this ?_;simp[q]
 refine⟨by refine wr h1 (wr List.lookup_append (wr h0 (wr h2 ?_)));rfl,λq=>?_⟩;have h3:p=p.take (i+1)++p.drop (i+1):=(List.take_append_drop _ _).symm;refine wr h3 (wr List.lookup_append (wr h1 (wr List.lookup_append (wr h0 (wr h2 (wr (if_pos q) ?_))))));rfl
noncomputable abbrev LI (p:aO) (x:Int) (i:Int):Prop:=(0<=i/\∃a,p[i.toNat]? =some (x,a)/\p.lookup x=some a)\/(i= -1/\p.lookup x=none)
theorem gX {n:Nat}{p:aO}{x:Int}(w:Wf H) (h:PL H n p) (K:∀H' i,Up H H'->LI p x i->Q (.int i) H'):ok (ae (aa (k+1)) "plist_find" [.ref n,.int x]) Q H:=by
 refine P.vG<|be (id h) λvs h1 h2 h3=>?_
 have hl:=h2.len;refine aZ h1 (hQ (by exact Nat.le_trans (Nat.le_of_eq (by assumption)) (Nat.le_trans (by assumption) (by decide))) ?_);have f1:Up H (H.add (.rng vs.length)):=.add w;have hr:(H.add (.rng vs.length)).at_ H.nx=some (.rng vs.length):=wr bq (wr (if_pos rfl) rfl);generalize hH1:H.add (.rng vs.length)=H1 at f1 hr;refine cz (fK hr) ?_;have hv1:=f1.at_ w h1 λq=>q;have p1:=h2.tk (Up.tk w f1);refine dJ (I:=λi ρ H2=>H2=H1/\(∃o,ρ=([("plist",some (.ref n)),("number",some (.int x)),("at",o)]:ao))/\(p.take i).lookup x=none) ⟨rfl,⟨_,rfl⟩,rfl⟩ ?_ ?_ ?_ ?_ ?_
 .intro v hv;refine bW (List.mem_map.mp hv) λi u_ z1=>?_;subst z1;rfl
 .rintro i ρ H2 ⟨rfl,-,-⟩
  exact fK hr
 .kernel_rfl
 .rintro i ρ H2 v hv ⟨rfl,⟨o,rfl⟩,h0⟩
  refine P.ta ?_;have hi:i<vs.length/\v=.int (Int.ofNat i):=by
   rw[List.getElem?_map] at hv
   by_cases q:i<vs.length
   .rw[List.getElem?_range q] at hv;obtain rfl:=Option.some.inj hv;exact⟨q,rfl⟩
   .rw[List.getElem?_eq_none (by simp;exact Nat.not_lt.mp (by assumption))] at hv;exact ns hv
  obtain⟨hi,rfl⟩:=hi;have hg:vs[i]? =some vs[i]:=List.getElem?_eq_getElem hi;refine eg (p1.get hg) λm a e e1 e2 e3 e4=>?_;refine item_list hv1 (Int.not_lt.mpr (Int.natCast_nonneg i)) (by show vs[i]? =some (.ref m);exact wr hg (wr e1 rfl)) ?_;refine item_tup e3 (by decide) rfl<|ej<|xA (CS (x:=x) e2 h0) λs1 s2=>?_
  by_cases q:e.1=x
  .refine aM (show(e.1==x)=true from beq_iff_eq.mpr q) ?_;exact K _ _ f1 (.inl ⟨Int.natCast_nonneg i,e.2,by show p[i]? =_;exact wr e2 (wr (q.symm) rfl),s2 q⟩)
  .refine aJ (show(e.1==x)=false from beq_eq_false_iff_ne.mpr q)<|⟨rfl,⟨_,rfl⟩,by exact wr s1 (wr (if_neg q) rfl)⟩
 .rintro ρ H2 ⟨rfl,⟨o,rfl⟩,h0⟩
  refine P.td ?_;refine aP ?_;refine K _ _ f1 (.inr ⟨rfl,?_⟩);have:((List.range vs.length).map λ(i:Nat)=>V.int (Int.ofNat i)).length=p.length:=by simp;assumption
  rw[this,List.take_length] at h0;exact h0
theorem fT {n:Nat}{p:aO}{x:Int}(w:Wf H) (h:PL H n p)
  (K:∀H',Up H H'->(∀y m a,p.lookup x=some y->VP H' a y->H'.at_ m=some (.tup [a])->Q (.ref m) H')/\(p.lookup x=none->Q .none H')):ok (ae (aa (k+2)) "plist_get" [.ref n,.int x]) Q H:=by
 refine P.xW<|gX w h λH1 i f1 hi=>q8 ?_
 have w1:=f1.wf;refine be (h.up w f1) λvs h1 h2 h3=>?_
 rcases hi with⟨h0,y,hy,hl⟩|⟨rfl,hl⟩
 .refine aM (decide_eq_true (show i>=0 from h0)) ?_;have hlen:=h2.len;have hlt:i.toNat<vs.length:=by refine wr hlen ?_;exact(List.getElem?_eq_some_iff.mp hy).1
  have hg:vs[i.toNat]? =some vs[i.toNat]:=List.getElem?_eq_getElem hlt;refine eg (h2.get hg) λm a e e1 e2 e3 e4=>?_;rw[hy] at e2;obtain rfl:=Option.some.inj e2;refine item_list h1 (by lia) (by exact wr hg (wr e1 rfl))<|item_tup e3 (by decide) rfl<|aB (by kernel_rfl) ?_
  have f2:Up H1 (H1.add (.tup [a])):=.add w1;exact(K _ (f1.trans f2)).1 y _ a hl (e4.up w1 f2) (by exact wr bq (wr (if_pos rfl) rfl))
 .refine aJ (decide_eq_false (show¬((-1:Int)>=0) by decide))<|(K _ f1).2 hl
theorem tF {n:Nat}{p:aO}{x:Int}{b:V}{y:PV}(w:Wf H) (h:PL H n p) (hb:VP H b y) (K:∀H',Up H H'->Q (.bool (decide (p.lookup x=some y))) H'):ok (ae (aa (k+2)) "holds_pair" [.ref n,.int x,b]) Q H:=by
 refine P.wB<|gX w h λH1 i f1 hi=>q8 (aj ?_)
 have w1:=f1.wf;refine be (h.up w f1) λvs h1 h2 h3=>?_
 rcases hi with⟨h0,z,hz,hl⟩|⟨rfl,hl⟩
 .refine aM (decide_eq_true (show i>=0 from h0)) ?_;have hlen:=h2.len;have hlt:i.toNat<vs.length:=by refine wr hlen ?_;exact(List.getElem?_eq_some_iff.mp hz).1
  have hg:vs[i.toNat]? =some vs[i.toNat]:=List.getElem?_eq_getElem hlt;refine eg (h2.get hg) λm a e e1 e2 e3 e4=>?_;rw[hz] at e2;obtain rfl:=Option.some.inj e2;refine item_list h1 (by lia) (by exact wr hg (wr e1 rfl))<|item_tup e3 (by decide) rfl<|BB e4 (hb.up w f1)<|aj ?_
  have:=K _ f1;rw[hl] at this
  simpa using this
 .refine aJ (decide_eq_false (show¬((-1:Int)>=0) by decide)) ?_;have:=K _ f1;rw[hl] at this
  simpa using this
noncomputable def j6 (p q:aO):Bool:=decide (p.length=q.length)&&p.all λe=>decide (q.lookup e.1=some e.2)
theorem j5 {n m:Nat}{p q:aO}(w:Wf H) (h:PL H n p) (hq:PL H m q) (K:∀H',Up H H'->Q (.bool (j6 p q)) H'):ok (ae (aa (k+3)) "same_plist" [.ref n,.ref m]) Q H:=by
 refine P.vk<|be (id h) λvs h1 h2 h3=>be (id hq) λws g1 g2 g3=>?_
 refine aZ h1 (aZ g1 (pK ?_));refine wr h2.len (wr g2.len ?_)
 by_cases e:p.length=q.length
 case neg=>
  refine jG (show((p.length:Int)==(q.length:Int))=false from beq_eq_false_iff_ne.mpr (by lia)) ?_;have:=K H (.refl w);unfold j6 at this;rw[decide_eq_false e] at this;exact this
 refine iI (show((p.length:Int)==(q.length:Int))=true from beq_iff_eq.mpr (by lia))<|cz (aD h1)<|dJ (I:=λi ρ H2=>Up H H2/\(∃o1 o2,ρ=([("one",some (.ref n)),("other",some (.ref m)),("number",o1),("value",o2)]:ao))/\((p.take i).all λe=>decide (q.lookup e.1=some e.2))=true) ⟨.refl w,⟨_,_,rfl⟩,rfl⟩ ?_ ?_ ?_ ?_ ?_
 .intro v hv;obtain⟨i,hi,rfl⟩:=List.mem_iff_getElem.mp hv;refine eZ (h2.get (List.getElem?_eq_getElem hi)) λm a e e1 u_=>?_;refine wr e1 ?_;rfl
 .rintro i ρ H2 ⟨f,-,-⟩
  exact aD (f.at_ w h1 λq=>q)
 .kernel_rfl
 .rintro i ρ H2 v hv ⟨f,⟨o1,o2,rfl⟩,h0⟩
  refine P.sS<|eg ((h2.tk (Up.tk w f)).get hv) λj a e e1 e2 e3 e4=>?_
  subst e1;refine eL e3<|tF (k:=k) f.wf (hq.up w f) e4 λH3 f3=>aj ?_
  have ht:p.take (i+1)=p.take i++[e]:=by refine wr List.take_add_one (wr e2 ?_);rfl
  by_cases c:q.lookup e.1=some e.2
  .refine iI (decide_eq_true c) ?_;exact⟨f.trans f3,⟨_,_,rfl⟩,by refine wr ht (wr List.all_append (wr h0 ?_));simp[c]⟩
  .refine jG (decide_eq_false c) ?_;have:=K H3 (f.trans f3);have hf:j6 p q=false:=by
    unfold j6;refine wr (propext (Bool.and_eq_false_iff)) ?_;right;refine wr (propext (List.all_eq_false))<|⟨e,List.mem_of_getElem? e2,by simp[c]⟩
   rw[hf] at this;exact this
 .rintro ρ H2 ⟨f,⟨o1,o2,rfl⟩,h0⟩
  refine P.sU ?_;have hlen:vs.length=p.length:=h2.len;have:((0,vs):Nat×List V).2.length=p.length:=hlen;rw[this,List.take_length] at h0;have:=K H2 f;unfold j6 at this;rw[decide_eq_true e,h0] at this;exact this
end
end Mi
namespace Mi
open PySem
noncomputable def zI (li de:Nat):O:=.inst "PropRules" [("lisp",.ref li),("nil",.none),("true",.bool true),("category",.int 100),("front_sticky",.int 101),("rear_nonsticky",.int 102),("evaporate",.int 103),("priority",.int 104),("defaults",.ref de)]
noncomputable def gN (pd:Nat):O:=.inst "PlainLisp" [("first",.int 100),("nil",.none),("true",.bool true),("plists",.ref pd)]
noncomputable def loose (D:List Int):List (Int×V):=D.map λk=>(k,.int 1)
structure Ru (H:AH) (ru:Nat) (D:List Int):Prop where
 ex:∃li pd de,H.at_ ru=some (zI li de)/\H.at_ li=some (gN pd)/\H.at_ pd=some (.dict [])/\H.at_ de=some (.dict (loose D))
section
variable {H H':AH}{S:Nat->Prop}{k:Nat}{Q:KV}{QB:KB}{tab:Tab}{ru:Nat}{D:List Int}
theorem Ru.up (w:Wf H) (f:Up H H') (h:Ru H ru D):Ru H' ru D:=by
 obtain⟨li,pd,de,a,b,c,d⟩:=h;exact⟨li,pd,de,f.at_ w a λq=>q,f.at_ w b λq=>q,f.at_ w c λq=>q,f.at_ w d λq=>q⟩
theorem gh {x:Int}:∀{D:List Int},dictFind x (loose D)=if x∈D then some (.int 1) else none
 |[]=>rfl
 |d::D=>by
  show(if d=x then some (V.int 1) else dictFind x (loose D))=_;refine wr gh ?_
  by_cases q:d=x
  .subst q;simp
  .refine wr (if_neg q) ?_
   by_cases q2:x∈D
   .exact wr (if_pos q2) (wr (if_pos (List.mem_cons_of_mem _ q2)) rfl)
   .exact wr (if_neg q2) (wr (if_neg (by simp[q2];exact λe=>q e.symm)) rfl)
theorem yU {de:Nat}{es:List (Int×V)}{x:Int}{d:V}(h:H.at_ de=some (.dict es)) (K:Q ((dictFind x es).getD d) H):aA tab (.ref de) "get" (λA H=>A [.int x,d] H) Q H:=
 dA (m:=.get) h (by kernel_rfl) rfl ⟨_,h,aq K⟩
theorem oL {x:Int}(h:Ru H ru D) (K:Q (.bool (decide (x∈D))) H):ok (ae (aa (k+1)) "is_loose" [.ref ru,.int x]) Q H:=by
 refine P.Au ?_;obtain⟨li,pd,de,a,b,c,d⟩:=h;refine aQ a (by kernel_rfl) (v:=.ref de) (by kernel_rfl)<|yU d<|wr gh ?_
 by_cases q:x∈D
 .refine wr (if_pos q)<|bN ?_
  rw[decide_eq_true q] at K;exact K
 .refine wr (if_neg q)<|bN ?_
  rw[decide_eq_false q] at K;exact K
theorem yJ {x:Int}(h:Ru H ru D) (K:Q (.bool false) H):ok (ae (aa (k+1)) "is_tight" [.ref ru,.int x]) Q H:=by
 refine P.As ?_;obtain⟨li,pd,de,a,b,c,d⟩:=h;refine aQ a (by kernel_rfl) (v:=.ref de) (by kernel_rfl)<|yU d<|wr gh ?_
 by_cases q:x∈D
 .refine wr (if_pos q) ?_;refine cU ?_;exact K
 .refine wr (if_neg q) ?_;refine cU ?_;exact K
theorem fH {f:Str}:∀{l m:List (Str×V)},l.map (·.1)=m.map (·.1)->l.lookup f=none->m.lookup f=none
 |[],[],_,_=>rfl
 |a::l,b::m,e,h=>by
  refine xA (List.cons.inj e) λe1 e2=>?_;obtain⟨a1,a2⟩:=a;obtain⟨b1,b2⟩:=b;dsimp only at e1;subst e1;rw[List.lookup_cons] at h⊢
  rcases q:f==a1 with _|_
  .rw[q] at h;exact fH e2 h
  .rw[q] at h;exact sn h
 |[],_::_,e,_=>by cases e
 |_::_,[],e,_=>by cases e
theorem kj {f:Str}{args:List V}{A:(List V->AH->Prop)->AH->Prop}(h:Ru H ru D) (hf:([("lisp",V.none),("nil",.none),("true",.bool true),("category",.int 100),("front_sticky",.int 101),("rear_nonsticky",.int 102),("evaporate",.int 103),("priority",.int 104),("defaults",.none)]:List (Str×V)).lookup f=none)
  (a:A (λvs H=>ok (bB tab "PropRules" f (.ref ru::vs)) Q H) H):aA tab (.ref ru) f A Q H:=by
 obtain⟨li,pd,de,h1,-⟩:=h;exact bJ h1 (fH (by rfl) hf) a
theorem nu {v:V}{x:PV}(h:Ru H ru D) (hv:VP H v x) (K:Q (.bool (decide (x=.none))) H):aA (aa (k+2)) (.ref ru) "is_nil" (λA H=>A [v] H) Q H:=by
 refine kj (args:=[]) h (by kernel_rfl) (P.gB ?_);obtain⟨li,pd,de,a,b,c,d⟩:=h;refine aQ a (by kernel_rfl) (v:=.none) (by kernel_rfl)<|BB (y:=.none) hv trivial K
noncomputable def bg (p:aO) (x:Int):PV:=(p.lookup x).getD .none
theorem fB {n:Nat}{p:aO}{x:Int}(w:Wf H) (h:Ru H ru D) (hp:PL H n p) (hc:p.lookup 100=none) (K:∀H' a,Up H H'->VP H' a (bg p x)->Q a H'):ok (ae (aa (k+3)) "value_in" [.ref ru,.ref n,.int x]) Q H:=by
 refine P.zm<|fT w hp λH1 f1=>⟨λy m a hl hv hm=>?_,λhl=>?_⟩
 .refine hS<|hS<|item_tup hm (by decide) rfl (K H1 a f1 ?_)
  unfold bg;refine wr hl ?_;exact hv
 .refine fF ?_;obtain⟨li,pd,de,a,b,c,d⟩:=h.up w f1;refine aQ a (by kernel_rfl) (v:=.int 100) (by kernel_rfl)<|fT f1.wf (hp.up w f1) λH2 f2=>⟨λy m a hl=>absurd (hc.symm.trans hl) (by simp),λu_=>?_⟩
  refine bF<|fF<|aQ (f2.at_ f1.wf a λq=>q) (by kernel_rfl) (v:=.none) (by kernel_rfl)<|K H2 .none (f1.trans f2) ?_
  unfold bg;refine wr hl ?_;trivial
theorem hV {li pd:Nat}{f:Str}{A:(List V->AH->Prop)->AH->Prop}(h:H.at_ li=some (gN pd)) (hf:([("first",V.none),("nil",.none),("true",.none),("plists",.none)]:List (Str×V)).lookup f=none)
  (a:A (λvs H=>ok (bB tab "PlainLisp" f (.ref li::vs)) Q H) H):aA tab (.ref li) f A Q H:=by
 exact bJ h (fH (by rfl) hf) a
theorem E5 {a b:Str}(k_:QB (a==b) H):ok (bQ .Eq (.str a) (.str b)) QB H:=Eq.mpr (cA rfl) k_
theorem CB {m:Nat}{v:V}{vs:List V}(h:H.at_ m=some (.tup (v::vs))) (hl:vs.length<=1000):ok (bH (.ref m) (some 1) none) Q H=Q (.ref H.nx) (H.add (.tup vs)):=by
 have h1:bH (.ref m) (some 1) none H=(look m H>>=λp=>(match p.1 with
  |.list l=>match bounds (some 1) none l.length with|some (a,b)=>ba (.list (cut l a b))|none=>ak
  |.tup l=>if(0:Int)<1/\(1:Int).toNat<=l.length then ba (.tup (l.drop (1:Int).toNat)) else ak
  |_=>ak:AM V) p.2):=rfl
 have h2:look m H=some (.tup (v::vs),H):=by unfold look;exact wr h rfl
 refine cA<|wr h1 (wr h2 ?_)
 show(if(0:Int)<1/\(1:Int).toNat<=(v::vs).length then ba (.tup ((v::vs).drop (1:Int).toNat)) else ak) H=_;refine wr (if_pos ⟨by decide,by show 1<=_;simp⟩) ?_;show ba (.tup vs) H=_;unfold ba;refine wr (show fits (.tup vs)=true from Nat.ble_eq_true_of_le hl) ?_;rfl
theorem zR {m:Nat}{v:V}{vs:List V}(h:H.at_ m=some (.tup (v::vs))) (hl:vs.length<=1000) (k_:Q (.ref H.nx) (H.add (.tup vs))):ok (bH (.ref m) (some 1) none) Q H:=(CB h hl).mpr k_
theorem Eg {m:Nat}{vs:List V}(h:H.at_ m=some (.tup vs)) (hl:vs.length<=1000):ok (cE .list [.ref m]) Q H=Q (.ref H.nx) (H.add (.list vs)):=by
 have h1:cE .list [.ref m] H=(itemsOf (.ref m) H>>=λp=>ba (.list p.1) p.2):=rfl;have h3:itemsOf (.ref m) H=(look m H>>=λp=>(match p.1 with
  |.list l=>pure l
  |.tup l=>pure l
  |.rng k=>pure ((List.range k.toNat).map λ(i:Nat)=>V.int (Int.ofNat i))
  |_=>ak:AM (List V)) p.2):=rfl
 have h2:look m H=some (.tup vs,H):=by unfold look;exact wr h rfl
 refine cA<|wr h1 (wr h3 (wr h2 ?_))
 show ba (.list vs) H=_;unfold ba;refine wr (bp hl) ?_;rfl
theorem CC {m:Nat}{vs:List V}(h:H.at_ m=some (.tup vs)) (hl:vs.length<=1000) (k_:Q (.ref H.nx) (H.add (.list vs))):ok (cE .list [.ref m]) Q H:=(Eg h hl).mpr k_
theorem Eh {m:Nat}{vs:List V}(h:H.at_ m=some (.list vs)) (hl:vs.length<=1000):ok (cE .list [.ref m]) Q H=Q (.ref H.nx) (H.add (.list vs)):=by
 have h1:cE .list [.ref m] H=(itemsOf (.ref m) H>>=λp=>ba (.list p.1) p.2):=rfl;have h3:itemsOf (.ref m) H=(look m H>>=λp=>(match p.1 with
  |.list l=>pure l
  |.tup l=>pure l
  |.rng k=>pure ((List.range k.toNat).map λ(i:Nat)=>V.int (Int.ofNat i))
  |_=>ak:AM (List V)) p.2):=rfl
 have h2:look m H=some (.list vs,H):=by unfold look;exact wr h rfl
 refine cA<|wr h1 (wr h3 (wr h2 ?_))
 show ba (.list vs) H=_;unfold ba;refine wr (bp hl) ?_;rfl
theorem fW {m:Nat}{vs:List V}(h:H.at_ m=some (.list vs)) (hl:vs.length<=1000) (k_:Q (.ref H.nx) (H.add (.list vs))):ok (cE .list [.ref m]) Q H:=(Eh h hl).mpr k_
theorem lM {li pd:Nat}{v:V}{x:PV}(w:Wf H) (h:H.at_ li=some (gN pd)) (hv:VP H v x)
  (K1:∀H' l m vs,Up H H'->x=.lst l->H'.at_ m=some (.list vs)->gF H' vs l->l.length<=100->Q (.ref m) H') (K2:x.Kv=false->Q .none H):aA (aa (k+1)) (.ref li) "items" (λA H=>A [v] H) Q H:=by
 refine hV h (by kernel_rfl) (P.mw (Av hv ?_));refine aj ?_
 rcases hx:x.Kv with _|_
 .exact K2 hx
 .dsimp only[cond]
  induction v<;>induction x<;>first|exact hv.elim|exact nb hx|skip
  rename_i m l;refine be hv λvs a b c=>?_;have hl:=b.len;refine item_tup a (by decide) rfl ?_;refine E5 ?_;refine wr (show(("list":Str)==("list":Str))=true from by kernel_rfl) ?_;dsimp only;refine aP (zR a (by exact Nat.le_trans (Nat.le_of_eq (by assumption)) (Nat.le_trans (by assumption) (by decide))) ?_);have f1:Up H (H.add (.tup vs)):=.add w;have g1:(H.add (.tup vs)).at_ H.nx=some (.tup vs):=wr bq (wr (if_pos rfl) rfl);generalize H.add (.tup vs)=H1 at f1 g1;refine CC g1 (by exact Nat.le_trans (Nat.le_of_eq (by assumption)) (Nat.le_trans (by assumption) (by decide))) ?_;have f2:Up H1 (H1.add (.list vs)):=.add f1.wf;have f12:=f1.trans f2;exact K1 _ l _ vs f12 rfl (by exact wr bq (wr (if_pos rfl) rfl)) (b.tk (Up.tk w f12)) c
theorem I7 {m:Nat}{l:List V}(h:H.at_ m=some (.tup l)) (K:Q (.bool true) H):ok (isType "tuple" (.ref m)) Q H:=by
 have e1:(("tuple":Str)==("tuple":Str))=true:=by kernel_rfl
 unfold isType;refine ah (dK h ?_);refine wr e1 ?_;exact aq K
theorem vP {li pd m:Nat}{i:Int}(h:H.at_ li=some (gN pd)) (hm:H.at_ m=some (.tup [.str "symbol",.int i])) (K:Q (.int i) H):aA (aa (k+1)) (.ref li) "number_of" (λA H=>A [.ref m] H) Q H:=by
 refine hV h (by kernel_rfl) (P.iT (I7 hm ?_));refine aj<|item_tup hm (by decide) rfl ?_
 refine E5 ?_;refine aM (show(("symbol":Str)==("symbol":Str))=true from by kernel_rfl) ?_;exact item_tup hm (by decide) rfl K
noncomputable def mem (x:Int):PV->Bool
 |.none=>false
 |.lst l=>l.contains x
 |_=>true
theorem KY {a b:Nat}{l:List V}(ha:H.at_ a=some (.list l)) (hb:H.at_ b=some (.list [])) (K:QB (!l.isEmpty) H):ok (bQ .NotEq (.ref a) (.ref b)) QB H:=by
 show ok (do let r<-KG (.ref a) (.ref b);pure (!r)) QB H;have e:eT 8 H (.ref a) (.ref b)=some l.isEmpty:=by
  show(match H.at_ a,H.at_ b with
    |some (.list l),some (.list m)=>if l.length=m.length then ax (eT 7 H) l m else some false
    |some (.tup l),some (.tup m)=>match ax (eT 7 H) l m with
     |some r=>some (r&&decide (l.length=m.length))
     |none=>none
    |_,_=>none)=_
  refine wr ha (wr hb ?_)
  induction l<;>rfl
 exact ah ⟨l.isEmpty,H,by show(match eT 8 H (.ref a) (.ref b) with|some r=>some (r,H)|none=>none)=_;exact wr e rfl,aq K⟩
theorem cg {v:V}{y:PV}{x:Int}(w:Wf H) (h:Ru H ru D) (hv:VP H v y) (K:∀H',Up H H'->Q (.bool (mem x y)) H'):ok (ae (aa (k+3)) "is_member" [.ref ru,.int x,v]) Q H:=by
 refine P.yK (nu (k:=k) h hv ?_);refine aj ?_
 by_cases q:y=.none
 .refine aM (decide_eq_true q) ?_;subst q;exact K H (.refl w)
 refine aJ (decide_eq_false q) ?_;obtain⟨li,pd,de,a,b,c,d⟩:=h;refine aQ a (by kernel_rfl) (v:=.ref li) (by kernel_rfl)<|lM (k:=k+1) w b hv (λH1 l m vs f1 hy hm hs hl=>?_) (λhy=>?_)
 .subst hy;refine hS<|cz (aD hm)<|ee (I:=λi acc ρ H2=>H2=H1/\(∃o,ρ=(([(".0",none),("item",o)]:ao)++([("rules",some (.ref ru)),("number",some (.int x)),("value",some v),("items",some (.ref m))]:ao)))/\acc.length<=i/\(!acc.isEmpty)=(l.take i).contains x) ⟨rfl,⟨_,P.tB _ _ _ _⟩,Nat.le_refl _,rfl⟩ ?_ ?_ (by kernel_rfl) ?_ ?_
  .intro u hu;obtain⟨i,hi,rfl⟩:=List.mem_iff_getElem.mp hu;refine cF (hs.get (List.getElem?_eq_getElem hi)) λj e e1 u_=>?_;refine wr e1 ?_;rfl
  .rintro i acc ρ H2 ⟨rfl,-⟩;exact aD hm
  .rintro i acc ρ H2 u hu ⟨rfl,⟨o,rfl⟩,ha,h0⟩
   refine wr (P.wj _ _ _ _ _ _ _ _ _)<|bV (hs.get hu) λj e e1 e2 e3=>?_
   subst e1;refine aQ (f1.at_ w a λq=>q) (by kernel_rfl) (v:=.ref li) (by kernel_rfl)<|vP (k:=k+1) (f1.at_ w b λq=>q) e3<|ej ?_
   have ht:l.take (i+1)=l.take i++[e]:=by refine wr List.take_add_one (wr e2 ?_);rfl
   by_cases c:e=x
   .refine aM (show(e==x)=true from beq_iff_eq.mpr c) ?_;refine⟨rfl,⟨_,rfl⟩,by simp;assumption,?_⟩;subst c;refine wr ht ?_;simp
   .refine aJ (show(e==x)=false from beq_eq_false_iff_ne.mpr c) ?_;refine⟨rfl,⟨_,rfl⟩,by simp;exact Nat.le_add_right_of_le (by assumption),?_⟩;refine wr ht (wr (List.append_nil _) (wr h0 ?_));simp only[List.contains_eq_mem,List.mem_append,List.mem_singleton];have hc:¬x=e:=λq=>c q.symm;simp[hc]
  .rintro acc ρ H2 ⟨rfl,-,ha,h0⟩
   have hlen:((0,vs):Nat×List V).2.length=l.length:=hs.len;rw[hlen] at ha h0;rw[List.take_length] at h0;refine aB (bp (by lia)) (aB (by rfl) ?_);have f2:Up H2 (H2.add (.list acc)):=.add f1.wf;have g2:(H2.add (.list acc)).at_ H2.nx=some (.list acc):=wr bq (wr (if_pos rfl) rfl);have f3:Up (H2.add (.list acc)) ((H2.add (.list acc)).add (.list [])):=.add f2.wf;refine KY (l:=acc) (f3.at_ f2.wf g2 λq=>q) (by exact wr bq (wr (if_pos rfl) rfl)) ?_;have:=K _ ((f1.trans f2).trans f3);have hm:mem x (.lst l)= !acc.isEmpty:=h0.symm;rw[hm] at this;exact this
 .refine fF ?_;have:mem x y=true:=by induction y<;>first|exact absurd rfl q|rfl|exact tf hy
  have h2:=K H (.refl w);rw[this] at h2;exact h2
end
end Mi
namespace Mi
open PySem
noncomputable def DW (ru l r:Nat) (lf lr rf rr:V) (fo fr re:Nat):O:=.inst "Sides" [("rules",.ref ru),("left",.ref l),("right",.ref r),("left_front",lf),("left_rear",lr),("right_front",rf),("right_rear",rr),("found",.ref fo),("front",.ref fr),("rear",.ref re)]
noncomputable def kept (p:aO) (D:List Int) (x:Int):Bool:= !mem x (bg p 102)&& !decide (x∈D)
noncomputable def cj (q:aO) (x:Int):Bool:=mem x (bg q 101)
noncomputable def sF (x:Int):PV->Bool
 |.tt=>true
 |.lst l=>l.contains x
 |_=>false
structure SI where
 sd:Nat
 ru:Nat
 l:Nat
 r:Nat
 fo:Nat
 fr:Nat
 re:Nat
 lf:V
 lr:V
 rf:V
 rr:V
structure Sd (H:AH) (i:SI) (D:List Int) (p q FO:aO) (FR RE:List Int):Prop where
 wf:Wf H
 ru:Ru H i.ru D
 ob:H.at_ i.sd=some (DW i.ru i.l i.r i.lf i.lr i.rf i.rr i.fo i.fr i.re)
 Mf:VP H i.lf (bg p 101)
 LU:VP H i.lr (bg p 102)
 K9:VP H i.rf (bg q 101)
 Me:VP H i.rr (bg q 102)
 pl:PL H i.l p
 pr:PL H i.r q
 found:∃vs,H.at_ i.fo=some (.list vs)/\zd H vs FO
 front:H.at_ i.fr=some (.list (FR.map V.int))
 Cm:H.at_ i.re=some (.list (RE.map V.int))
 ne:i.fo≠i.fr/\i.fo≠i.re/\i.fr≠i.re/\i.l≠i.fo/\i.l≠i.fr/\i.l≠i.re/\i.r≠i.fo/\i.r≠i.fr/\i.r≠i.re
def SS (i:SI) (m:Nat):Prop:=m=i.fo\/m=i.fr\/m=i.re
section
variable {H H':AH}{S:Nat->Prop}{k:Nat}{Q:KV}{QB:KB}{tab:Tab}{i:SI}{D:List Int}{p q FO:aO}{FR RE:List Int}
theorem Sd.up (h:Sd H i D p q FO FR RE) (f:Up H H'):Sd H' i D p q FO FR RE:=by
 obtain⟨w,a1,a2,a3,a4,a5,a6,a7,a8,⟨vs,b1,b2⟩,a10,a11,a12⟩:=h;exact⟨f.wf,a1.up w f,f.at_ w a2 λq=>q,a3.up w f,a4.up w f,a5.up w f,a6.up w f,a7.up w f,a8.up w f,⟨vs,f.at_ w b1 λq=>q,b2.tk (Up.tk w f)⟩,f.at_ w a10 λq=>q,f.at_ w a11 λq=>q,a12⟩
theorem eE (h:Sd H i D p q FO FR RE) (k_:Q (.ref i.ru) H):ok (aV (.ref i.sd) "rules") Q H:=Eq.mpr (aW h.ob (by kernel_rfl) (by kernel_rfl)) k_
theorem Ge (h:Sd H i D p q FO FR RE):ok (aV (.ref i.sd) "left") Q H=Q (.ref i.l) H:=aW h.ob (by kernel_rfl) (by kernel_rfl)
theorem xK (h:Sd H i D p q FO FR RE) (k_:Q (.ref i.l) H):ok (aV (.ref i.sd) "left") Q H:=(Ge h).mpr k_
theorem Ia (h:Sd H i D p q FO FR RE) (k_:Q i.lf H):ok (aV (.ref i.sd) "left_front") Q H:=Eq.mpr (aW h.ob (by kernel_rfl) (by kernel_rfl)) k_
theorem J5 (h:Sd H i D p q FO FR RE):ok (aV (.ref i.sd) "left_rear") Q H=Q i.lr H:=aW h.ob (by kernel_rfl) (by kernel_rfl)
theorem D5 (h:Sd H i D p q FO FR RE) (k_:Q i.lr H):ok (aV (.ref i.sd) "left_rear") Q H:=(J5 h).mpr k_
theorem J4 (h:Sd H i D p q FO FR RE):ok (aV (.ref i.sd) "right_front") Q H=Q i.rf H:=aW h.ob (by kernel_rfl) (by kernel_rfl)
theorem zE (h:Sd H i D p q FO FR RE) (k_:Q i.rf H):ok (aV (.ref i.sd) "right_front") Q H:=(J4 h).mpr k_
theorem HZ (h:Sd H i D p q FO FR RE) (k_:Q i.rr H):ok (aV (.ref i.sd) "right_rear") Q H:=Eq.mpr (aW h.ob (by kernel_rfl) (by kernel_rfl)) k_
theorem qx (h:Sd H i D p q FO FR RE) (k_:Q (.ref i.fo) H):ok (aV (.ref i.sd) "found") Q H:=Eq.mpr (aW h.ob (by kernel_rfl) (by kernel_rfl)) k_
theorem zG (h:Sd H i D p q FO FR RE) (k_:Q (.ref i.fr) H):ok (aV (.ref i.sd) "front") Q H:=Eq.mpr (aW h.ob (by kernel_rfl) (by kernel_rfl)) k_
theorem zF (h:Sd H i D p q FO FR RE) (k_:Q (.ref i.re) H):ok (aV (.ref i.sd) "rear") Q H:=Eq.mpr (aW h.ob (by kernel_rfl) (by kernel_rfl)) k_
theorem rz {x:Int}(h:Sd H i D p q FO FR RE) (K:∀H',Up H H'->Q (.bool (kept p D x)) H'):ok (ae (aa (k+4)) "is_kept" [.ref i.sd,.int x]) Q H:=by
 refine P.CZ<|eE h (D5 h ?_)
 refine cg h.wf h.ru h.LU λH1 f1=>?_;have h1:=h.up f1;refine aj (aj ?_);have:=K H1 f1;unfold kept at this;revert this;generalize mem x (bg p 102)=o_;rcases o_ with _|_
 .intro this;refine eE h1<|oL h1.ru<|aj (aj ?_)
  rw[Bool.not_false,Bool.true_and] at this;exact this
 .intro this;exact this
theorem iE {x:Int}(h:Sd H i D p q FO FR RE) (K:∀H',Up H H'->Q (.bool (cj q x)) H'):ok (ae (aa (k+4)) "is_caught" [.ref i.sd,.int x]) Q H:=by
 refine P.yL<|eE h (zE h ?_)
 refine cg h.wf h.ru h.K9 λH1 f1=>?_;have h1:=h.up f1;refine aj ?_;have:=K H1 f1;unfold cj at this;revert this;generalize mem x (bg q 101)=o_;rcases o_ with _|_
 .intro this;refine eE h1<|yJ h1.ru ?_
  refine aj ?_;exact this
 .intro this;exact this
theorem Ar {v:V}{y:PV}{x:Int}{ru:Nat}(w:Wf H) (h:Ru H ru D) (hv:VP H v y) (K:∀H',Up H H'->Q (.bool (sF x y)) H'):ok (ae (aa (k+4)) "is_told" [.ref ru,.int x,v]) Q H:=by
 refine P.CY ?_;obtain⟨li,pd,de,a,b,c,d⟩:=id h;refine aQ a (by kernel_rfl) (v:=.bool true) (by kernel_rfl)<|BB (y:=.tt) hv rfl<|aj ?_
 by_cases e:y=.tt
 .refine aM (decide_eq_true e) ?_;subst e;exact K H (.refl w)
 refine aJ (decide_eq_false e)<|aQ a (by kernel_rfl) (v:=.ref li) (by kernel_rfl)<|lM w b hv (λH1 l m vs f1 hy hm hs hl=>?_) (λhy=>?_)
 .refine bK (aj ?_);refine cg f1.wf (h.up w f1) (hv.up w f1) λH2 f2=>aj (aj ?_);have:=K H2 (f1.trans f2);subst hy;exact this
 .refine bF (aj ?_);refine aj ?_;have h2:=K H (.refl w);have:sF x y=false:=by induction y<;>first|exact absurd rfl e|rfl|exact tf hy
  rw[this] at h2;exact h2
theorem yp {n:Nat}{l:List V}{v:V}(h:H.at_ n=some (.list l)) (hl:l.length+1<=1000) (K:Q .none (H.put n (.list (l++[v])))):aA tab (.ref n) "append" (λA H=>A [v] H) Q H:=by
 refine dA (m:=.append) h (by kernel_rfl) rfl ⟨_,h,?_⟩;show ok (do eB n (.list (l++[v]));pure .none) Q H;refine ah ?_;refine eO (bp (by refine wr List.length_append ?_;exact hl)) ?_;exact aq K
theorem Sd.J7 {v:List Int}(h:Sd H i D p q FO FR RE):Sd (H.put i.fr (.list (v.map V.int))) i D p q FO v RE/\Fm (SS i) H (H.put i.fr (.list (v.map V.int))):=by
 obtain⟨w,⟨li,pd,de,r1,r2,r3,r4⟩,a2,a3,a4,a5,a6,a7,a8,⟨vs,b1,b2⟩,a10,a11,n1,n2,n3,n4,n5,n6,n7,n8,n9⟩:=h;have tk:TK H (H.put i.fr (.list (v.map V.int))):=λm l e=>by rw[aK,if_neg];exact e;rintro rfl;rw[a10] at e;exact nO e rfl
 have ot:∀{m o},H.at_ m=some o->(∀l,o≠.list l)->(H.put i.fr (.list (v.map V.int))).at_ m=some o:=λ{m o} e ho=>by rw[aK,if_neg];exact e;rintro rfl;rw[a10] at e;obtain rfl:=Option.some.inj e;exact absurd rfl (ho _)
 have ol:∀{m o},m≠i.fr->H.at_ m=some o->(H.put i.fr (.list (v.map V.int))).at_ m=some o:=λ{m o} hm e=>by refine wr aK (wr (if_neg hm) ?_);exact e
 refine⟨⟨w.put a10,⟨li,pd,de,ot r1 (λu_ e=>by exact w9 e rfl),ot r2 (λu_ e=>by exact w9 e rfl),ot r3 (λu_ e=>by exact w9 e rfl),ot r4 (λu_ e=>by exact w9 e rfl)⟩,ot a2 (λu_ e=>by exact w9 e rfl),a3.tk tk,a4.tk tk,a5.tk tk,a6.tk tk,a7.keep tk λl e=>ol n5 e,a8.keep tk λl e=>ol n8 e,
  ⟨vs,ol n1 b1,b2.tk tk⟩,by exact wr aK (wr (if_pos rfl) rfl),ol n3.symm a11,n1,n2,n3,n4,n5,n6,n7,n8,n9⟩,.put w a10 (.inr (.inl rfl))⟩
theorem Sd.J6 {v:List Int}(h:Sd H i D p q FO FR RE):Sd (H.put i.re (.list (v.map V.int))) i D p q FO FR v/\Fm (SS i) H (H.put i.re (.list (v.map V.int))):=by
 obtain⟨w,⟨li,pd,de,r1,r2,r3,r4⟩,a2,a3,a4,a5,a6,a7,a8,⟨vs,b1,b2⟩,a10,a11,n1,n2,n3,n4,n5,n6,n7,n8,n9⟩:=h;have tk:TK H (H.put i.re (.list (v.map V.int))):=λm l e=>by rw[aK,if_neg];exact e;rintro rfl;rw[a11] at e;exact nO e rfl
 have ot:∀{m o},H.at_ m=some o->(∀l,o≠.list l)->(H.put i.re (.list (v.map V.int))).at_ m=some o:=λ{m o} e ho=>by rw[aK,if_neg];exact e;rintro rfl;rw[a11] at e;obtain rfl:=Option.some.inj e;exact absurd rfl (ho _)
 have ol:∀{m o},m≠i.re->H.at_ m=some o->(H.put i.re (.list (v.map V.int))).at_ m=some o:=λ{m o} hm e=>by refine wr aK (wr (if_neg hm) ?_);exact e
 refine⟨⟨w.put a11,⟨li,pd,de,ot r1 (λu_ e=>by exact w9 e rfl),ot r2 (λu_ e=>by exact w9 e rfl),ot r3 (λu_ e=>by exact w9 e rfl),ot r4 (λu_ e=>by exact w9 e rfl)⟩,ot a2 (λu_ e=>by exact w9 e rfl),a3.tk tk,a4.tk tk,a5.tk tk,a6.tk tk,a7.keep tk λl e=>ol n6 e,a8.keep tk λl e=>ol n9 e,
  ⟨vs,ol n2 b1,b2.tk tk⟩,ol n3 a10,by exact wr aK (wr (if_pos rfl) rfl),n1,n2,n3,n4,n5,n6,n7,n8,n9⟩,.put w a11 (.inr (.inr rfl))⟩
theorem Sd.Eb {vs:List V}{F:aO}(h:Sd H i D p q FO FR RE) (hv:zd H vs F):Sd (H.put i.fo (.list vs)) i D p q F FR RE/\Fm (SS i) H (H.put i.fo (.list vs)):=by
 obtain⟨w,⟨li,pd,de,r1,r2,r3,r4⟩,a2,a3,a4,a5,a6,a7,a8,⟨us,b1,b2⟩,a10,a11,n1,n2,n3,n4,n5,n6,n7,n8,n9⟩:=h;have tk:TK H (H.put i.fo (.list vs)):=λm l e=>by rw[aK,if_neg];exact e;rintro rfl;rw[b1] at e;exact nO e rfl
 have ot:∀{m o},H.at_ m=some o->(∀l,o≠.list l)->(H.put i.fo (.list vs)).at_ m=some o:=λ{m o} e ho=>by rw[aK,if_neg];exact e;rintro rfl;rw[b1] at e;obtain rfl:=Option.some.inj e;exact absurd rfl (ho _)
 have ol:∀{m o},m≠i.fo->H.at_ m=some o->(H.put i.fo (.list vs)).at_ m=some o:=λ{m o} hm e=>by refine wr aK (wr (if_neg hm) ?_);exact e
 refine⟨⟨w.put b1,⟨li,pd,de,ot r1 (λu_ e=>by exact w9 e rfl),ot r2 (λu_ e=>by exact w9 e rfl),ot r3 (λu_ e=>by exact w9 e rfl),ot r4 (λu_ e=>by exact w9 e rfl)⟩,ot a2 (λu_ e=>by exact w9 e rfl),a3.tk tk,a4.tk tk,a5.tk tk,a6.tk tk,a7.keep tk λl e=>ol n4 e,a8.keep tk λl e=>ol n7 e,
  ⟨vs,by exact wr aK (wr (if_pos rfl) rfl),hv.tk tk⟩,ol n1.symm a10,ol n2.symm a11,n1,n2,n3,n4,n5,n6,n7,n8,n9⟩,.put w b1 (.inl rfl)⟩
theorem zd.app {vs us:List V}{p q:aO}(x:zd H vs p) (y:zd H us q):zd H (vs++us) (p++q):=aS.app x y
end
end Mi
namespace Mi
open PySem
section
variable {H H':AH}{S:Nat->Prop}{k:Nat}{Q:KV}{QB:KB}{tab:Tab}{i:SI}{D:List Int}{p q FO:aO}{FR RE:List Int}
noncomputable abbrev Br (b:Bool) (x:Int):List Int:=if b=true then[x] else[]
theorem nA {x:Int}(h:Sd H i D p q FO FR RE) (hl:FR.length<=500) (K:∀H',Sd H' i D p q FO (FR++[x]) RE->Fm (SS i) H H'->Q .none H'):
  ok (aV (.ref i.sd) "front") (λx8 H=>aA tab x8 "append" (λA H=>A [.int x] H) Q H) H:=by
 refine zG h ?_;refine yp h.front (by simp;exact Nat.le_add_left_of_le (by assumption)) ?_;have:=h.J7 (v:=FR++[x]);have e:(FR++[x]).map V.int=FR.map V.int++[V.int x]:=by simp
 rw[e] at this;exact K _ this.1 this.2
theorem Co {x:Int}(h:Sd H i D p q FO FR RE) (hl:RE.length<=500) (K:∀H',Sd H' i D p q FO FR (RE++[x])->Fm (SS i) H H'->Q .none H'):
  ok (aV (.ref i.sd) "rear") (λx8 H=>aA tab x8 "append" (λA H=>A [.int x] H) Q H) H:=by
 refine zF h ?_;refine yp h.Cm (by simp;exact Nat.le_add_left_of_le (by assumption)) ?_;have:=h.J6 (v:=RE++[x]);have e:(RE++[x]).map V.int=RE.map V.int++[V.int x]:=by simp
 rw[e] at this;exact K _ this.1 this.2
theorem CO {n:Nat}{l vs:List V}(w:Wf H) (h:H.at_ n=some (.list l)) (hl:l.length+1<=1000) (hv:vs.length<=1000) (K:Q .none ((H.add (.tup vs)).put n (.list (l++[.ref H.nx])))):aA tab (.ref n) "append" (λA H=>ok (ba (.tup vs)) (λx2 H=>A [x2] H) H) Q H:=by
 have hlt:=w.lt h;refine dA (m:=.append) h (by kernel_rfl) rfl<|aB (show fits (.tup vs)=true from Nat.ble_eq_true_of_le hv) ?_
 refine⟨.list l,by refine wr bq (wr (if_neg (Nat.ne_of_lt hlt)) ?_);exact h,?_⟩;show ok (do eB n (.list (l++[.ref H.nx]));pure .none) Q _;refine ah ?_;refine eO (bp (by refine wr List.length_append ?_;exact hl)) ?_;exact aq K
theorem uB {x:Int}{a:V}{y:PV}{Q:KV}(h:Sd H i D p q FO FR RE) (ha:VP H a y) (hl:FO.length<=500) (K:∀H',Sd H' i D p q (FO++[(x,y)]) FR RE->Fm (SS i) H H'->Q .none H'):
  ok (aV (.ref i.sd) "found") (λx1 H=>aA tab x1 "append" (λA H=>ok (ba (.tup [.int x,a])) (λx2 H=>A [x2] H) H) Q H) H:=by
 refine qx h<|bW h.found λvs b1 b2=>?_
 have hlen:=b2.len;refine CO h.wf b1 (by lia) (by simp) ?_;have f1:Up H (H.add (.tup [.int x,a])):=.add h.wf;have g1:(H.add (.tup [.int x,a])).at_ H.nx=some (.tup [.int x,a]):=wr bq (wr (if_pos rfl) rfl);have h1:=h.up f1;have ha1:=ha.up h.wf f1;have b2':=b2.tk (Up.tk h.wf f1);generalize H.add (.tup [.int x,a])=H1 at f1 g1 h1 ha1 b2';have:=h1.Eb (vs:=vs++[.ref H.nx]) (F:=FO++[(x,y)]) (b2'.app ⟨⟨_,a,rfl,g1,ha1⟩,trivial⟩);exact K _ this.1 ((f1.aE λu_ q=>q.elim).trans this.2)
theorem kX {a:V}{y:PV}{x:Int}(h:Sd H i D p q FO FR RE) (ha:VP H a y) (hl:FO.length<=500) (hl2:FR.length<=500)
  (K:∀H',Sd H' i D p q (FO++[(x,y)]) (FR++Br (mem x (bg p 101)) x) RE->Fm (SS i) H H'->Q .none H'):ok (ae (aa (k+4)) "take_left" [.ref i.sd,.int x,a]) Q H:=by
 refine P.xq (uB h ha hl λH1 h1 f1=>?_);refine eE h1 (Ia h1 ?_);refine cg h1.wf h1.ru h1.Mf λH2 f2=>?_;have h2:=h1.up f2;have f12:Fm (SS i) H H2:=f1.trans (f2.aE λu_ q=>q.elim);refine aj ?_
 rcases hm:mem x (bg p 101) with _|_
 .refine K H2 ?_ f12;refine wr hm ?_;show Sd H2 i D p q _ (FR++[]) RE;refine wr (List.append_nil _) ?_;exact h2
 .dsimp only[cond];refine nA (Q:=λu_ H=>Q .none H) h2 hl2 λH3 h3 f3=>K H3 ?_ (f12.trans f3);refine wr hm ?_;exact h3
theorem mN {x:Int}(h:Sd H i D p q FO FR RE) (hl:RE.length<=500) (K:∀H',Sd H' i D p q FO FR (RE++Br (mem x (bg q 102)) x)->Fm (SS i) H H'->Q .none H'):
  ok (aV (.ref i.sd) "rules") (λx10 H=>ok (aV (.ref i.sd) "right_rear") (λx11 H=>ok (ae (aa (k+3)) "is_member" [x10,.int x,x11]) (λx12 H=>ok (ck x12) (λb13 H=>cond b13 (ok (aV (.ref i.sd) "rear") (λx14 H=>aA (aa (k+3)) x14 "append" (λA H=>A [.int x] H) (λx15 H=>Q V.none H) H) H) (Q V.none H)) H) H) H) H:=by
 refine eE h (HZ h ?_);refine cg h.wf h.ru h.Me λH2 f2=>?_;have h2:=h.up f2;have f12:Fm (SS i) H H2:=f2.aE λu_ q=>q.elim;refine aj ?_
 rcases hm:mem x (bg q 102) with _|_
 .refine K H2 ?_ f12;refine wr hm ?_;show Sd H2 i D p q FO FR (RE++[]);refine wr (List.append_nil _) ?_;exact h2
 .dsimp only[cond];refine Co (Q:=λu_ H=>Q .none H) h2 hl λH3 h3 f3=>K H3 ?_ (f12.trans f3);refine wr hm ?_;exact h3
theorem jZ {a:V}{y:PV}{x:Int}(h:Sd H i D p q FO FR RE) (ha:VP H a y) (hl:FO.length<=500) (hl2:FR.length<=500) (hl3:RE.length<=500)
  (K:∀H',Sd H' i D p q (FO++[(x,y)]) (FR++Br (mem x (bg q 101)) x) (RE++Br (mem x (bg q 102)) x)->Fm (SS i) H H'->Q .none H'):ok (ae (aa (k+4)) "take_right" [.ref i.sd,.int x,a]) Q H:=by
 refine P.uZ (uB h ha hl λH1 h1 f1=>?_);refine eE h1 (zE h1 ?_);refine cg h1.wf h1.ru h1.K9 λH2 f2=>?_;have h2:=h1.up f2;have f12:Fm (SS i) H H2:=f1.trans (f2.aE λu_ q=>q.elim);refine aj ?_
 rcases hm:mem x (bg q 101) with _|_
 .dsimp only[cond];refine mN h2 hl3 λH4 h4 f4=>K H4 ?_ (f12.trans f4);refine wr hm ?_;show Sd H4 i D p q _ (FR++[]) _;refine wr (List.append_nil _) ?_;exact h4
 .dsimp only[cond];refine nA h2 hl2 λH3 h3 f3=>mN h3 hl3 λH4 h4 f4=>K H4 ?_ ((f12.trans f3).trans f4);refine wr hm ?_;exact h4
noncomputable abbrev FT:=aO×List Int×List Int
noncomputable def Ld (p:aO) (x:Int) (y:PV) (s:FT):FT:=(s.1++[(x,y)],s.2.1++Br (mem x (bg p 101)) x,s.2.2)
noncomputable def Lc (q:aO) (x:Int) (y:PV) (s:FT):FT:=(s.1++[(x,y)],s.2.1++Br (mem x (bg q 101)) x,s.2.2++Br (mem x (bg q 102)) x)
noncomputable def kW (p q:aO) (D:List Int) (x:Int) (y:PV) (s:FT):FT:=
 if kept p D x=true then Ld p x y s else if cj q x=true then(s.1,s.2.1++[x],s.2.2++Br (mem x (bg q 102)) x) else s
noncomputable def iq (p q:aO) (D:List Int) (x:Int) (y:PV) (s:FT):FT:=match p.lookup x with
 |some z=>if kept p D x=true/\¬(cj q x=true/\z=.none) then Ld p x z s else if cj q x=true then Lc q x y s else s
 |none=>if cj q x=true then Lc q x y s else s
theorem xn {a:V}{y:PV}{x:Int}(h:Sd H i D p q FO FR RE) (ha:VP H a y) (hl:FO.length<=500) (hl2:FR.length<=500) (hl3:RE.length<=500)
  (K:∀H',Sd H' i D p q (kW p q D x y (FO,FR,RE)).1 (kW p q D x y (FO,FR,RE)).2.1 (kW p q D x y (FO,FR,RE)).2.2->Fm (SS i) H H'->Q .none H'):ok (ae (aa (k+5)) "take_one" [.ref i.sd,.int x,a]) Q H:=by
 refine P.zx (rz h λH1 f1=>?_);have h1:=h.up f1;have g1:Fm (SS i) H H1:=f1.aE λu_ q=>q.elim;refine aj ?_;unfold kW at K
 rcases hk:kept p D x with _|_
 .dsimp only[cond];have nk:¬kept p D x=true:=by refine wr hk ?_;decide
  rw[if_neg nk] at K;refine iE h1 λH2 f2=>?_;have h2:=h1.up f2;have g2:Fm (SS i) H H2:=g1.trans (f2.aE λu_ q=>q.elim);refine aj ?_
  rcases hc:cj q x with _|_
  .refine K H2 ?_ g2;refine wr (if_neg (by rw[hc];decide)) ?_;exact h2
  .dsimp only[cond];refine nA h2 hl2 λH3 h3 f3=>mN (k:=k+1) h3 hl3 λH4 h4 f4=>K H4 ?_ ((g2.trans f3).trans f4);refine wr (if_pos hc) ?_;exact h4
 .dsimp only[cond];refine kX h1 (ha.up h.wf f1) hl hl2 λH2 h2 f2=>K H2 ?_ (g1.trans f2);refine wr (if_pos hk) ?_;exact h2
end
end Mi
namespace Mi
open PySem
section
variable {H H':AH}{S:Nat->Prop}{k:Nat}{Q:KV}{QB:KB}{tab:Tab}{i:SI}{D:List Int}{p q FO:aO}{FR RE:List Int}
theorem rq {ru:Nat}{v:V}{x:PV}(h:Ru H ru D) (hv:VP H v x) (K:Q (.bool (decide (x=.none))) H):ok (bB (aa (k+2)) "PropRules" "is_nil" [.ref ru,v]) Q H:=by
 refine P.gB ?_;obtain⟨li,pd,de,a,b,c,d⟩:=h;refine aQ a (by kernel_rfl) (v:=.none) (by kernel_rfl)<|BB (y:=.none) hv trivial K
theorem ve {a:V}{y:PV}{x:Int}(h:Sd H i D p q FO FR RE) (ha:VP H a y) (hl:FO.length<=500) (hl2:FR.length<=500) (hl3:RE.length<=500)
  (K:∀H',Sd H' i D p q (iq p q D x y (FO,FR,RE)).1 (iq p q D x y (FO,FR,RE)).2.1 (iq p q D x y (FO,FR,RE)).2.2->Fm (SS i) H H'->Q .none H'):ok (ae (aa (k+5)) "take_both" [.ref i.sd,.int x,a]) Q H:=by
 refine P.xr<|xK h ?_
 unfold iq at K;refine fT (k:=k+2) h.wf h.pl λH1 f1=>⟨λz m b hlk hv hm=>?_,λhlk=>?_⟩
 .rw[hlk] at K;dsimp only at K;have h1:=h.up f1;have g1:Fm (SS i) H H1:=f1.aE λu_ q=>q.elim;refine bK (aj ?_);dsimp only[cond];refine rz h1 λH2 f2=>?_;have h2:=h1.up f2;refine aj<|iE h2 λH3 f3=>?_
  have h3:=h2.up f3;have f123:=(f1.trans f2).trans f3;have g3:Fm (SS i) H H3:=f123.aE λu_ q=>q.elim;have ha3:=ha.up h.wf f123;have hv3:=(hv.up h1.wf f2).up h2.wf f3;have hm3:=f3.at_ h2.wf (f2.at_ h1.wf hm λq=>q) λq=>q;refine aj ?_;have right:¬(kept p D x=true/\¬(cj q x=true/\z=.none))->ok (ck (.bool (cj q x))) (λb H=>cond b (ok (ae (aa (k+4)) "take_right" [.ref i.sd,.int x,a]) (λu_ H=>Q V.none H) H) (Q V.none H)) H3:=λnn=>by
   refine aj ?_
   rcases hc:cj q x with _|_
   .refine K H3 ?_ g3;refine wr (if_neg nn) (wr (if_neg (by rw[hc];decide)) ?_);exact h3
   .dsimp only[cond];refine jZ h3 ha3 hl hl2 hl3 λH4 h4 f4=>K H4 ?_ (g3.trans f4);refine wr (if_neg nn) (wr (if_pos hc) ?_);exact h4
  have left:(kept p D x=true/\¬(cj q x=true/\z=.none))->ok (gn (.ref m) (.int 0)) (λx15 H=>ok (ae (aa (k+4)) "take_left" [.ref i.sd,.int x,x15]) (λu_ H=>Q V.none H) H) H3:=λnn=>by
   refine item_tup hm3 (by decide) rfl<|kX h3 hv3 hl hl2 λH4 h4 f4=>K H4 ?_ (g3.trans f4)
   refine wr (if_pos nn) ?_;exact h4
  rcases hk:kept p D x with _|_
  .refine aj ?_;exact right (by refine wr hk ?_;simp)
  .refine aj ?_
   rcases hc:cj q x with _|_
   .refine aj ?_;exact left ⟨hk,by refine wr hc ?_;simp⟩
   .refine eE h3<|kj (args:=[]) h3.ru (by kernel_rfl) (item_tup hm3 (by decide) rfl (rq h3.ru hv3 ?_))
    refine aj ?_
    by_cases hz:z=.none
    .refine aM (decide_eq_true hz)<|aj<|wr (hc.symm)<|right (by simp[hc,hz])
    .refine aJ (decide_eq_false hz)<|aj<|left ⟨hk,by simp[hz]⟩
 .rw[hlk] at K;dsimp only at K;have h1:=h.up f1;have g1:Fm (SS i) H H1:=f1.aE λu_ q=>q.elim;refine bF (aj ?_);dsimp only[cond];refine iE h1 λH2 f2=>?_;have h2:=h1.up f2;have g2:Fm (SS i) H H2:=g1.trans (f2.aE λu_ q=>q.elim);refine aj<|aj<|aj ?_
  rcases hc:cj q x with _|_
  .refine K H2 ?_ g2;refine wr (if_neg (by rw[hc];decide)) ?_;exact h2
  .refine jZ h2 (ha.up h.wf (f1.trans f2)) hl hl2 hl3 λH4 h4 f4=>K H4 ?_ (g2.trans f4);refine wr (if_pos hc) ?_;exact h4
theorem jc {ru n:Nat}(w:Wf H) (h:Ru H ru D) (hp:PL H n p) (hc:p.lookup 100=none) (K:∀H',Up H H'->Q (.bool false) H'):ok (ae (aa (k+3)) "is_front_category" [.ref ru,.ref n]) Q H:=by
 refine P.jN ?_;obtain⟨li,pd,de,a,b,c,d⟩:=h;refine aQ a (by kernel_rfl) (v:=.int 100) (by kernel_rfl)<|fT w hp λH2 f2=>⟨λy m a hl=>absurd (hc.symm.trans hl) (by simp),λu_=>?_⟩
 refine fF<|K H2 f2
end
end Mi
namespace Mi
open PySem
structure SC (H0 H:AH) (sd ru l r:Nat) (D:List Int) (p q:aO) (fs:List (Str×V)):Prop where
 wf:Wf H
 ru:Ru H ru D
 pl:PL H l p
 pr:PL H r q
 ob:H.at_ sd=some (.inst "Sides" fs)
 up:Up H0 H
 new:H0.nx<=sd
section
variable {H0 H H':AH}{S:Nat->Prop}{k:Nat}{Q:KV}{QU:Unit->AH->Prop}{QB:KB}{tab:Tab}{i:SI}{D:List Int}{p q:aO}{sd ru l r:Nat}{fs:List (Str×V)}
theorem ez {m:Nat}{a b:Str}{f g:List (Str×V)}(h:H.at_ m=some (.inst a f)) (h':H.at_ m=some (.inst b g)) (hn:(a==b)=false):False:=by
 rw[h] at h';have:=(O.inst.inj (Option.some.inj h')).1;rw[beq_iff_eq.mpr this] at hn;exact tf hn
theorem SC.KX (c:SC H0 H sd ru l r D p q fs) (f:Up H H'):SC H0 H' sd ru l r D p q fs:=
 ⟨f.wf,c.ru.up c.wf f,c.pl.up c.wf f,c.pr.up c.wf f,f.at_ c.wf c.ob λq=>q,c.up.trans f,c.new⟩
theorem SC.tk (c:SC H0 H sd ru l r D p q fs) (o:O):TK H (H.put sd o):=λm l e=>by
 rw[aK,if_neg]
 .exact e
 .rintro rfl;rw[c.ob] at e;exact nO e rfl
theorem SC.put (c:SC H0 H sd ru l r D p q fs) (gs:List (Str×V)):SC H0 (H.put sd (.inst "Sides" gs)) sd ru l r D p q gs:=by
 obtain⟨w,⟨li,pd,de,r1,r2,r3,r4⟩,pl,pr,ob,up,new⟩:=id c;have ot:∀{m o},H.at_ m=some o->m≠sd->(H.put sd (.inst "Sides" gs)).at_ m=some o:=λ{m o} e hm=>by refine wr aK (wr (if_neg hm) ?_);exact e
 have hl:∀{m l},H.at_ m=some (.list l)->m≠sd:=λ{m l} e=>by rintro rfl;rw[ob] at e;exact nO e rfl
 refine⟨w.put ob,⟨li,pd,de,ot r1 ?_,ot r2 ?_,ot r3 ?_,ot r4 ?_⟩,pl.keep (c.tk _) λl e=>ot e (hl e),pr.keep (c.tk _) λl e=>ot e (hl e),by exact wr aK (wr (if_pos rfl) rfl),⟨w.put ob,up.nx,λm hm u_=>?_⟩,new⟩
 .rintro rfl;exact ez r1 ob (by kernel_rfl)
 .rintro rfl;exact ez r2 ob (by kernel_rfl)
 .rintro rfl;rw[ob] at r3;exact nO r3 rfl
 .rintro rfl;rw[ob] at r4;exact nO r4 rfl
 .refine wr aK (wr (if_neg (by exact Nat.ne_of_lt (Nat.lt_of_lt_of_le (by assumption) (by assumption)))) ?_);exact up.keep m hm λq=>q
theorem gV {f:Str}{v:V}(c:SC H0 H sd ru l r D p q fs) (hf:fld "Sides" f=true) (hl:Nat.ble (dM fs f v).length 100=true) (K:∀H',TK H H'->SC H0 H' sd ru l r D p q (dM fs f v)->(∀m o,m≠sd->H.at_ m=some o->H'.at_ m=some o)->QU () H'):ok (bZ (.ref sd) f v) QU H:=by
 refine eP c.ob hf hl ?_;exact K _ (c.tk _) (c.put _) λm o hm e=>by refine wr aK (wr (if_neg hm) ?_);exact e
theorem lA {x:Int}{n:Nat}{y:aO}(c:SC H0 H sd ru l r D p q fs) (hy:PL H n y) (hc:y.lookup 100=none) (K:∀H' a,TK H H'->SC H0 H' sd ru l r D p q fs->VP H' a (bg y x)->Q a H'):ok (ae (aa (k+3)) "value_in" [.ref ru,.ref n,.int x]) Q H:=
 fB c.wf c.ru hy hc λH' a f v=>K H' a (Up.tk c.wf f) (c.KX f) v
theorem D6 (c:SC H0 H sd ru l r D p q fs):ok (aV (.ref ru) "front_sticky") Q H=Q (.int 101) H:=by
 obtain⟨li,pd,de,a,-⟩:=c.ru;exact aW a (by kernel_rfl) (by kernel_rfl)
theorem um (c:SC H0 H sd ru l r D p q fs) (k_:Q (.int 101) H):ok (aV (.ref ru) "front_sticky") Q H:=(D6 c).mpr k_
theorem Gf (c:SC H0 H sd ru l r D p q fs):ok (aV (.ref ru) "rear_nonsticky") Q H=Q (.int 102) H:=by
 obtain⟨li,pd,de,a,-⟩:=c.ru;exact aW a (by kernel_rfl) (by kernel_rfl)
theorem xM (c:SC H0 H sd ru l r D p q fs) (k_:Q (.int 102) H):ok (aV (.ref ru) "rear_nonsticky") Q H:=(Gf c).mpr k_
theorem xF (w:Wf H) (hr:Ru H ru D) (hp:PL H l p) (hq:PL H r q) (cp:p.lookup 100=none) (cq:q.lookup 100=none)
  (K:∀H' i,Sd H' i D p q [] [] []->i.ru=ru->i.l=l->i.r=r->H.nx<=i.sd->H.nx<=i.fo->H.nx<=i.fr->H.nx<=i.re->Up H H'->Q (.ref i.sd) H'):ok (ae (aa (k+4)) "Sides" [.ref ru,.ref l,.ref r]) Q H:=by
 refine P.Hu (dO (P.w4 ?_));have c0:SC H (H.add (.inst "Sides" [])) H.nx ru l r D p q []:=⟨w.add,hr.up w (.add w),hp.up w (.add w),hq.up w (.add w),by exact wr bq (wr (if_pos rfl) rfl),.add w,Nat.le_refl _⟩;refine gV c0 (by kernel_rfl) (by kernel_rfl) λH1 t1 c1 u_=>gV c1 (by kernel_rfl) (by kernel_rfl) λH2 t2 c2 u_=>gV c2 (by kernel_rfl) (by kernel_rfl) λH3 t3 c3 u_=>um c3<|lA c3 c3.pl cp λH4 lf t4 c4 v4=>gV c4 (by kernel_rfl) (by kernel_rfl) λH5 t5 c5 u_=>xM c5<|lA c5 c5.pl cp λH6 lr t6 c6 v6=>gV c6 (by kernel_rfl) (by kernel_rfl) λH7 t7 c7 u_=>um c7<|lA c7 c7.pr cq λH8 rf t8 c8 v8=>gV c8 (by kernel_rfl) (by kernel_rfl) λH9 t9 c9 u_=>xM c9<|lA c9 c9.pr cq λH10 rr t10 c10 v10=>gV c10 (by kernel_rfl) (by kernel_rfl) λH11 t11 c11 k11=>?_
 have e0:fits (.list [])=true:=rfl;refine aB e0 ?_;have u12:Up H11 (H11.add (.list [])):=.add c11.wf;have c12:=c11.KX u12;have g12:(H11.add (.list [])).at_ H11.nx=some (.list []):=wr bq (wr (if_pos rfl) rfl);have nx12:(H11.add (.list [])).nx=H11.nx+1:=rfl;generalize H11.add (.list [])=H12 at u12 c12 g12 nx12;refine gV c12 (by kernel_rfl) (by kernel_rfl) λH13 t13 c13 k13=>aB e0 ?_;have u14:Up H13 (H13.add (.list [])):=.add c13.wf;have c14:=c13.KX u14;have g14:(H13.add (.list [])).at_ H13.nx=some (.list []):=wr bq (wr (if_pos rfl) rfl);generalize H13.add (.list [])=H14 at u14 c14 g14;refine gV c14 (by kernel_rfl) (by kernel_rfl) λH15 t15 c15 k15=>aB e0 ?_;have u16:Up H15 (H15.add (.list [])):=.add c15.wf;have c16:=c15.KX u16;have g16:(H15.add (.list [])).at_ H15.nx=some (.list []):=wr bq (wr (if_pos rfl) rfl);generalize H15.add (.list [])=H16 at u16 c16 g16;refine gV c16 (by kernel_rfl) (by kernel_rfl) λH17 t17 c17 k17=>?_;have nl:∀{X:AH} {m:Nat} {gs:List (Str×V)} {ls:List V},X.at_ H.nx=some (.inst "Sides" gs)->X.at_ m=some (.list ls)->m≠H.nx:=λ{X m gs ls} a b e=>by subst e;rw[a] at b;exact nO b rfl
 have f13:=k13 _ _ (nl c12.ob g12) g12;have f14:=u14.at_ c13.wf f13 λq=>q;have f15:=k15 _ _ (nl c14.ob f14) f14;have f16:=u16.at_ c15.wf f15 λq=>q;have f17:=k17 _ _ (nl c16.ob f16) f16;have r15:=k15 _ _ (nl c14.ob g14) g14;have r16:=u16.at_ c15.wf r15 λq=>q;have r17:=k17 _ _ (nl c16.ob r16) r16;have e17:=k17 _ _ (nl c16.ob g16) g16;have b11:H.nx<=H11.nx:=c11.up.nx;have b13:H.nx<=H13.nx:=c13.up.nx;have b15:H.nx<=H15.nx:=c15.up.nx;have l13:=c13.wf.lt f13;have l15:=c15.wf.lt r15;have l15':=c15.wf.lt f15;refine bW hp λus hpl u_=>bW hq λws hpr u_=>?_;have ll:=w.lt hpl;have lr':=w.lt hpr;have ne:H11.nx≠H13.nx/\H11.nx≠H15.nx/\H13.nx≠H15.nx/\l≠H11.nx/\l≠H13.nx/\l≠H15.nx/\r≠H11.nx/\r≠H13.nx/\r≠H15.nx:=Mo (by assumption) (by assumption) (by assumption) (by assumption) (by assumption);refine⟨rfl,K H17 ⟨H.nx,ru,l,r,H11.nx,H13.nx,H15.nx,lf,lr,rf,rr⟩ ⟨c17.wf,c17.ru,?_,?_,?_,?_,?_,c17.pl,c17.pr,⟨[],f17,trivial⟩,r17,e17,ne⟩ rfl rfl rfl (Nat.le_refl _) b11 b13 b15 c17.up⟩
 .refine wr c17.ob<|congrArg some (show _=DW ru l r lf lr rf rr H11.nx H13.nx H15.nx by kernel_rfl)
 .exact(((((((((((v4.tk t5).tk t6).tk t7).tk t8).tk t9).tk t10).tk t11).tk (Up.tk c11.wf u12)).tk t13).tk (Up.tk c13.wf u14)).tk t15).tk (Up.tk c15.wf u16)|>.tk t17
 .exact(((((((((v6.tk t7).tk t8).tk t9).tk t10).tk t11).tk (Up.tk c11.wf u12)).tk t13).tk (Up.tk c13.wf u14)).tk t15).tk (Up.tk c15.wf u16)|>.tk t17
 .exact(((((((v8.tk t9).tk t10).tk t11).tk (Up.tk c11.wf u12)).tk t13).tk (Up.tk c13.wf u14)).tk t15).tk (Up.tk c15.wf u16)|>.tk t17
 .exact(((((v10.tk t11).tk (Up.tk c11.wf u12)).tk t13).tk (Up.tk c13.wf u14)).tk t15).tk (Up.tk c15.wf u16)|>.tk t17
end
end Mi
namespace Mi
open PySem
noncomputable def cY (x:Int):Bool:=decide (x=101)||decide (x=102)
noncomputable def sQ (p q:aO) (D:List Int) (s:FT) (e:Int×PV):FT:=if cY e.1=true then s else iq p q D e.1 e.2 s
noncomputable def sP (p q:aO) (D:List Int) (s:FT) (e:Int×PV):FT:=if cY e.1=true then s else if q.lookup e.1=none then kW p q D e.1 e.2 s else s
def FT.small (s:FT) (n:Nat):Prop:=s.1.length<=n/\s.2.1.length<=n/\s.2.2.length<=n
theorem pN {b:Bool}{x:Int}:(Br b x).length<=1:=by unfold Br;split<;>simp
theorem ud {p:aO}{x:Int}{y:PV}{s:FT}{n:Nat}(h:FT.small s n):FT.small (Ld p x y s) (n+1):=by
 refine mE h λa b c=>?_;have:=pN (b:=mem x (bg p 101)) (x:=x);refine⟨?_,?_,by show s.2.2.length<=n+1;exact Nat.le_add_right_of_le (by assumption)⟩
 .show(s.1++[(x,y)]).length<=n+1;refine wr List.length_append ?_;simp;assumption
 .show(s.2.1++Br _ x).length<=n+1;refine wr List.length_append ?_;exact Nat.add_le_add (by assumption) (by assumption)
theorem uc {q:aO}{x:Int}{y:PV}{s:FT}{n:Nat}(h:FT.small s n):FT.small (Lc q x y s) (n+1):=by
 refine mE h λa b c=>?_;have h1:=pN (b:=mem x (bg q 101)) (x:=x);have h2:=pN (b:=mem x (bg q 102)) (x:=x);refine⟨?_,?_,?_⟩
 .show(s.1++[(x,y)]).length<=n+1;refine wr List.length_append ?_;simp;assumption
 .show(s.2.1++Br _ x).length<=n+1;refine wr List.length_append ?_;exact Nat.add_le_add (by assumption) (by assumption)
 .show(s.2.2++Br _ x).length<=n+1;refine wr List.length_append ?_;exact Nat.add_le_add (by assumption) (by assumption)
theorem ff {s:FT}{n:Nat}(h:FT.small s n):FT.small s (n+1):=⟨Nat.le_succ_of_le h.1,Nat.le_succ_of_le h.2.1,Nat.le_succ_of_le h.2.2⟩
theorem uW {p q:aO}{D:List Int}{x:Int}{y:PV}{s:FT}{n:Nat}(h:FT.small s n):FT.small (iq p q D x y s) (n+1):=by
 unfold iq
 split
 .split
  .exact ud h
  .split
   .exact uc h
   .exact ff h
 .split
  .exact uc h
  .exact ff h
theorem xm {p q:aO}{D:List Int}{x:Int}{y:PV}{s:FT}{n:Nat}(h:FT.small s n):FT.small (kW p q D x y s) (n+1):=by
 unfold kW
 split
 .exact ud h
 .split
  .refine mE h λa b c=>?_;have h2:=pN (b:=mem x (bg q 102)) (x:=x);refine⟨by show s.1.length<=n+1;exact Nat.le_add_right_of_le (by assumption),?_,?_⟩
   .show(s.2.1++[x]).length<=n+1;refine wr List.length_append ?_;simp;assumption
   .show(s.2.2++Br _ x).length<=n+1;refine wr List.length_append ?_;exact Nat.add_le_add (by assumption) (by assumption)
  .exact ff h
section
variable {H H':AH}{S:Nat->Prop}{k:Nat}{Q:KV}{QB:KB}{tab:Tab}{i:SI}{D:List Int}{p q FO:aO}{FR RE:List Int}
theorem ur {own:Nat}{x:Int}(h:H.at_ own=some (.tup [.int 101,.int 102])) (K:QB (!cY x) H):ok (bQ .NotIn (.int x) (.ref own)) QB H:=by
 show ok (do let r<-JQ (.int x) (.ref own);pure (!r)) QB H;refine ah ?_;have e:JQ (.int x) (.ref own) H=some (cY x,H):=by
  have h1:JQ (.int x) (.ref own) H=(look own H>>=λp=>(match p.1 with
   |.tup l=>match gZ x l with|some r=>pure r|none=>ak
   |.dict es=>pure (dictFind x es).isSome
   |_=>ak:AM Bool) p.2):=rfl
  have h2:look own H=some (.tup [.int 101,.int 102],H):=by unfold look;exact wr h rfl
  refine wr h1 (wr h2 ?_);show(match gZ x [.int 101,.int 102] with|some r=>pure r|none=>ak:AM Bool) H=_;have h3:gZ x [.int 101,.int 102]=some (decide ((101:Int)=x)||(decide ((102:Int)=x)||false)):=rfl;refine wr h3 ?_;show some (_,H)=_;unfold cY;have a:decide ((101:Int)=x)=decide (x=101):=by by_cases q:x=101<;>simp[q,eq_comm]
  have b:decide ((102:Int)=x)=decide (x=102):=by by_cases q:x=102<;>simp[q,eq_comm]
  exact wr a (wr b (wr (Bool.or_false _) rfl))
 exact⟨_,H,e,aq K⟩
theorem Sd.HB (h:Sd H i D p q FO FR RE):(¬SS i i.l)/\¬SS i i.r:=by
 obtain⟨n1,n2,n3,n4,n5,n6,n7,n8,n9⟩:=h.ne
 constructor
 .rintro(e|e|e)<;>contradiction
 .rintro(e|e|e)<;>contradiction
theorem Sd.q9 (h:Sd H i D p q FO FR RE) {m:Nat}{l:List V}(hm:H.at_ m=some (.tup l)):¬SS i m:=by
 refine bW h.found λvs b u_=>?_;rintro(e|e|e)
 .subst e;rw[b] at hm;exact nO hm rfl
 .subst e;rw[h.front] at hm;exact nO hm rfl
 .subst e;rw[h.Cm] at hm;exact nO hm rfl
noncomputable abbrev iV (i:SI) (own:Nat) (o1 o2 o3:Option V):ao:=[("rules",some (.ref i.ru)),("left",some (.ref i.l)),("right",some (.ref i.r)),("sides",some (.ref i.sd)),("own",some (.ref own)),("number",o1),("value",o2),("lisp",o3)]
def IR (H:AH) (i:SI) (own:Nat) (o3:Option V) (D:List Int) (p q:aO) (j:Nat) (ρ:ao) (H2:AH):Prop:=Fm (SS i) H H2/\(∃a b,ρ=iV i own a b o3)/\Sd H2 i D p q ((q.take j).foldl (sQ p q D) ([],[],[])).1 ((q.take j).foldl (sQ p q D) ([],[],[])).2.1 ((q.take j).foldl (sQ p q D) ([],[],[])).2.2/\FT.small ((q.take j).foldl (sQ p q D) ([],[],[])) j
theorem C3 {own:Nat}{o1 o2 o3:Option V}{vs:List V}{Q:Fl×ao->AH->Prop}(h:Sd H i D p q [] [] []) (ho:H.at_ own=some (.tup [.int 101,.int 102])) (hv:H.at_ i.r=some (.list vs))
  (K:∀H' o1 o2,Sd H' i D p q (q.foldl (sQ p q D) ([],[],[])).1 (q.foldl (sQ p q D) ([],[],[])).2.1 (q.foldl (sQ p q D) ([],[],[])).2.2->FT.small (q.foldl (sQ p q D) ([],[],[])) q.length->Fm (SS i) H H'->Q (.next,iV i own o1 o2 o3) H'):
  ok (d9 (aa (k+5)) (fD "inherited") 7 [2] (.ref i.r) (0,vs) (iV i own o1 o2 o3)) Q H:=by
 refine be (id h.pr) λus g1 g2 g3=>?_;have:us=vs:=by rw[hv] at g1;obtain rfl:=O.list.inj (Option.some.inj g1);rfl
 subst this;have hlen:=g2.len;have nr:=h.HB.2;have no:=h.q9 ho;refine dJ (I:=IR H i own o3 D p q) ⟨.refl h.wf,⟨_,_,rfl⟩,h,Nat.le_refl _,Nat.le_refl _,Nat.le_refl _⟩ ?_ ?_ (by kernel_rfl) ?_ ?_
 .intro u hu;obtain⟨j,hj,rfl⟩:=List.mem_iff_getElem.mp hu;refine eZ (g2.get (List.getElem?_eq_getElem hj)) λm a e e1 u_=>?_;refine wr e1 ?_;rfl
 .rintro j ρ H2 ⟨f,-⟩
  exact aD (f.at_ h.wf hv nr)
 .rintro j ρ H2 u hu ⟨f,⟨a,b,rfl⟩,hs,hsm⟩
  refine P.wo ?_;have tk:TK H H2:=.of h.wf f λm l hm=>h.q9 hm;refine eg ((g2.tk tk).get hu) λm c e e1 e2 e3 e4=>?_;subst e1;refine eL e3<|ur (f.at_ h.wf ho no) ?_
  have ht:(q.take (j+1)).foldl (sQ p q D) ([],[],[])=sQ p q D ((q.take j).foldl (sQ p q D) ([],[],[])) e:=by
   refine wr List.take_add_one (wr e2 ?_);simp
  have hj:j<q.length:=(List.getElem?_eq_some_iff.mp e2).1
  rcases hown:cY e.1 with _|_
  .dsimp only[cond,Bool.not];refine ve (k:=k) hs e4 (Nat.le_trans hsm.1 (by lia)) (Nat.le_trans hsm.2.1 (by lia)) (Nat.le_trans hsm.2.2 (by lia)) λH3 h3 f3=>⟨f.trans f3,⟨_,_,rfl⟩,?_⟩;refine wr ht ?_;unfold sQ;refine wr (if_neg (by rw[hown];decide)) ?_;exact⟨h3,uW hsm⟩
  .refine⟨f,⟨_,_,rfl⟩,?_⟩;refine wr ht ?_;unfold sQ;refine wr (if_pos hown)<|⟨hs,ff hsm⟩
 .rintro ρ H2 ⟨f,⟨a,b,rfl⟩,hs,hsm⟩
  have:((0,us):Nat×List V).2.length=q.length:=hlen;rw[this,List.take_length] at hs hsm;exact K H2 a b hs hsm f
end
end Mi
namespace Mi
open PySem
section
variable {H H':AH}{S:Nat->Prop}{k:Nat}{Q:KV}{QB:KB}{tab:Tab}{i:SI}{D:List Int}{p q FO:aO}{FR RE:List Int}
def IL (H:AH) (i:SI) (own:Nat) (o3:Option V) (D:List Int) (p q:aO) (B:FT) (n:Nat) (j:Nat) (ρ:ao) (H2:AH):Prop:=Fm (SS i) H H2/\(∃a b,ρ=iV i own a b o3)/\Sd H2 i D p q ((p.take j).foldl (sP p q D) B).1 ((p.take j).foldl (sP p q D) B).2.1 ((p.take j).foldl (sP p q D) B).2.2/\FT.small ((p.take j).foldl (sP p q D) B) (n+j)
theorem EI {own:Nat}{o1 o2 o3:Option V}{vs:List V}{Q:Fl×ao->AH->Prop}{B:FT}{n:Nat}(h:Sd H i D p q B.1 B.2.1 B.2.2) (hB:FT.small B n) (hn:n<=100) (ho:H.at_ own=some (.tup [.int 101,.int 102])) (hv:H.at_ i.l=some (.list vs))
  (K:∀H' o1 o2,Sd H' i D p q (p.foldl (sP p q D) B).1 (p.foldl (sP p q D) B).2.1 (p.foldl (sP p q D) B).2.2->FT.small (p.foldl (sP p q D) B) (n+p.length)->Fm (SS i) H H'->Q (.next,iV i own o1 o2 o3) H'):
  ok (d9 (aa (k+5)) (fD "inherited") 7 [3] (.ref i.l) (0,vs) (iV i own o1 o2 o3)) Q H:=by
 refine be (id h.pl) λus g1 g2 g3=>?_;have:us=vs:=by rw[hv] at g1;obtain rfl:=O.list.inj (Option.some.inj g1);rfl
 subst this;have hlen:=g2.len;have nl:=h.HB.1;have no:=h.q9 ho;refine dJ (I:=IL H i own o3 D p q B n) ⟨.refl h.wf,⟨_,_,rfl⟩,h,hB⟩ ?_ ?_ (by kernel_rfl) ?_ ?_
 .intro u hu;obtain⟨j,hj,rfl⟩:=List.mem_iff_getElem.mp hu;refine eZ (g2.get (List.getElem?_eq_getElem hj)) λm a e e1 u_=>?_;refine wr e1 ?_;rfl
 .rintro j ρ H2 ⟨f,-⟩
  exact aD (f.at_ h.wf hv nl)
 .rintro j ρ H2 u hu ⟨f,⟨a,b,rfl⟩,hs,hsm⟩
  refine P.wm ?_;have tk:TK H H2:=.of h.wf f λm l hm=>h.q9 hm;refine eg ((g2.tk tk).get hu) λm c e e1 e2 e3 e4=>?_;subst e1;refine eL e3<|ur (f.at_ h.wf ho no) ?_
  have ht:(p.take (j+1)).foldl (sP p q D) B=sP p q D ((p.take j).foldl (sP p q D) B) e:=by
   refine wr List.take_add_one (wr e2 ?_);simp
  have hj:j<p.length:=(List.getElem?_eq_some_iff.mp e2).1
  rcases hown:cY e.1 with _|_
  .dsimp only[cond,Bool.not];refine gX (k:=k+4) hs.wf hs.pr λH3 ix f3 hix=>?_;have h3:=hs.up f3;have g3:Fm (SS i) H H3:=f.trans (f3.aE λu_ q=>q.elim);refine cU ?_
   rcases hix with⟨h0,y,hy,hl⟩|⟨rfl,hl⟩
   .refine aJ (decide_eq_false (by lia))<|⟨g3,⟨_,_,rfl⟩,?_⟩
    refine wr ht ?_;unfold sP;refine wr (if_neg (by rw[hown];decide)) (wr (if_neg (by rw[hl];simp)) ?_);exact⟨h3,ff hsm⟩
   .refine wr (decide_eq_true (by exact Int.natCast_nonneg _)) ?_;dsimp only;refine xn (k:=k) h3 (e4.up hs.wf f3) (Nat.le_trans hsm.1 (by lia)) (Nat.le_trans hsm.2.1 (by lia)) (Nat.le_trans hsm.2.2 (by lia)) λH4 h4 f4=>⟨g3.trans f4,⟨_,_,rfl⟩,?_⟩;refine wr ht ?_;unfold sP;refine wr (if_neg (by rw[hown];decide)) (wr (if_pos hl) ?_);exact⟨h4,xm hsm⟩
  .refine⟨f,⟨_,_,rfl⟩,?_⟩;refine wr ht ?_;unfold sP;refine wr (if_pos hown)<|⟨hs,ff hsm⟩
 .rintro ρ H2 ⟨f,⟨a,b,rfl⟩,hs,hsm⟩
  have:((0,us):Nat×List V).2.length=p.length:=hlen;rw[this] at hsm;rw[this,List.take_length] at hs;rw[List.take_length] at hsm;exact K H2 a b hs hsm f
theorem Gl {m:Nat}{vs:List V}(h:H.at_ m=some (.list vs)) (hl:vs.length<=1000):ok (cE .tuple [.ref m]) Q H=Q (.ref H.nx) (H.add (.tup vs)):=by
 have h1:cE .tuple [.ref m] H=(fJ (.ref m) H>>=λp=>ba (.tup p.1.2) p.2):=rfl;have h3:fJ (.ref m) H=(look m H>>=λp=>(match p.1 with|.list l=>pure (m,l)|_=>ak:AM (Nat×List V)) p.2):=rfl;have h2:look m H=some (.list vs,H):=by unfold look;exact wr h rfl
 refine cA<|wr h1 (wr h3 (wr h2 ?_))
 show ba (.tup vs) H=_;unfold ba;refine wr (show fits (.tup vs)=true from Nat.ble_eq_true_of_le hl) ?_;rfl
theorem yc {m:Nat}{vs:List V}(h:H.at_ m=some (.list vs)) (hl:vs.length<=1000) (k_:Q (.ref H.nx) (H.add (.tup vs))):ok (cE .tuple [.ref m]) Q H:=(Gl h hl).mpr k_
theorem CA {m n:Nat}{x y:V}{vs ws:List V}(h:H.at_ m=some (.tup (x::vs))) (h':H.at_ n=some (.tup (y::ws))) (hl:(x::vs++y::ws).length<=1000):ok (dI .Add (.ref m) (.ref n)) Q H=Q (.ref H.nx) (H.add (.tup (x::vs++y::ws))):=by
 have h1:dI .Add (.ref m) (.ref n) H=(look m H>>=λp=>(look n>>=λq=>match p.1,q with
   |.list l,.list k=>ba (.list (l++k))
   |.tup (x::l),.tup []=>pure (.ref m)
   |.tup (x::l),.tup (y::k)=>ba (.tup (x::l++y::k))
   |_,_=>ak:AM V) p.2):=rfl
 have h2:look m H=some (.tup (x::vs),H):=by unfold look;exact wr h rfl
 have h3:look n H=some (.tup (y::ws),H):=by unfold look;exact wr h' rfl
 refine cA<|wr h1 (wr h2 ?_)
 show(look n H>>=λq=>(match O.tup (x::vs),q.1 with
   |.list l,.list k=>ba (.list (l++k))
   |.tup (x::l),.tup []=>pure (.ref m)
   |.tup (x::l),.tup (y::k)=>ba (.tup (x::l++y::k))
   |_,_=>ak:AM V) q.2)=_
 refine wr h3 ?_;show ba (.tup (x::vs++y::ws)) H=_;unfold ba;refine wr (show fits (.tup (x::vs++y::ws))=true from Nat.ble_eq_true_of_le hl) ?_;rfl
theorem qW {m n:Nat}{x y:V}{vs ws:List V}(h:H.at_ m=some (.tup (x::vs))) (h':H.at_ n=some (.tup (y::ws))) (hl:(x::vs++y::ws).length<=1000) (k_:Q (.ref H.nx) (H.add (.tup (x::vs++y::ws)))):ok (dI .Add (.ref m) (.ref n)) Q H:=(CA h h' hl).mpr k_
theorem B6 {li pd:Nat}{x:Int}(w:Wf H) (h:H.at_ li=some (gN pd)) (K:∀H',Up H H'->H'.at_ H.nx=some (.tup [.str "symbol",.int x])->Q (.ref H.nx) H'):aA (aa (k+1)) (.ref li) "symbol" (λA H=>A [.int x] H) Q H:=by
 refine hV h (by kernel_rfl) (P.kM ?_);refine aB (by kernel_rfl)<|K _ (.add w) (by exact wr bq (wr (if_pos rfl) rfl))
theorem oJ {li m:Nat}{vs:List V}{l:List Int}(w:Wf H) (hm:H.at_ m=some (.list vs)) (hs:gF H vs l) (hne:l≠[]) (hl:l.length<=100)
  (K:∀H' n,Up H H'->VP H' (.ref n) (.lst l)->Q (.ref n) H'):ok (bB (aa (k+1)) "PlainLisp" "list_of" [.ref li,.ref m]) Q H:=by
 refine P.jQ ?_;have hlen:=hs.len;refine aB (by kernel_rfl) ?_;have f1:Up H (H.add (.tup [.str "list"])):=.add w;have g1:(H.add (.tup [.str "list"])).at_ H.nx=some (.tup [.str "list"]):=wr bq (wr (if_pos rfl) rfl);generalize H.add (.tup [.str "list"])=H1 at f1 g1;refine yc (f1.at_ w hm λq=>q) (by exact Nat.le_trans (Nat.le_of_eq (by assumption)) (Nat.le_trans (by assumption) (by decide))) ?_;have f2:Up H1 (H1.add (.tup vs)):=.add f1.wf;have g2:(H1.add (.tup vs)).at_ H1.nx=some (.tup vs):=wr bq (wr (if_pos rfl) rfl);have g1':=f2.at_ f1.wf g1 λq=>q;generalize H1.add (.tup vs)=H2 at f2 g2 g1'
 rcases vs with _|⟨v,vs⟩
 .induction l with|nil=>exact absurd rfl hne|cons=>exact hs.elim
 .refine qW (vs:=[]) g1' g2 (by simp at hlen⊢;lia) ?_;have f3:Up H2 (H2.add (.tup ([.str "list"]++v::vs))):=.add f2.wf;have f123:=(f1.trans f2).trans f3;exact K _ _ f123 ⟨v::vs,by refine wr bq (wr (if_pos rfl) ?_);rfl,hs.tk (Up.tk w f123),hl⟩
end
end Mi
namespace Mi
open PySem
section
variable {H H':AH}{S:Nat->Prop}{k:Nat}{Q:KV}{QB:KB}{tab:Tab}{i:SI}{D:List Int}{p q FO:aO}{FR RE:List Int}
theorem gF.app {vs us:List V}{p q:List Int}(x:gF H vs p) (y:gF H us q):gF H (vs++us) (p++q):=aS.app x y
theorem ue {pth:List Nat}{src li pd own:Nat}{o1 o2:Option V}{X:List Int}{Q:List V->AH->Prop}(w:Wf H) (hl:H.at_ li=some (gN pd)) (hs:H.at_ src=some (.list (X.map V.int)))
  (hc0:∀(a b:V),True) (e0:ib (fD "inherited") pth 0 (iV i own o1 o2 (some (.ref li)))=(([(".0",none),("number",none)]:ao)++iV i own o1 o2 (some (.ref li))))
  (e1:∀(oc:Option V) (x:V) (Q:ao->List V->AH->Prop) (H:AH),fp (aa (k+5)) (fD "inherited") 20 pth 0 (([(".0",none),("number",oc)]:ao)++iV i own o1 o2 (some (.ref li))) x Q H=(aA (aa (k+5)) (.ref li) "symbol" (λA H=>A [x] H) (λx1 H=>Q (([(".0",none),("number",some x)]:ao)++iV i own o1 o2 (some (.ref li))) [x1] H) H))
  (e2:I9 (kJ (fD "inherited") pth 0)=true)
  (K:∀H' vs,Up H H'->gF H' vs X->Q vs H'):ok (dC (aa (k+5)) (fD "inherited") 20 pth 0 (iV i own o1 o2 (some (.ref li))) (.ref src) (0,X.map V.int)) Q H:=by
 refine ee (I:=λj acc ρ H2=>Up H H2/\(∃oc,ρ=(([(".0",none),("number",oc)]:ao)++iV i own o1 o2 (some (.ref li))))/\gF H2 acc (X.take j)) ⟨.refl w,⟨_,e0⟩,trivial⟩ ?_ ?_ e2 ?_ ?_
 .intro u hu;refine bW (List.mem_map.mp hu) λx u_ z1=>?_;subst z1;rfl
 .rintro j acc ρ H2 ⟨f,-⟩
  exact aD (f.at_ w hs λq=>q)
 .rintro j acc ρ H2 u hu ⟨f,⟨oc,rfl⟩,h0⟩
  have hj:∃x,X[j]? =some x/\u=.int x:=by
   rw[List.getElem?_map] at hu;revert hu;generalize X[j]? =o_;rcases o_ with _|x
   .intro hu;exact ns hu
   .intro hu;obtain rfl:=Option.some.inj hu;exact⟨x,rfl,rfl⟩
  refine bW hj λx hx z2=>?_;subst z2;refine wr (e1 _ _ _ _)<|B6 (k:=k+4) f.wf (f.at_ w hl λq=>q) λH3 f3 g3=>⟨f.trans f3,⟨_,rfl⟩,?_⟩
  refine wr List.take_add_one (wr hx ?_);exact(h0.tk (Up.tk f.wf f3)).app ⟨⟨_,rfl,g3⟩,trivial⟩
 .rintro acc ρ H2 ⟨f,-,h0⟩
  have:((0,X.map V.int):Nat×List V).2.length=X.length:=List.length_map _;rw[this,List.take_length] at h0;exact K H2 acc f h0
theorem Ck {li pd own:Nat}{o1 o2:Option V}(h:Sd H i D p q FO FR RE) (hl:H.at_ li=some (gN pd)) (hn:RE≠[]) (hb:RE.length<=100) (hfo:FO.length<=500)
  (K:∀H',Sd H' i D p q (FO++[(102,.lst RE)]) FR RE->Fm (SS i) H H'->Q .none H'):
  ok (aV (.ref i.sd) "found") (λx5 H=>aA (aa (k+5)) x5 "append" (λA H=>ok (aV (.ref i.ru) "rear_nonsticky") (λx6 H=>aA (aa (k+5)) (.ref li) "list_of" (λA H=>ok (aV (.ref i.sd) "rear") (λx7 H=>ok (aF x7) (λl8 H=>ok (dC (aa (k+5)) (fD "inherited") 20 [5,0,0] 0 (iV i own o1 o2 (some (.ref li))) x7 l8) (λout9 H=>ok (ba (.list out9)) (λx10 H=>A [x10] H) H) H) H) H) (λx11 H=>ok (ba (.tup [x6,x11])) (λx12 H=>A [x12] H) H) H) H) Q H) H:=by
 refine qx h<|bW h.found λvs b1 b2=>dA (m:=.append) b1 (by kernel_rfl) rfl ?_
 obtain⟨li',pd',de,r1,-⟩:=h.ru;refine aQ r1 (by kernel_rfl) (v:=.int 102) (by kernel_rfl)<|hV hl (by kernel_rfl) ?_
 refine zF h ?_;refine cz (aD h.Cm) ?_;refine ue h.wf hl h.Cm (λu_ u_=>trivial) (P.tE _ _ _ _ _ _ _ _) (λoc x Q H=>P.wy _ _ _ _ _ _ _ _ _ _ _ _ _) (by kernel_rfl) λH1 out f1 hsy=>?_;have hol:=hsy.len;refine aB (bp (by exact Nat.le_trans (Nat.le_of_eq (by assumption)) (Nat.le_trans (by assumption) (by decide)))) ?_;have f2:Up H1 (H1.add (.list out)):=.add f1.wf;have g2:(H1.add (.list out)).at_ H1.nx=some (.list out):=wr bq (wr (if_pos rfl) rfl);have hsy2:=hsy.tk (Up.tk f1.wf f2);generalize H1.add (.list out)=H2 at f2 g2 hsy2;refine oJ (k:=k+4) f2.wf g2 hsy2 hn hb λH3 n f3 hv=>?_;have f13:=(f1.trans f2).trans f3;have h3:=h.up f13;refine aB (by kernel_rfl) ?_;have f4:Up H3 (H3.add (.tup [.int 102,.ref n])):=.add f3.wf;have g4:(H3.add (.tup [.int 102,.ref n])).at_ H3.nx=some (.tup [.int 102,.ref n]):=wr bq (wr (if_pos rfl) rfl);have hv4:=hv.up f3.wf f4;have h4:=h3.up f4;generalize H3.add (.tup [.int 102,.ref n])=H4 at f4 g4 hv4 h4;have f14:=f13.trans f4;have b1':=f14.at_ h.wf b1 λq=>q;refine⟨_,b1',?_⟩;show ok (do eB i.fo (.list (vs++[.ref H3.nx]));pure .none) Q H4;refine ah ?_;have hlen:=b2.len;refine eO (bp (by refine wr List.length_append ?_;simp;exact Nat.le_trans (Nat.le_of_eq (by assumption)) (Nat.le_trans (by assumption) (by decide)))) ?_;refine aq ?_;have:=h4.Eb (vs:=vs++[.ref H3.nx]) (F:=FO++[(102,.lst RE)]) ((b2.tk (Up.tk h.wf f14)).app ⟨⟨_,_,rfl,g4,hv4⟩,trivial⟩);exact K _ this.1 ((f14.aE λu_ q=>q.elim).trans this.2)
theorem Ay {li pd own:Nat}{o1 o2:Option V}(h:Sd H i D p q FO FR RE) (hl:H.at_ li=some (gN pd)) (hn:FR≠[]) (hb:FR.length<=100) (hfo:FO.length<=501)
  (K:∀H',Sd H' i D p q (FO++[(101,.lst FR)]) FR RE->Fm (SS i) H H'->Q .none H'):
  ok (aV (.ref i.sd) "found") (λx5 H=>aA (aa (k+5)) x5 "append" (λA H=>ok (aV (.ref i.ru) "front_sticky") (λx6 H=>aA (aa (k+5)) (.ref li) "list_of" (λA H=>ok (aV (.ref i.sd) "front") (λx7 H=>ok (aF x7) (λl8 H=>ok (dC (aa (k+5)) (fD "inherited") 20 [6,0,0] 0 (iV i own o1 o2 (some (.ref li))) x7 l8) (λout9 H=>ok (ba (.list out9)) (λx10 H=>A [x10] H) H) H) H) H) (λx11 H=>ok (ba (.tup [x6,x11])) (λx12 H=>A [x12] H) H) H) H) Q H) H:=by
 refine qx h<|bW h.found λvs b1 b2=>dA (m:=.append) b1 (by kernel_rfl) rfl ?_
 obtain⟨li',pd',de,r1,-⟩:=h.ru;refine aQ r1 (by kernel_rfl) (v:=.int 101) (by kernel_rfl)<|hV hl (by kernel_rfl) ?_
 refine zG h ?_;refine cz (aD h.front) ?_;refine ue h.wf hl h.front (λu_ u_=>trivial) (P.tD _ _ _ _ _ _ _ _) (λoc x Q H=>P.wx _ _ _ _ _ _ _ _ _ _ _ _ _) (by kernel_rfl) λH1 out f1 hsy=>?_;have hol:=hsy.len;refine aB (bp (by exact Nat.le_trans (Nat.le_of_eq (by assumption)) (Nat.le_trans (by assumption) (by decide)))) ?_;have f2:Up H1 (H1.add (.list out)):=.add f1.wf;have g2:(H1.add (.list out)).at_ H1.nx=some (.list out):=wr bq (wr (if_pos rfl) rfl);have hsy2:=hsy.tk (Up.tk f1.wf f2);generalize H1.add (.list out)=H2 at f2 g2 hsy2;refine oJ (k:=k+4) f2.wf g2 hsy2 hn hb λH3 n f3 hv=>?_;have f13:=(f1.trans f2).trans f3;have h3:=h.up f13;refine aB (by kernel_rfl) ?_;have f4:Up H3 (H3.add (.tup [.int 101,.ref n])):=.add f3.wf;have g4:(H3.add (.tup [.int 101,.ref n])).at_ H3.nx=some (.tup [.int 101,.ref n]):=wr bq (wr (if_pos rfl) rfl);have hv4:=hv.up f3.wf f4;have h4:=h3.up f4;generalize H3.add (.tup [.int 101,.ref n])=H4 at f4 g4 hv4 h4;have f14:=f13.trans f4;have b1':=f14.at_ h.wf b1 λq=>q;refine⟨_,b1',?_⟩;show ok (do eB i.fo (.list (vs++[.ref H3.nx]));pure .none) Q H4;refine ah ?_;have hlen:=b2.len;refine eO (bp (by refine wr List.length_append ?_;simp;exact Nat.le_trans (Nat.le_of_eq (by assumption)) (Nat.le_trans (by assumption) (by decide)))) ?_;refine aq ?_;have:=h4.Eb (vs:=vs++[.ref H3.nx]) (F:=FO++[(101,.lst FR)]) ((b2.tk (Up.tk h.wf f14)).app ⟨⟨_,_,rfl,g4,hv4⟩,trivial⟩);exact K _ this.1 ((f14.aE λu_ q=>q.elim).trans this.2)
end
end Mi
namespace Mi
open PySem
noncomputable def dX (p q:aO) (D:List Int):FT:=p.foldl (sP p q D) (q.foldl (sQ p q D) ([],[],[]))
noncomputable def FY (p q:aO) (D:List Int):aO:=(dX p q D).1++(if(dX p q D).2.2≠[] then[(102,.lst (dX p q D).2.2)] else[])++(if(dX p q D).2.1≠[] then[(101,.lst (dX p q D).2.1)] else[])
section
variable {H H':AH}{S:Nat->Prop}{k:Nat}{Q:KV}{QB:KB}{tab:Tab}{D:List Int}{p q:aO}
theorem uw {l:aO}{x:Int}(h:∀e∈l,e.1≠x):l.lookup x=none:=by
 induction l with
 |nil=>rfl
 |cons e l ih=>
  obtain⟨a,b⟩:=e;refine wr List.lookup_cons ?_;have:a≠x:=h (a,b) List.mem_cons_self;refine wr (show(x==a)=false from beq_eq_false_iff_ne.mpr this.symm)<|ih λe he=>h e (List.mem_cons_of_mem _ he)
theorem wk {ru l r:Nat}(w:Wf H) (hr:Ru H ru D) (hp:PL H l p) (hq:PL H r q) (cp:p.lookup 100=none) (cq:q.lookup 100=none) (lp:p.length<=20) (lq:q.length<=20) (hF:∀e∈(dX p q D).1,e.1≠100)
  (K:∀H' n,PL H' n (FY p q D)->H.nx<=n->Up H H'->Q (.ref n) H'):ok (ae (aa (k+6)) "inherited" [.ref ru,.ref l,.ref r]) Q H:=by
 refine P.yM<|xF (k:=k+1) w hr hp hq cp cq λH1 i h1 e1 e2 e3 n1 n2 n3 n4 f1=>?_
 subst e1;subst e2;subst e3;obtain⟨li,pd,de,r1,r2,-⟩:=id h1.ru;refine aQ r1 (by kernel_rfl) (v:=.int 101) (by kernel_rfl) (aQ r1 (by kernel_rfl) (v:=.int 102) (by kernel_rfl) (aB (by kernel_rfl) ?_));have f2:Up H1 (H1.add (.tup [.int 101,.int 102])):=.add h1.wf;have g2:(H1.add (.tup [.int 101,.int 102])).at_ H1.nx=some (.tup [.int 101,.int 102]):=wr bq (wr (if_pos rfl) rfl);have h2:=h1.up f2;generalize H1.nx=own at g2;generalize H1.add (.tup [.int 101,.int 102])=H2 at f2 g2 h2;have f12:=f1.trans f2;refine bW (id h2.pr) λvs v1 u_=>cz (aD v1)<|C3 (k:=k) h2 g2 v1 λH3 a3 b3 h3 s3 f3=>P.wA ?_
 have no:=h2.q9 g2;have g3:=f3.at_ h2.wf g2 no;refine bW (id h3.pl) λus u1 u_=>cz (aD u1)<|EI (k:=k) (n:=q.length) h3 s3 (by exact Nat.le_trans (by assumption) (by decide)) g3 u1 λH4 a4 b4 h4 s4 f4=>P.wz ?_
 obtain⟨li,pd,de,r1,r2,r3,r4⟩:=id h4.ru;have h4:Sd H4 i D p q (dX p q D).1 (dX p q D).2.1 (dX p q D).2.2:=h4;have s4:FT.small (dX p q D) (q.length+p.length):=s4;have f34:=f3.trans f4;refine aQ r1 (by kernel_rfl) (v:=.ref li) (by kernel_rfl) ?_;have fin_:∀{H5:AH} {X:aO},Sd H5 i D p q X (dX p q D).2.1 (dX p q D).2.2->Fm (SS i) H4 H5->X=FY p q D->X.length<=100->ok (aV (.ref i.sd) "found") (λx29 H=>fin Q (Fl.ret x29) (iV i own a4 b4 (some (.ref li))) H) H5:=λ{H5 X} h5 f5 hX hl=>by
  refine qx h5<|bW h5.found λvs c1 c2=>K H5 i.fo ⟨vs,c1,hX▸c2,hX▸hl⟩ n2 (f12.bG (f34.trans f5) λm hm q=>?_)
  rcases q with q|q|q
  .subst q;lia
  .subst q;lia
  .subst q;lia
 have nli:¬SS i li:=λq=>by
  rcases q with q|q|q
  .subst q;refine bW h4.found λvs b u_=>?_;rw[b] at r2;exact nO r2 rfl
  .subst q;rw[h4.front] at r2;exact nO r2 rfl
  .subst q;rw[h4.Cm] at r2;exact nO r2 rfl
 have lF:=s4.1;have lFR:=s4.2.1;have lRE:=s4.2.2;have tail:∀{H5:AH} {X:aO},Sd H5 i D p q X (dX p q D).2.1 (dX p q D).2.2->Fm (SS i) H4 H5->X=(dX p q D).1++(if(dX p q D).2.2≠[] then[(102,.lst (dX p q D).2.2)] else[])->
   ok (aV (.ref i.sd) "front") (λx14 H=>ok (cE .len [x14]) (λx15 H=>ok (bQ .Gt x15 (V.int 0)) (λb16 H=>cond b16 (ok (aV (.ref i.sd) "found") (λx17 H=>ok (ae (aa (k+5)) "is_front_category" [.ref i.ru,x17]) (λx18 H=>ok (ck x18) (λb19 H=>cond (!b19) (ok (aV (.ref i.sd) "found") (λx20 H=>aA (aa (k+5)) x20 "append" (λA H=>ok (aV (.ref i.ru) "front_sticky") (λx21 H=>aA (aa (k+5)) (.ref li) "list_of" (λA H=>ok (aV (.ref i.sd) "front") (λx22 H=>ok (aF x22) (λl23 H=>ok (dC (aa (k+5)) (fD "inherited") 20 [6,0,0] 0 (iV i own a4 b4 (some (.ref li))) x22 l23) (λout24 H=>ok (ba (.list out24)) (λx25 H=>A [x25] H) H) H) H) H) (λx26 H=>ok (ba (.tup [x21,x26])) (λx27 H=>A [x27] H) H) H) H) (λx28 H=>ok (aV (.ref i.sd) "found") (λx29 H=>fin Q (Fl.ret x29) (iV i own a4 b4 (some (.ref li))) H) H) H) H) (ok (aV (.ref i.sd) "found") (λx30 H=>fin Q (Fl.ret x30) (iV i own a4 b4 (some (.ref li))) H) H)) H) H) H) (ok (aV (.ref i.sd) "found") (λx31 H=>fin Q (Fl.ret x31) (iV i own a4 b4 (some (.ref li))) H) H)) H) H) H5:=λ{H5 X} h5 f5 hX=>by
  have lX:X.length<=41:=by
   refine wr hX (wr List.length_append ?_)
   split
   .simp;lia
   .simp;lia
  refine zG h5 (aZ h5.front (bN ?_));refine wr (List.length_map _) ?_
  by_cases c:(dX p q D).2.1=[]
  .refine wr c<|aJ (decide_eq_false (by simp)) ?_
   rw[c] at h5;refine fin_ (c.symm▸h5) f5 ?_ (by exact Nat.le_add_left_of_le (by assumption));unfold FY;exact wr hX (wr (if_neg (show¬((dX p q D).2.1≠[]) from λn=>n c)) (wr (List.append_nil _) rfl))
  .have cl:0<(dX p q D).2.1.length:=List.length_pos_iff.mpr c;refine aM (decide_eq_true (by exact Int.ofNat_lt.mpr (by assumption)))<|qx h5<|bW (id h5.found) λvs c1 c2=>?_
   have hX100:X.lookup 100=none:=uw λe he=>by
    rw[hX] at he
    rcases List.mem_append.mp he with he|he
    .exact hF e he
    .split at he
     .simp at he;refine wr he ?_;simp
     .exact nm he
   refine jc (k:=k+2) h5.wf h5.ru ⟨vs,c1,c2,by exact Nat.le_trans (by assumption) (by decide)⟩ hX100 λH6 f6=>?_;have h6:=h5.up f6;refine aj ?_;have hli:H6.at_ li=some (gN pd):=f6.at_ h5.wf (f5.at_ h4.wf r2 nli) λq=>q;refine Ay (k:=k) h6 hli c (by lia) (by exact Nat.le_trans (by assumption) (by decide)) λH7 h7 f7=>?_;refine fin_ h7 ((f5.trans (f6.aE λu_ q=>q.elim)).trans f7) ?_ (by refine wr List.length_append ?_;simp;exact Nat.le_trans (by assumption) (by decide));unfold FY;exact wr hX (wr (if_pos c) rfl)
 refine zF h4 (aZ h4.Cm (bN ?_));refine wr (List.length_map _) ?_
 by_cases c:(dX p q D).2.2=[]
 .refine aJ (decide_eq_false (by refine wr c ?_;simp)) ?_;exact tail h4 (.refl h4.wf) (by exact wr (if_neg (show¬((dX p q D).2.2≠[]) from λn=>n c)) (wr (List.append_nil _) rfl))
 .have cl:0<(dX p q D).2.2.length:=List.length_pos_iff.mpr c;refine aM (decide_eq_true (by exact Int.ofNat_lt.mpr (by assumption)))<|Ck (k:=k) h4 r2 c (by lia) (by lia) λH5 h5 f5=>tail h5 f5 (by exact wr (if_pos c) rfl)
end
end Mi
namespace Mi
open PySem
noncomputable def rP (p q:aO) (D:List Int) (x:Int) (y:PV):Option PV:=match p.lookup x with
 |some z=>if kept p D x=true/\¬(cj q x=true/\z=.none) then some z else if cj q x=true then some y else none
 |none=>if cj q x=true then some y else none
noncomputable def qV (p:aO) (D:List Int) (x:Int) (y:PV):Option PV:=if kept p D x=true then some y else none
theorem kh {p q:aO}{D:List Int}{x:Int}{y:PV}{s:FT}:(iq p q D x y s).1=s.1++(rP p q D x y).toList.map (λv=>(x,v)):=by
 unfold iq rP
 rcases p.lookup x with _|z
 .dsimp only
  split
  .rfl
  .simp
 .dsimp only
  split
  .rfl
  .split
   .rfl
   .simp
theorem mG {p q:aO}{D:List Int}{x:Int}{y:PV}{s:FT}:(kW p q D x y s).1=s.1++(qV p D x y).toList.map (λv=>(x,v)):=by
 unfold kW qV
 split
 .rfl
 .split<;>simp
theorem lI {x a:Int}{o:Option PV}:(o.toList.map (λv=>(a,v)):aO).lookup x=if a=x then o else none:=by
 induction o with
 |none=>simp
 |some v=>
  show([(a,v)]:aO).lookup x=_;refine wr List.lookup_cons ?_
  by_cases q:a=x
  .subst q;simp
  .refine wr (show(x==a)=false from beq_eq_false_iff_ne.mpr (λe=>q e.symm)) ?_;simp[q]
theorem gi {l:aO}{x:Int}{v:PV}(h:l.lookup x=some v):(x,v)∈l:=by
 induction l with
 |nil=>exact ns h
 |cons e l ih=>
  obtain⟨a,b⟩:=e;rw[List.lookup_cons] at h
  rcases q:x==a with _|_
  .rw[q] at h;exact List.mem_cons_of_mem _ (ih h)
  .rw[q] at h;obtain rfl:=Option.some.inj h;refine wr (eq_of_beq q) ?_;exact List.mem_cons_self
theorem AA {p q:aO}{D:List Int}{x:Int}(hx:cY x=false) {r:aO}{s:FT}(nd:(r.map (·.1)).Nodup):(r.foldl (sQ p q D) s).1.lookup x=(s.1.lookup x).or ((r.lookup x).bind λy=>rP p q D x y):=by
 induction r generalizing s with
 |nil=>simp
 |cons ay r ih=>
  obtain⟨a,y⟩:=ay;obtain⟨n1,n2⟩:=List.nodup_cons.mp nd;refine wr List.foldl_cons (wr (ih n2) ?_);have hr:a=x->r.lookup x=none:=λe=>by
   subst e
   rcases q:r.lookup a with _|v
   .rfl
   .exact absurd (List.mem_map_of_mem (f:=(·.1)) (gi q)) n1
  refine wr List.lookup_cons ?_
  by_cases e:a=x
  .subst e;refine wr (hr rfl) (wr (show(a==a)=true from beq_self_eq_true a) ?_);unfold sQ;refine wr (if_neg (by rw[hx];decide)) (wr kh (wr List.lookup_append (wr lI (wr (if_pos rfl) ?_))));simp
  .refine wr (show(x==a)=false from beq_eq_false_iff_ne.mpr (λq=>e q.symm)) ?_;unfold sQ
   split
   .rfl
   .exact wr kh (wr List.lookup_append (wr lI (wr (if_neg e) (wr Option.or_none rfl))))
theorem Az {p q:aO}{D:List Int}{x:Int}(hx:cY x=false) {r:aO}{s:FT}(nd:(r.map (·.1)).Nodup):(r.foldl (sP p q D) s).1.lookup x=(s.1.lookup x).or (if q.lookup x=none then((r.lookup x).bind λy=>qV p D x y) else none):=by
 induction r generalizing s with
 |nil=>simp
 |cons ay r ih=>
  obtain⟨a,y⟩:=ay;obtain⟨n1,n2⟩:=List.nodup_cons.mp nd;refine wr List.foldl_cons (wr (ih n2) ?_);have hr:a=x->r.lookup x=none:=λe=>by
   subst e
   rcases q:r.lookup a with _|v
   .rfl
   .exact absurd (List.mem_map_of_mem (f:=(·.1)) (gi q)) n1
  refine wr List.lookup_cons ?_
  by_cases e:a=x
  .subst e;refine wr (hr rfl) (wr (show(a==a)=true from beq_self_eq_true a) ?_);unfold sP;refine wr (if_neg (by rw[hx];decide)) ?_
   by_cases c:q.lookup a=none
   .refine wr (if_pos c) (wr (if_pos c) (wr (if_pos c) (wr mG (wr List.lookup_append (wr lI (wr (if_pos rfl) ?_))))));simp
   .exact wr (if_neg c) (wr (if_neg c) (wr (if_neg c) rfl))
  .refine wr (show(x==a)=false from beq_eq_false_iff_ne.mpr (λq=>e q.symm)) ?_;unfold sP
   split
   .rfl
   .split
    .exact wr mG (wr List.lookup_append (wr lI (wr (if_neg e) (wr Option.or_none rfl))))
    .rfl
theorem EH {p q:aO}{D:List Int}{x:Int}(hx:cY x=false) (np:(p.map (·.1)).Nodup) (nq:(q.map (·.1)).Nodup):
  (FY p q D).lookup x=((q.lookup x).bind λy=>rP p q D x y).or (if q.lookup x=none then((p.lookup x).bind λy=>qV p D x y) else none):=by
 have h1:x≠101/\x≠102:=by
  unfold cY at hx;simp at hx;exact hx
 unfold FY;have e1:(if(dX p q D).2.2≠[] then[((102:Int),PV.lst (dX p q D).2.2)] else[]:aO).lookup x=none:=by
  split
  .refine wr List.lookup_cons (wr (show(x==102)=false from beq_eq_false_iff_ne.mpr h1.2) ?_);rfl
  .rfl
 have e2:(if(dX p q D).2.1≠[] then[((101:Int),PV.lst (dX p q D).2.1)] else[]:aO).lookup x=none:=by
  split
  .refine wr List.lookup_cons (wr (show(x==101)=false from beq_eq_false_iff_ne.mpr h1.1) ?_);rfl
  .rfl
 refine wr List.lookup_append (wr List.lookup_append (wr e1 (wr e2 (wr Option.or_none (wr Option.or_none ?_)))));unfold dX;refine wr (Az hx np) (wr (AA hx nq) ?_);simp
noncomputable def side (p q:aO) (D:List Int) (x:Int) (pos:Bool):Int:=
 if(pos&&kept p D x)=true then(if sF x (bg q 101)=true/\bg p x=.none then 1 else-1) else if sF x (bg q 101)=true then 1 else 0
noncomputable def jk (p q:aO) (D:List Int) (x:Int) (pos:Bool):PV:=
 if side p q D x pos=0 then .none else if side p q D x pos>0 then bg q x else bg p x
noncomputable def oG:PV->Prop
 |.int _=>False
 |_=>True
theorem oA {q:aO}{x:Int}(h:oG (bg q 101)):sF x (bg q 101)=cj q x:=by
 unfold cj
 cases e:bg q 101<;>first|rfl|(rw[e] at h;exact h.elim)
theorem EK {p q:aO}{D:List Int}{x:Int}{pos:Bool}(hx:cY x=false) (np:(p.map (·.1)).Nodup) (nq:(q.map (·.1)).Nodup) (hq:oG (bg q 101)) (hp:pos=false->p=[]):
  bg (FY p q D) x=jk p q D x pos:=by
 have tc:=oA (x:=x) hq;unfold jk side;refine wr tc ?_;have hpv:∀(r:aO),bg r x=(r.lookup x).getD .none:=λr=>rfl;refine wr (hpv (FY p q D)) (wr (EH hx np nq) ?_)
 induction pos with
 |false=>
  have hp:=hp rfl;subst hp;refine wr (Bool.false_and _) ?_;simp only[Bool.false_eq_true,if_false,List.lookup_nil]
  cases hc:cj q x<;>cases hl:q.lookup x<;>simp[rP,qV,hc,hl,hpv]
 |true=>
  refine wr (Bool.true_and _) ?_
  cases hk:kept p D x<;>cases hc:cj q x<;>cases hl:q.lookup x<;>cases hm:p.lookup x<;>simp[rP,qV,hk,hc,hl,hm,hpv]<;>(try(split<;>simp_all))
end Mi
namespace Mi
open PySem
noncomputable abbrev Cs (H:AH):List V->List aO->Prop:=aS λv p=>∃n,v=.ref n/\PL H n p
noncomputable def vx (tr:Nat):O:=.inst "TextProps" [("tree",.ref tr)]
theorem ie {A B:List E3}{e:E3}{i:Nat}(hp:∀x∈A++e::B,0<x.2.1) (h1:aI A<=i) (h2:(i:Int)<aI A+e.2.1):(chars (A++e::B))[i]? =some e.2.2:=by
 have ha:=fX (l:=A) λx hx=>hp x (List.mem_append_left _ hx);refine wr bP (wr (List.getElem?_append_right (by lia)) ?_);show(List.replicate e.2.1.toNat e.2.2++chars B)[i-(chars A).length]? =_;exact wr (List.getElem?_append_left (by rw[List.length_replicate];lia)) (wr (List.getElem?_replicate) (wr (if_pos (by lia)) rfl))
section
variable {H H':AH}{S:Nat->Prop}{k:Nat}{Q:KV}{QB:KB}{tab:Tab}{D:List Int}{p q:aO}{tr pr:Nat}{L:List E3}{ps:List aO}
theorem Cs.len {vs:List V}{ps:List aO}(x:Cs H vs ps):vs.length=ps.length:=aS.len x
theorem Cs.get {vs:List V}{ps:List aO}(x:Cs H vs ps) {i:Nat}{v:V}(e:vs[i]? =some v):∃n p,v=.ref n/\ps[i]? =some p/\PL H n p:=Hx (aS.got x e) λp h n e1 e2=>⟨n,p,e1,h,e2⟩
theorem Cs.mono (k:∀n p,PL H n p->PL H' n p) {vs:List V}{ps:List aO}(x:Cs H vs ps):Cs H' vs ps:=aS.mono (λu_ u_ q=>q.imp λu_ q=>⟨q.1,k _ _ q.2⟩) x
theorem Cs.up {vs:List V}(w:Wf H) (f:Up H H') (h:Cs H vs ps):Cs H' vs ps:=h.mono λu_ u_ x=>x.up w f
structure Tp (H:AH) (pr tr:Nat) (L:List E3) (ps:List aO):Prop where
 ob:H.at_ pr=some (vx tr)
 sq:Sq H tr L
 cs:Cs H (chars L) ps
theorem Tp.up (h:Tp H pr tr L ps) (f:Up H H'):Tp H' pr tr L ps:=⟨f.at_ h.sq.wf h.ob λq=>q,h.sq.fm f λu_ u_ q=>q,h.cs.up h.sq.wf f⟩
theorem Tp.len (h:Tp H pr tr L ps):aI L=ps.length:=by
 exact wr ((fX h.sq.pos).symm) (wr h.cs.len rfl)
theorem F8 (h:Tp H pr tr L ps):ok (aV (.ref pr) "tree") Q H=Q (.ref tr) H:=aW h.ob (by kernel_rfl) (by kernel_rfl)
theorem cK (h:Tp H pr tr L ps) (k_:Q (.ref tr) H):ok (aV (.ref pr) "tree") Q H:=(F8 h).mpr k_
theorem jC (w:Wf H) (K:∀H' n,Up H H'->PL H' n []->Q (.ref n) H'):ok (ba (.list [])) Q H:=by
 refine aB rfl<|K _ _ (.add w) ⟨[],by exact wr bq (wr (if_pos rfl) rfl),trivial,by simp⟩
theorem cw {i:Int}(h:Tp H pr tr L ps) (K:∀H' n,Up H H'->PL H' n (if i<0 then[] else(ps[i.toNat]?).getD [])->Q (.ref n) H'):ok (ae (aa (k+4)) "properties_at" [.ref pr,.int i]) Q H:=by
 refine P.o9<|cU ?_
 by_cases c:i<0
 .refine aM (decide_eq_true c) ?_;exact jC h.sq.wf λH1 n f a=>K H1 n f (by refine wr (if_pos c) ?_;exact a)
 refine aJ (decide_eq_false c) ?_;rw[if_neg c] at K;refine cK h<|mJ (k:=k+1) h.sq ?_
 refine q8 ?_;refine wr h.len ?_
 by_cases c2:i>=(ps.length:Int)
 .refine aM (decide_eq_true c2)<|jC h.sq.wf λH1 n f a=>K H1 n f ?_
  refine wr (List.getElem?_eq_none (by lia)) ?_;exact a
 refine aJ (decide_eq_false c2)<|cK h ?_
 refine eK (place h.sq.pos (at_:=i) (by exact Int.not_lt.mp (by assumption)) (by refine wr h.len ?_;lia)) λA e B z1 g1 g2=>?_;subst z1;refine ir (k:=k) h.sq g1 g2 λH1 x hx f1=>?_;have h1:=h.up f1;refine item_tup hx (by decide) rfl<|fe h1.sq ?_
 have hc:=ie (i:=i.toNat) h.sq.pos (by lia) (by lia);refine bV (h1.cs.get hc) λn p e1 e2 e3=>wr e1<|K H1 n f1 ?_
 refine wr e2 ?_;exact e3
noncomputable def cO (ps:List aO) (i:Nat):aO:=if 0<i then(ps[i-1]?).getD [] else[]
noncomputable def dG (ps:List aO) (i:Nat):aO:=(ps[i]?).getD []
theorem xG {ru:Nat}{i:Nat}(h:Tp H pr tr L ps) (hr:Ru H ru D) (hc:∀p∈ps,p.lookup 100=none)
  (K:∀H' s,Sd H' s D (cO ps i) (dG ps i) [] [] []->s.ru=ru->Up H H'->Q (.ref s.sd) H'):ok (ae (aa (k+5)) "sides_at" [.ref ru,.ref pr,.int i]) Q H:=by
 have hc':∀j:Nat,((ps[j]?).getD []).lookup 100=none:=λj=>by
  rcases e:ps[j]? with _|p
  .rfl
  .exact hc p (List.mem_of_getElem? e)
 have cl:(cO ps i).lookup 100=none:=by
  unfold cO
  split
  .exact hc' _
  .rfl
 have main:∀{H1:AH} {n:Nat},Up H H1->PL H1 n (cO ps i)->ok (ae (aa (k+4)) "properties_at" [.ref pr,.int i]) (λx4 H=>ok (ae (aa (k+4)) "Sides" [.ref ru,.ref n,x4]) (λx5 H=>Q x5 H) H) H1:=λ{H1 n} f1 hn=>by
  refine cw (h.up f1) λH2 m f2 hm=>?_;rw[if_neg (by lia)] at hm;refine xF (k:=k) f2.wf ((hr.up h.sq.wf f1).up f1.wf f2) (hn.up f1.wf f2) (q:=dG ps i) hm cl (hc' _) λH3 s h3 e1 u_ u_ u_ u_ u_ u_ f3=>K H3 s h3 e1 ((f1.trans f2).trans f3)
 refine P.zB<|bN ?_
 by_cases c:(i:Int)>0
 .refine aM (decide_eq_true c)<|aT<|cw h λH1 n f1 hn=>main f1 ?_
  rw[if_neg (by lia)] at hn;unfold cO;refine wr (if_pos (by exact Int.ofNat_lt.mp (by assumption))) (wr (LV (by exact Int.ofNat_lt.mp (by assumption))) ?_);exact hn
 .refine aJ (decide_eq_false c)<|jC h.sq.wf λH1 n f1 hn=>main f1 ?_
  unfold cO;refine wr (if_neg (by lia)) ?_;exact hn
end
end Mi
namespace Mi
open PySem
section
variable {H H':AH}{S:Nat->Prop}{k:Nat}{Q:KV}{QB:KB}{tab:Tab}{D:List Int}{tr pr:Nat}{L:List E3}{ps:List aO}
theorem mL {s:SI}{p q:aO}{x:Int}{b:Bool}{FO:aO}{FR RE:List Int}(h:Sd H s D p q FO FR RE) (hc:p.lookup 100=none)
  (K:∀H',Up H H'->Q (.int (if b=true then(if sF x (bg q 101)=true/\bg p x=.none then 1 else-1) else if sF x (bg q 101)=true then 1 else 0)) H'):
  ok (aV (.ref s.sd) "right_front") (λx11 H=>ok (ae (aa (k+4)) "is_told" [.ref s.ru,.int x,x11]) (λx12 H=>ok (ck (V.bool b)) (λb13 H=>cond (!b13) (ok (ck x12) (λb14 H=>cond b14 (Q (V.int 1) H) (Q (V.int 0) H)) H) (ok (ck x12) (λb15 H=>cond b15 (aA (aa (k+4)) (.ref s.ru) "is_nil" (λA H=>ok (aV (.ref s.sd) "left") (λx16 H=>ok (ae (aa (k+4)) "value_in" [.ref s.ru,x16,.int x]) (λx17 H=>A [x17] H) H) H) (λx18 H=>ok (ck x18) (λb19 H=>cond b19 (Q (V.int 1) H) (ok (aR (V.int 1)) (λi20 H=>Q (V.int (-i20)) H) H)) H) H) (ok (aR (V.int 1)) (λi21 H=>Q (V.int (-i21)) H) H)) H)) H) H) H:=by
 refine zE h<|Ar h.wf h.ru h.K9 λH1 f1=>?_
 have h1:=h.up f1;refine aj ?_
 induction b with
 |false=>
  dsimp only[cond,Bool.not];refine aj ?_;have:=K H1 f1;rw[if_neg (by decide)] at this
  rcases ht:sF x (bg q 101) with _|_
  .rw[ht,if_neg (by decide)] at this;exact this
  .rw[ht,if_pos rfl] at this;exact this
 |true=>
  dsimp only[cond,Bool.not];refine aj ?_
  rcases ht:sF x (bg q 101) with _|_
  .dsimp only;refine aP ?_;have:=K H1 f1;rw[if_pos rfl,ht,if_neg (by simp)] at this;exact this
  .dsimp only;refine kj (args:=[]) h1.ru (by kernel_rfl)<|xK h1<|fB (k:=k+1) h1.wf h1.ru h1.pl hc λH2 a f2 hv=>rq (k:=k+2) (h1.ru.up h1.wf f2) hv<|aj ?_
   have:=K H2 (f1.trans f2);rw[if_pos rfl,ht] at this
   by_cases c:bg p x=.none
   .refine wr (decide_eq_true c) ?_;rw[if_pos ⟨rfl,c⟩] at this;exact this
   .refine wr (decide_eq_false c) ?_;rw[if_neg (λn=>c n.2)] at this;dsimp only;refine aP ?_;exact this
theorem qf {ru i:Nat}{x:Int}(h:Tp H pr tr L ps) (hr:Ru H ru D) (hc:∀p∈ps,p.lookup 100=none)
  (K:∀H',Up H H'->Q (.int (side (cO ps i) (dG ps i) D x (decide (0<i)))) H'):ok (ae (aa (k+6)) "sticky_side" [.ref ru,.ref pr,.int i,.int x]) Q H:=by
 refine P.sO<|xG h hr hc λH1 s h1 e1 f1=>?_
 subst e1;have cl:(cO ps i).lookup 100=none:=by
  unfold cO
  split
  .rcases e:ps[i-1]? with _|p
   .rfl
   .exact hc p (List.mem_of_getElem? e)
  .rfl
 unfold side at K;refine bN (aj ?_)
 by_cases c:(i:Int)>0
 .refine wr (decide_eq_true c) ?_;rw[decide_eq_true (show 0<i by exact Int.ofNat_lt.mp (by assumption)),Bool.true_and] at K;dsimp only[cond];refine D5 h1<|cg (k:=k+2) h1.wf h1.ru h1.LU λH2 f2=>?_
  have h2:=h1.up f2;refine aj (aj ?_);unfold kept at K
  rcases hm:mem x (bg (cO ps i) 102) with _|_
  .rw[hm,Bool.not_false,Bool.true_and] at K;refine wr Bool.not_false ?_;dsimp only;refine oL h2.ru<|aj (aj ?_)
   refine mL (k:=k+1) (b:= !decide (x∈D)) h2 cl λH3 f3=>K H3 ((f1.trans f2).trans f3)
  .rw[hm] at K;refine wr Bool.not_true ?_;dsimp only;refine mL (k:=k+1) (b:=false) h2 cl λH3 f3=>K H3 ((f1.trans f2).trans f3)
 .refine wr (decide_eq_false c) ?_;rw[decide_eq_false (show¬0<i by lia),Bool.false_and] at K;dsimp only[cond];refine mL (k:=k+1) (b:=false) h1 cl λH3 f3=>K H3 (f1.trans f3)
end
end Mi
namespace Mi
open PySem
noncomputable def whole (y:PV):Bool:= !decide (y=.none)&& !y.Kv
noncomputable def Dx (p:aO) (D:List Int) (e:Int×PV):Bool:= !mem e.1 (bg p 101)&&(mem e.1 (bg p 102)||decide (e.1∈D))
noncomputable def iD (p:aO) (D:List Int):Bool:=
 if whole (bg p 102)=true then decide (0<p.length) else if whole (bg p 101)=true then false else p.any (Dx p D)
section
variable {H H':AH}{S:Nat->Prop}{k:Nat}{Q:KV}{QB:KB}{tab:Tab}{D:List Int}{p:aO}{ru n:Nat}
theorem EL {x:Int}(h:Ru H ru D) (K:QB (decide (x∈D)) H):ok (aV (.ref ru) "defaults") (λx7 H=>ok (bQ .In (.int x) x7) QB H) H:=by
 obtain⟨li,pd,de,a,b,c,d⟩:=h;refine aQ a (by kernel_rfl) (v:=.ref de) (by kernel_rfl)<|cz ?_ K
 have h1:bQ .In (.int x) (.ref de) H=(look de H>>=λp=>(match p.1 with
   |.tup l=>match gZ x l with|some r=>pure r|none=>ak
   |.dict es=>pure (dictFind x es).isSome
   |_=>ak:AM Bool) p.2):=rfl
 have h2:look de H=some (.dict (loose D),H):=by unfold look;exact wr d rfl
 refine wr h1 (wr h2 ?_);show some ((dictFind x (loose D)).isSome,H)=_;refine wr gh ?_
 by_cases q:x∈D
 .refine wr (if_pos q) (wr (decide_eq_true q) ?_);rfl
 .refine wr (if_neg q) (wr (decide_eq_false q) ?_);rfl
def IW (H:AH) (ru n:Nat) (re fr:V) (p:aO) (D:List Int) (j:Nat) (ρ:ao) (H2:AH):Prop:=Up H H2/\(∃a b c,ρ=([("rules",some (.ref ru)),("plist",some (.ref n)),("rear",some re),("front",some fr),("number",a),("value",b),("is_front",c)]:ao))/\(p.take j).any (Dx p D)=false
theorem GA {re fr:V}{vs:List V}{o1 o2 o3:Option V}(w:Wf H) (hr:Ru H ru D) (hp:PL H n p) (hre:VP H re (bg p 102)) (hfr:VP H fr (bg p 101)) (hv:H.at_ n=some (.list vs))
  (K:∀H',Up H H'->Q (.bool (p.any (Dx p D))) H'):
  ok (d9 (aa (k+3)) (fD "is_loose_within") 7 [4] (.ref n) (0,vs) [("rules",some (.ref ru)),("plist",some (.ref n)),("rear",some re),("front",some fr),("number",o1),("value",o2),("is_front",o3)]) (λr17 H=>eA r17.1 (bU (aa (k+3)) (fD "is_loose_within") 7 [5] r17.2 (fin Q) H) (λv=>(fin Q) (Fl.ret v) r17.2 H)) H:=by
 refine be (id hp) λus g1 g2 g3=>?_;have:us=vs:=by rw[hv] at g1;obtain rfl:=O.list.inj (Option.some.inj g1);rfl
 subst this;have hlen:=g2.len;refine dJ (I:=IW H ru n re fr p D) ⟨.refl w,⟨_,_,_,rfl⟩,rfl⟩ ?_ ?_ (by kernel_rfl) ?_ ?_
 .intro u hu;obtain⟨j,hj,rfl⟩:=List.mem_iff_getElem.mp hu;refine eZ (g2.get (List.getElem?_eq_getElem hj)) λm a e e1 u_=>?_;refine wr e1 ?_;rfl
 .rintro j ρ H2 ⟨f,-⟩
  exact aD (f.at_ w hv λq=>q)
 .rintro j ρ H2 u hu ⟨f,⟨a,b,c,rfl⟩,h0⟩
  refine P.kC<|eg ((g2.tk (Up.tk w f)).get hu) λm av e e1 e2 e3 e4=>?_
  subst e1;refine eL e3 ?_;have ht:(p.take (j+1)).any (Dx p D)=Dx p D e:=by refine wr List.take_add_one (wr e2 (wr List.any_append (wr h0 ?_)));simp
  have hin:Dx p D e=true->p.any (Dx p D)=true:=λq=>List.any_eq_true.mpr ⟨e,List.mem_of_getElem? e2,q⟩;refine cg (k:=k) f.wf (hr.up w f) (hfr.up w f) λH3 f3=>?_;have f13:=f.trans f3;refine aj ?_
  rcases h1:mem e.1 (bg p 101) with _|_
  .dsimp only[cond,Bool.not];refine cg (k:=k) f13.wf (hr.up w f13) (hre.up w f13) λH4 f4=>?_;have f14:=f13.trans f4;refine aj ?_
   rcases h2:mem e.1 (bg p 102) with _|_
   .dsimp only;refine EL (hr.up w f14) ?_
    by_cases h3:e.1∈D
    .refine aM (decide_eq_true h3) ?_;have:=K H4 f14;rw[hin (by unfold Dx;refine wr h1 (wr h2 (wr (decide_eq_true h3) ?_));rfl)] at this;exact this
    .refine aJ (decide_eq_false h3) ?_;exact⟨f14,⟨_,_,_,rfl⟩,by refine wr ht ?_;unfold Dx;refine wr h1 (wr h2 (wr (decide_eq_false h3) ?_));rfl⟩
   .have:=K H4 f14;rw[hin (by unfold Dx;refine wr h1 (wr h2 ?_);rfl)] at this;exact this
  .dsimp only[cond,Bool.not];exact⟨f13,⟨_,_,_,rfl⟩,by refine wr ht ?_;unfold Dx;refine wr h1 ?_;rfl⟩
 .rintro ρ H2 ⟨f,⟨a,b,c,rfl⟩,h0⟩
  refine P.kG ?_;have:((0,us):Nat×List V).2.length=p.length:=hlen;rw[this,List.take_length] at h0;have:=K H2 f;rw[h0] at this;exact this
end
theorem xf {p:aO}{D:List Int}{x:Int}(hx:cY x=false) (hq:oG (bg p 101)) (h:iD p D=false):bg p x=jk p p D x true:=by
 have tc:=oA (x:=x) hq;unfold jk side;refine wr tc (wr (Bool.true_and _) ?_)
 rcases hl:p.lookup x with _|v
 .have:bg p x=.none:=by unfold bg;refine wr hl ?_;rfl
  refine wr this ?_;simp
 .have hm:=gi hl;have key:kept p D x=true\/cj p x=true:=by
   unfold iD at h
   split at h
   .rename_i hw;have:0<p.length:=List.length_pos_of_mem hm;rw[decide_eq_true this] at h;exact tf h
   .split at h
    .rename_i hw
     right
     unfold cj
     cases e:bg p 101<;>rw[e] at hw<;>first|rfl|(exact absurd hw (by decide))|(exact absurd hw (by simp[whole,PV.Kv]))
    .rw[List.any_eq_false] at h;have:=h (x,v) hm;unfold Dx at this;unfold kept cj
     cases a:mem x (bg p 101)<;>cases b:mem x (bg p 102)<;>by_cases c:x∈D<;>simp_all
  cases hk:kept p D x<;>cases hc:cj p x<;>simp_all
  by_cases c:bg p x=.none<;>simp_all
end Mi
namespace Mi
open PySem
section
variable {H H':AH}{S:Nat->Prop}{k:Nat}{Q:KV}{QB:KB}{tab:Tab}{D:List Int}{p:aO}{ru n:Nat}
theorem kB (w:Wf H) (hr:Ru H ru D) (hp:PL H n p) (hc:p.lookup 100=none) (K:∀H',Up H H'->Q (.bool (iD p D)) H'):ok (ae (aa (k+4)) "is_loose_within" [.ref ru,.ref n]) Q H:=by
 refine P.lN ?_;have getR:∀{H1:AH} {Q:KV},Ru H1 ru D->Q (.int 102) H1->ok (aV (.ref ru) "rear_nonsticky") Q H1:=λ{H1 Q} h q=>by
  obtain⟨li,pd,de,a,-⟩:=h;refine aQ a (by kernel_rfl) (v:=.int 102) (by kernel_rfl) ?_;exact q
 have getFr:∀{H1:AH} {Q:KV},Ru H1 ru D->Q (.int 101) H1->ok (aV (.ref ru) "front_sticky") Q H1:=λ{H1 Q} h q=>by
  obtain⟨li,pd,de,a,-⟩:=h;refine aQ a (by kernel_rfl) (v:=.int 101) (by kernel_rfl) ?_;exact q
 refine getR hr (fB (k:=k) w hr hp hc λH1 re f1 v1=>?_);have r1:=hr.up w f1;have p1:=hp.up w f1;have second:∀{H2:AH},Up H1 H2->whole (bg p 102)=false->ok (aV (.ref ru) "front_sticky") (λx21 H=>ok (ae (aa (k+3)) "value_in" [.ref ru,.ref n,x21]) (λx22 H=>aA (aa (k+3)) (.ref ru) "is_nil" (λA H=>A [x22] H) (λx23 H=>ok (ck x23) (λb24 H=>cond (!b24) (ok (aV (.ref ru) "lisp") (λx25 H=>aA (aa (k+3)) x25 "items" (λA H=>A [x22] H) (λx26 H=>ok (bQ .Is x26 V.none) (λb27 H=>cond b27 (Q (V.bool false) H) (ok (aF (.ref n)) (λl29 H=>ok (d9 (aa (k+3)) (fD "is_loose_within") 7 [4] (.ref n) l29 [("rules",some (.ref ru)),("plist",some (.ref n)),("rear",some re),("front",some x22),("number",none),("value",none),("is_front",none)]) (λr28 H=>eA r28.1 (bU (aa (k+3)) (fD "is_loose_within") 7 [5] r28.2 (fin Q) H) (λv=>(fin Q) (Fl.ret v) r28.2 H)) H) H)) H) H) H) (ok (aF (.ref n)) (λl31 H=>ok (d9 (aa (k+3)) (fD "is_loose_within") 7 [4] (.ref n) l31 [("rules",some (.ref ru)),("plist",some (.ref n)),("rear",some re),("front",some x22),("number",none),("value",none),("is_front",none)]) (λr30 H=>eA r30.1 (bU (aa (k+3)) (fD "is_loose_within") 7 [5] r30.2 (fin Q) H) (λv=>(fin Q) (Fl.ret v) r30.2 H)) H) H)) H) H) H) H2:=λ{H2} f2 hw=>by
  have r2:=r1.up f1.wf f2;have p2:=p1.up f1.wf f2;have v2:=v1.up f1.wf f2;refine getFr r2 (fB (k:=k) f2.wf r2 p2 hc λH3 fr f3 v3=>?_);have r3:=r2.up f2.wf f3;have p3:=p2.up f2.wf f3;have v23:=v2.up f2.wf f3;have loop:∀{H4:AH},Up H3 H4->whole (bg p 101)=false->ok (aF (.ref n)) (λl31 H=>ok (d9 (aa (k+3)) (fD "is_loose_within") 7 [4] (.ref n) l31 [("rules",some (.ref ru)),("plist",some (.ref n)),("rear",some re),("front",some fr),("number",none),("value",none),("is_front",none)]) (λr30 H=>eA r30.1 (bU (aa (k+3)) (fD "is_loose_within") 7 [5] r30.2 (fin Q) H) (λv=>(fin Q) (Fl.ret v) r30.2 H)) H) H4:=λ{H4} f4 hw2=>by
   have p4:=p3.up f3.wf f4;refine bW (id p4) λvs g1 u_=>cz (aD g1)<|GA f4.wf (r3.up f3.wf f4) p4 (v23.up f3.wf f4) (v3.up f3.wf f4) g1 λH5 f5=>?_
   have:=K H5 (((f1.trans f2).trans f3).trans f4|>.trans f5);unfold iD at this;rw[if_neg (by refine wr hw ?_;decide),if_neg (by refine wr hw2 ?_;decide)] at this;exact this
  refine nu (k:=k+1) r3 v3<|aj ?_
  by_cases c:bg p 101=.none
  .refine iI (decide_eq_true c) ?_;exact loop (.refl f3.wf) (by unfold whole;refine wr (decide_eq_true c) ?_;rfl)
  .refine jG (decide_eq_false c) ?_;obtain⟨li,pd,de,a,b,-⟩:=id r3;refine aQ a (by kernel_rfl) (v:=.ref li) (by kernel_rfl)<|lM (k:=k+2) f3.wf b v3 (λH4 l m vs f4 hy hm hs hl=>?_) (λhy=>?_)
   .refine hS ?_;exact loop f4 (by unfold whole;refine wr hy ?_;rfl)
   .refine fF ?_;have:=K H3 ((f1.trans f2).trans f3);unfold iD at this;rw[if_neg (by refine wr hw ?_;decide),if_pos (by unfold whole;refine wr (decide_eq_false c) (wr hy ?_);rfl)] at this;exact this
 refine nu (k:=k+1) r1 v1<|aj ?_
 by_cases c:bg p 102=.none
 .refine iI (decide_eq_true c) ?_;exact second (.refl f1.wf) (by unfold whole;refine wr (decide_eq_true c) ?_;rfl)
 .refine jG (decide_eq_false c) ?_;obtain⟨li,pd,de,a,b,-⟩:=id r1;refine aQ a (by kernel_rfl) (v:=.ref li) (by kernel_rfl)<|lM (k:=k+2) f1.wf b v1 (λH4 l m vs f4 hy hm hs hl=>?_) (λhy=>?_)
  .refine hS ?_;exact second f4 (by unfold whole;refine wr hy ?_;rfl)
  .refine fF<|be p1 λvs g1 g2 u_=>?_
   refine aZ g1 (bN ?_);refine wr g2.len ?_;have:=K H1 f1;unfold iD at this;rw[if_pos (by unfold whole;refine wr (decide_eq_false c) (wr hy ?_);rfl)] at this
   by_cases d:0<p.length
   .rw[decide_eq_true d] at this;refine wr (decide_eq_true (by exact Int.ofNat_lt.mpr (by assumption))) ?_;exact this
   .rw[decide_eq_false d] at this;refine wr (decide_eq_false (by lia)) ?_;exact this
end
end Mi
namespace Mi
open PySem
theorem len_sub:∀{a b:List Int},a.Nodup->(∀x∈a,x∈b)->a.length<=b.length
 |[],_,_,_=>Nat.zero_le _
 |y::a,b,nd,h=>by
  obtain⟨n1,n2⟩:=List.nodup_cons.mp nd;have hy:=h y List.mem_cons_self;have:=len_sub (a:=a) (b:=b.erase y) n2 λz hz=>(List.mem_erase_of_ne (by rintro rfl;exact n1 hz)).mpr (h z (List.mem_cons_of_mem _ hz));rw[List.length_erase_of_mem hy] at this;have hb:=List.length_pos_of_mem hy;refine wr List.length_cons ?_;lia
theorem yC {l:aO}{x:Int}(h:x∈l.map (·.1)):∃v,l.lookup x=some v:=by
 induction l with
 |nil=>exact nm h
 |cons e l ih=>
  obtain⟨a,b⟩:=e;refine wr List.lookup_cons ?_
  rcases q:x==a with _|_
  .rcases List.mem_cons.mp h with c|c
   .have c:x=a:=c;rw[beq_iff_eq.mpr c] at q;exact tf q
   .exact ih c
  .exact⟨b,rfl⟩
theorem qz {p q:aO}(np:(p.map (·.1)).Nodup) (h:j6 p q=true) (x:Int):p.lookup x=q.lookup x:=by
 unfold j6 at h;rw[Bool.and_eq_true,decide_eq_true_iff,List.all_eq_true] at h;obtain⟨hl,ha⟩:=h
 rcases e:p.lookup x with _|v
 .rcases e2:q.lookup x with _|w
  .rfl
  .exfalso
   have hxq:x∈q.map (·.1):=List.mem_map_of_mem (f:=(·.1)) (gi e2);have hxp:∀y∈p.map (·.1),y≠x:=λy hy c=>by
    subst c;obtain⟨v,hv⟩:=yC hy;rw[e] at hv;exact ns hv
   have:=len_sub (a:=p.map (·.1)) (b:=(q.map (·.1)).erase x) np λy hy=>by
    refine(List.mem_erase_of_ne (hxp y hy)).mpr ?_;obtain⟨z,hz,rfl⟩:=List.mem_map.mp hy;have:=ha z hz;rw[decide_eq_true_iff] at this;exact List.mem_map_of_mem (f:=(·.1)) (gi this)
   rw[List.length_erase_of_mem hxq,List.length_map,List.length_map] at this;have hb:0<(q.map (·.1)).length:=List.length_pos_of_mem hxq;rw[List.length_map] at hb;lia
 .have:=ha _ (gi e);rw[decide_eq_true_iff] at this;exact this.symm
end Mi
namespace Mi
open PySem
def ye (x:Int):Prop:=x=1\/x=2\/x=3\/x=101\/x=102
structure Good (p:aO):Prop where
 nd:(p.map (·.1)).Nodup
 key:∀e∈p,ye e.1
 val:∀e∈p,cY e.1=true->oG e.2
theorem C8 {p q:aO}{D:List Int}{r:aO}{s:FT}:∃t,(r.foldl (sQ p q D) s).1=s.1++t/\(t.map (·.1)).Sublist (r.map (·.1))/\∀e∈t,cY e.1=false:=by
 induction r generalizing s with
 |nil=>exact⟨[],(List.append_nil _).symm,List.Sublist.refl _,λu_ h=>(nomatch h)⟩
 |cons ay r ih=>
  obtain⟨a,y⟩:=ay;refine be (ih (s:=sQ p q D s (a,y))) λt h1 h2 h3=>wr List.foldl_cons (wr h1 ?_);unfold sQ
  rcases ho:cY a with _|_
  .refine wr (if_neg (by decide)) (wr kh ?_)
   rcases rP p q D a y with _|v
   .exact⟨t,by simp,h2.cons _,h3⟩
   .refine⟨(a,v)::t,by simp,h2.cons_cons _,λe he=>?_⟩
    rcases List.mem_cons.mp he with he|he
    .subst he;exact ho
    .exact h3 e he
  .refine wr (if_pos rfl) ?_;exact⟨t,rfl,h2.cons _,h3⟩
theorem C7 {p q:aO}{D:List Int}{r:aO}{s:FT}:∃t,(r.foldl (sP p q D) s).1=s.1++t/\(t.map (·.1)).Sublist (r.map (·.1))/\∀e∈t,cY e.1=false/\q.lookup e.1=none:=by
 induction r generalizing s with
 |nil=>exact⟨[],(List.append_nil _).symm,List.Sublist.refl _,λu_ h=>(nomatch h)⟩
 |cons ay r ih=>
  obtain⟨a,y⟩:=ay;refine be (ih (s:=sP p q D s (a,y))) λt h1 h2 h3=>wr List.foldl_cons (wr h1 ?_);unfold sP
  rcases ho:cY a with _|_
  .refine wr (if_neg (by decide)) ?_
   by_cases c:q.lookup a=none
   .refine wr (if_pos c) (wr mG ?_)
    rcases qV p D a y with _|v
    .exact⟨t,by simp,h2.cons _,h3⟩
    .refine⟨(a,v)::t,by simp,h2.cons_cons _,λe he=>?_⟩
     rcases List.mem_cons.mp he with he|he
     .subst he;exact⟨ho,c⟩
     .exact h3 e he
   .refine wr (if_neg c) ?_;exact⟨t,rfl,h2.cons _,h3⟩
  .refine wr (if_pos rfl) ?_;exact⟨t,rfl,h2.cons _,h3⟩
theorem yN {p q:aO}{D:List Int}(gp:Good p) (gq:Good q):((dX p q D).1.map (·.1)).Nodup/\∀e∈(dX p q D).1,ye e.1/\cY e.1=false:=by
 refine be (C8 (p:=p) (q:=q) (D:=D) (r:=q) (s:=([],[],[]))) λt h1 h2 h3=>be (C7 (p:=p) (q:=q) (D:=D) (r:=p) (s:=q.foldl (sQ p q D) ([],[],[]))) λu g1 g2 g3=>?_;have e:(dX p q D).1=t++u:=by unfold dX;refine wr g1 (wr h1 ?_);simp
 refine wr e ?_
 constructor
 .refine wr List.map_append (wr (propext (List.nodup_append)) ?_);refine⟨gq.nd.sublist h2,gp.nd.sublist g2,λx hx y hy c=>?_⟩;subst c;refine bW (List.mem_map.mp hy) λz hz hzx=>?_;have hn:=(g3 z hz).2;refine xE (yC (h2.subset hx)) λv hv=>?_;rw[hzx] at hn;rw[hn] at hv;exact ns hv
 .intro e he
  rcases List.mem_append.mp he with he|he
  .refine bW (List.mem_map.mp (h2.subset (List.mem_map_of_mem (f:=(·.1)) he))) λz hz hk=>⟨hk▸gq.key z hz,h3 e he⟩
  .refine bW (List.mem_map.mp (g2.subset (List.mem_map_of_mem (f:=(·.1)) he))) λz hz hk=>⟨hk▸gp.key z hz,(g3 e he).1⟩
theorem EJ {p q:aO}{D:List Int}(gp:Good p) (gq:Good q):Good (FY p q D):=by
 refine xA (yN (D:=D) gp gq) λa b=>?_;have n102:∀e∈(dX p q D).1,e.1≠102:=λe he c=>by have:=(b e he).2;rw[c] at this;exact absurd this (by decide)
 have n101:∀e∈(dX p q D).1,e.1≠101:=λe he c=>by have:=(b e he).2;rw[c] at this;exact absurd this (by decide)
 have nod:∀{l:aO} {x:Int} {v:PV},(l.map (·.1)).Nodup->(∀e∈l,e.1≠x)->((l++[(x,v)]).map (·.1)).Nodup:=λ{l x v} h1 h2=>by
  refine wr List.map_append (wr (propext (List.nodup_append)) ?_);refine⟨h1,by simp,λy hy z hz c=>?_⟩;simp at hz;refine bW (List.mem_map.mp hy) λe he hk=>h2 e he (by exact wr hk (wr c (wr hz rfl)))
 unfold FY
 constructor
 .split<;>split
  .refine nod (nod a n102) λe he c=>?_
   rcases List.mem_append.mp he with he|he
   .exact n101 e he c
   .simp at he;rw[he] at c;exact absurd c (by simp)
  .refine wr (List.append_nil _) ?_;exact nod a n102
  .refine wr (List.append_nil _) ?_;exact nod a n101
  .refine wr (List.append_nil _) (wr (List.append_nil _) ?_);exact a
 .intro e he
  rcases List.mem_append.mp he with he|he
  .rcases List.mem_append.mp he with he|he
   .exact(b e he).1
   .split at he
    .simp at he;refine wr he ?_;exact .inr (.inr (.inr (.inr rfl)))
    .exact nm he
  .split at he
   .simp at he;refine wr he ?_;exact .inr (.inr (.inr (.inl rfl)))
   .exact nm he
 .intro e he ho
  rcases List.mem_append.mp he with he|he
  .rcases List.mem_append.mp he with he|he
   .rw[(b e he).2] at ho;exact nb ho
   .split at he
    .simp at he;refine wr he ?_;trivial
    .exact nm he
  .split at he
   .simp at he;refine wr he ?_;trivial
   .exact nm he
theorem Good.yf {p:aO}(h:Good p):p.lookup 100=none:=uw λe he c=>by
 have:=h.key e he;unfold ye at this;lia
theorem Good.len {p:aO}(h:Good p):p.length<=5:=by
 have:=len_sub (a:=p.map (·.1)) (b:=[1,2,3,101,102]) h.nd λx hx=>by
  refine bW (List.mem_map.mp hx) λe he z1=>?_;subst z1;have:=h.key e he;unfold ye at this;simp;exact this
 rw[List.length_map] at this;exact this
theorem Good.JZ {p:aO}(h:Good p):oG (bg p 101):=by
 unfold bg
 rcases e:p.lookup 101 with _|v
 .trivial
 .exact h.val _ (gi e) rfl
theorem rE:Good []:=⟨by simp,λu_ h=>(nomatch h),λu_ h=>(nomatch h)⟩
end Mi
namespace Mi
open PySem
section
variable {H H':AH}{S:Nat->Prop}{k:Nat}{Q:KV}{QB:KB}{tab:Tab}{D:List Int}{tr pr:Nat}{L:List E3}{ps:List aO}
theorem gF.uniq {vs:List V}{a b:List Int}(x:gF H vs a) (y:gF H vs b):a=b:=aS.uniq (λv a b h1 h2=>by
 obtain⟨m,rfl,h1⟩:=h1;obtain⟨n,e,h2⟩:=h2;obtain rfl:=V.ref.inj e;cases h1.symm.trans h2;rfl) x y
theorem VP.uniq {v:V}{a b:PV}(h:VP H v a) (h':VP H v b):a=b:=by
 induction v<;>induction a<;>first|exact h.elim|skip
 all_goals induction b<;>first|exact h'.elim|skip
 .rfl
 .rfl
 .have h:_=_:=h;have h':_=_:=h';exact wr (h.symm) (wr (h'.symm) rfl)
 .refine be h λvs e1 s1 u_=>be h' λws e2 s2 u_=>?_;rw[e1] at e2;cases e2;exact wr (s1.uniq s2) rfl
theorem zd.uniq {vs:List V}{a b:aO}(x:zd H vs a) (y:zd H vs b):a=b:=aS.uniq (λv a b h1 h2=>by
 obtain⟨m,c,rfl,h1,v1⟩:=h1;obtain⟨n,d,e,h2,v2⟩:=h2;obtain rfl:=V.ref.inj e;have h3:=List.cons.inj (O.tup.inj (Option.some.inj (h1.symm.trans h2)));have e4:c=d:=(List.cons.inj h3.2).1;exact Prod.ext (V.int.inj h3.1) ((e4▸v1).uniq v2)) x y
theorem PL.uniq {n:Nat}{a b:aO}(h:PL H n a) (h':PL H n b):a=b:=by
 refine be h λvs e1 s1 u_=>be h' λws e2 s2 u_=>?_;rw[e1] at e2;obtain rfl:=O.list.inj (Option.some.inj e2);exact s1.uniq s2
theorem Bu (g:∀p∈ps,Good p) (j:Nat):Good ((ps[j]?).getD []):=by
 rcases e:ps[j]? with _|p
 .exact rE
 .exact g p (List.mem_of_getElem? e)
theorem C4 (g:∀p∈ps,Good p) (i:Nat):Good (cO ps i):=by
 unfold cO
 split
 .exact Bu g _
 .exact rE
theorem pn {ru i:Nat}(h:Tp H pr tr L ps) (hr:Ru H ru D) (g:∀p∈ps,Good p)
  (K:∀H' n r,PL H' n r->H.nx<=n->Up H H'->Good r->(∀x,cY x=false->bg r x=jk (cO ps i) (dG ps i) D x (decide (0<i)))->Q (.ref n) H'):
  ok (ae (aa (k+7)) "inherited_at" [.ref ru,.ref pr,.int i]) Q H:=by
 have gl:=C4 g i;have gr:Good (dG ps i):=Bu g i;have inhd:∀{H1:AH} {nl nr:Nat},Up H H1->PL H1 nl (cO ps i)->PL H1 nr (dG ps i)->ok (ae (aa (k+6)) "inherited" [.ref ru,.ref nl,.ref nr]) (λx H=>Q x H) H1:=λ{H1 nl nr} f1 hl hn=>by
  refine wk (k:=k) f1.wf (hr.up h.sq.wf f1) hl hn gl.yf gr.yf (by have:=gl.len;exact Nat.le_add_left_of_le (by assumption)) (by have:=gr.len;exact Nat.le_add_left_of_le (by assumption)) (λe he c=>?_) λH2 n a b f2=>?_
  .have:=((yN (D:=D) gl gr).2 e he).1;rw[c] at this;unfold ye at this;contradiction
  .refine K H2 n _ a (Nat.le_trans f1.nx b) (f1.trans f2) (EJ gl gr) λx hx=>EK hx gl.nd gr.nd gr.JZ λhp=>?_;unfold cO;exact wr (if_neg (by simpa using hp)) rfl
 refine P.rB<|bN ?_
 by_cases c:(i:Int)>0
 .refine aM (decide_eq_true c)<|aT<|cw (k:=k+2) h λH1 nl f1 hl=>?_
  have hl:PL H1 nl (cO ps i):=by
   rw[if_neg (by lia)] at hl;unfold cO;refine wr (if_pos (by exact Int.ofNat_lt.mp (by assumption))) (wr (LV (by exact Int.ofNat_lt.mp (by assumption))) ?_);exact hl
  have h1:=h.up f1;refine cw (k:=k+2) h1 λH2 nr f2 hn=>?_;rw[if_neg (by lia)] at hn;have hn:PL H2 nr (dG ps i):=hn;have h2:=h1.up f2;have f12:=f1.trans f2;have hl2:=hl.up f1.wf f2;refine bN ?_;refine aM (decide_eq_true c) ?_;refine cK h2<|mJ (k:=k+4) h2.sq ?_
  refine cU ?_;refine wr h2.len ?_
  by_cases c2:(i:Int)<(ps.length:Int)
  .refine aM (decide_eq_true c2)<|cK h2 ?_
   refine eK (place h2.sq.pos (at_:=i) (by exact Int.natCast_nonneg _) (by refine wr h2.len ?_;assumption)) λA e B z1 g1 g2=>?_;subst z1;refine ir (k:=k+3) h2.sq g1 g2 λH3 x hx f3=>?_;have h3:=h2.up f3;have f13:=f12.trans f3;refine eL hx<|pK ?_
   by_cases c3:aI A=i
   .refine iI (show(aI A==(i:Int))=true from beq_iff_eq.mpr c3)<|inhd f13 (hl2.up f2.wf f3) (hn.up f2.wf f3)
   .refine jG (show(aI A==(i:Int))=false from beq_eq_false_iff_ne.mpr c3) ?_;dsimp only[Bool.not];refine fe h3.sq ?_;have q1:=ie (i:=i) h3.sq.pos g1 g2;have q2:=ie (i:=i-1) h3.sq.pos (by lia) (by lia);refine bV (h3.cs.get q1) λn0 p0 e1 e2 e3=>bV (h3.cs.get q2) λn1 p1 e4 e5 e6=>?_;have hpp:p1=p0:=by
     have:n1=n0:=by rw[e1] at e4;obtain rfl:=V.ref.inj e4;rfl
     subst this;exact e6.uniq e3
    have hlp:cO ps i=p0:=by unfold cO;refine wr (if_pos (by exact Int.ofNat_lt.mp (by assumption))) (wr e5 (wr (hpp.symm) ?_));rfl
    have hrp:dG ps i=p0:=by unfold dG;refine wr e2 ?_;rfl
    have g0:Good p0:=g p0 (List.mem_of_getElem? e2);refine wr e1<|kB (k:=k+2) h3.sq.wf (hr.up h.sq.wf f13) e3 g0.yf λH4 f4=>?_
    have f14:=f13.trans f4;refine aj ?_
    rcases hw:iD p0 D with _|_
    .dsimp only;have h4:=h3.up f4;refine fe h4.sq ?_;refine wr e1 ?_;refine be (e3.up h3.sq.wf f4) λvs v1 v2 v3=>?_;have hlen:=v2.len;refine fW v1 (by exact Nat.le_trans (Nat.le_of_eq (by assumption)) (Nat.le_trans (by assumption) (by decide))) ?_;have f5:Up H4 (H4.add (.list vs)):=.add f4.wf;refine K _ _ p0 ⟨vs,by exact wr bq (wr (if_pos rfl) rfl),v2.tk (Up.tk f4.wf f5),v3⟩ f14.nx (f14.trans f5) g0 λx hx=>wr hlp (wr hrp (wr (decide_eq_true (show 0<i by exact Int.ofNat_lt.mp (by assumption))) ?_));exact xf hx g0.JZ hw
    .exact inhd f14 ((hl2.up f2.wf f3).up f3.wf f4) ((hn.up f2.wf f3).up f3.wf f4)
  .refine aJ (decide_eq_false c2)<|inhd f12 hl2 hn
 .refine aJ (decide_eq_false c)<|jC h.sq.wf λH1 nl f1 hl=>?_
  have hl:PL H1 nl (cO ps i):=by unfold cO;refine wr (if_neg (by lia)) ?_;exact hl
  refine cw (k:=k+2) (h.up f1) λH2 nr f2 hn=>?_;rw[if_neg (by lia)] at hn;have hn:PL H2 nr (dG ps i):=hn;refine bN ?_;refine aJ (decide_eq_false c) ?_;exact inhd (f1.trans f2) (hl.up f1.wf f2) hn
end
end Mi
namespace Mi
open PySem
noncomputable abbrev bx:List aO->List aO->Prop:=aS λa b=>∀x,a.lookup x=b.lookup x
theorem bx.refl {l:List aO}:bx l l:=by
 induction l with
 |nil=>trivial
 |cons a l ih=>exact⟨λu_=>rfl,ih⟩
theorem bx.trans {a b c:List aO}(h:bx a b) (g:bx b c):bx a c:=aS.ind (P:=λa b=>∀c,bx b c->bx a c) h (λu_ g=>g) (λu_ u_ u_ u_ r u_ i c g=>by induction c with|nil=>exact g.elim|cons=>exact⟨λx=>(r x).trans (g.1 x),i _ g.2⟩) c g
theorem bx.len {a b:List aO}(h:bx a b):a.length=b.length:=aS.len h
theorem bx.app {a b c d:List aO}(h:bx a b) (g:bx c d):bx (a++c) (b++d):=aS.app h g
section
variable {H H':AH}{S:Nat->Prop}{tr pr:Nat}{L:List E3}{ps:List aO}
theorem Cs.app {vs us:List V}{ps qs:List aO}(x:Cs H vs ps) (y:Cs H us qs):Cs H (vs++us) (ps++qs):=aS.app x y
theorem Cs.split {vs us:List V}{ps:List aO}(x:Cs H (vs++us) ps):∃a b,ps=a++b/\Cs H vs a/\Cs H us b:=aS.split x
theorem du (h:Sq H tr L) {m:Nat}(q:TL tr L m):(∀l,H.at_ m≠some (.list l))/\∀l,H.at_ m≠some (.tup l):=by
 rcases q with q|q
 .subst q;refine xE h.tree λv e=>?_;exact⟨λl c=>(by rw[e] at c;exact nO c rfl),λl c=>(by rw[e] at c;exact nO c rfl)⟩
 .refine fM (h.live q) λu_ u_ u_ u_ u_ e=>?_;exact⟨λl c=>(by rw[e] at c;exact nO c rfl),λl c=>(by rw[e] at c;exact nO c rfl)⟩
theorem PL.tl {n:Nat}{p:aO}(h:Sq H tr L) (f:Fm (TL tr L) H H') (x:PL H n p):PL H' n p:=
 x.keep (.of h.wf f λm l hm q=>(du h q).2 l hm) λl e=>f.at_ h.wf e λq=>(du h q).1 l e
theorem Cs.tl {vs:List V}(h:Sq H tr L) (f:Fm (TL tr L) H H') (x:Cs H vs ps):Cs H' vs ps:=x.mono λu_ u_ y=>y.tl h f
theorem Tp.obs (h:Tp H pr tr L ps) (f:Fm (TL tr L) H H'):H'.at_ pr=some (vx tr):=f.at_ h.sq.wf h.ob λq=>by
 rcases q with q|q
 .refine xE h.sq.tree λv e=>?_;subst q;exact ez h.ob e (by kernel_rfl)
 .refine fM (h.sq.live q) λu_ u_ u_ u_ u_ e=>ez h.ob e (by kernel_rfl)
end
end Mi
namespace Mi
open PySem
structure fw (L:List E3) (ps:List aO) (L':List E3) (ps':List aO):Prop where
 same:bx ps ps'
 good:∀p∈ps',Good p
 len:L'.length<=L.length
 ids:∀i∈L'.map (·.1),i∈L.map (·.1)
theorem fw.refl {L:List E3}{ps:List aO}(g:∀p∈ps,Good p):fw L ps L ps:=⟨.refl,g,Nat.le_refl _,λu_ h=>h⟩
section
variable {H H':AH}{S:Nat->Prop}{k:Nat}{Q:KV}{QB:KB}{D:List Int}{tr pr:Nat}{L:List E3}{ps:List aO}
theorem Cs.run {n:Nat}{v:V}{qs:List aO}(h:Cs H (List.replicate n v) qs) (m:Nat) (p:aO) (e:v=.ref m) (hp:PL H m p):qs=List.replicate n p:=by
 induction n generalizing qs with
 |zero=>induction qs with|nil=>rfl|cons=>exact h.elim
 |succ n ih=>
  rcases qs with _|⟨a,qs⟩
  .exact h.elim
  .refine xA h λz1 hr=>?_;obtain⟨m',e',ha⟩:=z1;rw[e] at e';obtain rfl:=V.ref.inj e';exact wr List.replicate_succ (wr (ih hr) (wr (ha.uniq hp) rfl))
theorem Cs.rep {n m:Nat}{p:aO}(hp:PL H m p):Cs H (List.replicate n (.ref m)) (List.replicate n p):=by
 induction n with
 |zero=>trivial
 |succ n ih=>exact⟨⟨m,rfl,hp⟩,ih⟩
theorem bx.rep {n:Nat}{p q:aO}(h:∀x,p.lookup x=q.lookup x):bx (List.replicate n p) (List.replicate n q):=by
 induction n with
 |zero=>trivial
 |succ n ih=>exact⟨h,ih⟩
theorem Al {A B:List E3}{e d:E3}(w:∀x∈A++e::d::B,0<x.2.1) (hc:Cs H (chars (A++e::d::B)) ps) (hg:∀p∈ps,Good p) {n m:Nat}{p q:aO}(e1:e.2.2=.ref n) (e2:d.2.2=.ref m) (hp:PL H n p) (hq:PL H m q) (hs:j6 p q=true) (gp:Good p):
  ∃ps',Cs H (chars (A++(e.1,e.2.1+d.2.1,e.2.2)::B)) ps'/\fw (A++e::d::B) ps (A++(e.1,e.2.1+d.2.1,e.2.2)::B) ps':=by
 rw[bP] at hc;refine bV hc.split λa r z2 ca cr=>?_;subst z2;have cr:Cs H (List.replicate e.2.1.toNat e.2.2++(List.replicate d.2.1.toNat d.2.2++chars B)) r:=cr;obtain⟨b,r,rfl,cb,cr⟩:=cr.split;obtain⟨c,r,rfl,cc,cB⟩:=cr.split;have hb:=cb.run n p e1 hp;have hcc:=cc.run m q e2 hq;subst hb;subst hcc;have we:=w e (by simp);have wd:=w d (by simp);have en:(e.2.1+d.2.1).toNat=e.2.1.toNat+d.2.1.toNat:=Int.toNat_add (Int.le_of_lt we) (Int.le_of_lt wd);refine⟨a++(List.replicate (e.2.1.toNat+d.2.1.toNat) p++r),?_,?_,?_,?_,?_⟩
 .refine wr bP<|ca.app ?_
  show Cs H (List.replicate (e.2.1+d.2.1).toNat e.2.2++chars B) _;refine wr en (wr e1 ?_);exact(Cs.rep hp).app cB
 .refine bx.app .refl<|wr (List.replicate_append_replicate.symm) (wr (List.append_assoc _ _ _) ?_)
  exact bx.app .refl (bx.app (.rep λx=>(qz gp.nd hs x).symm) .refl)
 .intro u hu
  rcases List.mem_append.mp hu with hu|hu
  .exact hg u (List.mem_append_left _ hu)
  .rcases List.mem_append.mp hu with hu|hu
   .refine wr ((List.mem_replicate.mp hu).2) ?_;exact gp
   .exact hg u (List.mem_append_right _ (List.mem_append_right _ (List.mem_append_right _ hu)))
 .simp
 .intro i hi;simp only[List.map_append,List.map_cons,List.mem_append,List.mem_cons] at hi⊢
  rcases hi with hi|hi|hi
  .exact .inl hi
  .exact .inr (.inl hi)
  .exact .inr (.inr (.inr hi))
end
end Mi
namespace Mi
open PySem
section
variable {H H':AH}{S:Nat->Prop}{k:Nat}{Q:KV}{QB:KB}{D:List Int}{tr pr:Nat}{L:List E3}{ps:List aO}
theorem gj {i:Nat}(h:Tp H pr tr L ps) (g:∀p∈ps,Good p) (hb:L.length+2<=1000)
  (K:∀H' L' ps',Tp H' pr tr L' ps'->fw L ps L' ps'->Fm (TL tr L) H H'->Q .none H'):ok (ae (aa (k+6)) "join_at" [.ref pr,.int i]) Q H:=by
 refine P.CV<|cU ?_
 by_cases c:(0:Int)<i
 case neg=>
  refine aJ (decide_eq_false c)<|K H L ps h (.refl g) (.refl h.sq.wf)
 refine aM (decide_eq_true c) ?_;dsimp only[cond];refine cK h<|mJ (k:=k+3) h.sq ?_
 refine cU ?_;refine wr h.len ?_
 by_cases c2:(i:Int)<(ps.length:Int)
 case neg=>
  refine wr (decide_eq_false c2)<|K H L ps h (.refl g) (.refl h.sq.wf)
 refine wr (decide_eq_true c2) ?_;dsimp only[Bool.not];refine cK h ?_;refine eK (place h.sq.pos (at_:=i) (by exact Int.natCast_nonneg _) (by refine wr h.len ?_;assumption)) λA d B z1 g1 g2=>?_;subst z1;refine ir (k:=k+2) h.sq g1 g2 λH1 x hx f1=>?_;have h1:=h.up f1;have fm1:Fm (TL tr (A++d::B)) H H1:=f1.aE λu_ q=>q.elim;refine eL hx<|pK ?_
 by_cases c3:aI A=i
 case neg=>
  refine wr (show(aI A==(i:Int))=false from beq_eq_false_iff_ne.mpr c3)<|K H1 _ ps h1 (.refl g) fm1
 refine wr (show(aI A==(i:Int))=true from beq_iff_eq.mpr c3) ?_;dsimp only[Bool.not];refine k6 (k:=k+3) h1.sq ?_
 rcases List.eq_nil_or_concat A with rfl|⟨A,e,rfl⟩
 .have:(0:Int)=i:=c3;lia
 rw[List.concat_eq_append] at*;refine wr lK ?_;have ea:∀X:List E3,A++[e]++X=A++e::X:=λX=>by simp
 rw[ea] at h1 hb K fm1;have hc:=h1.cs;have q1:=ie (A:=A) (e:=e) (B:=d::B) (i:=i-1) h1.sq.pos (by rw[dx] at c3;have:aI [e]=e.2.1+0:=rfl;have:=h1.sq.pos e (by simp);lia) (by rw[dx] at c3;have:aI [e]=e.2.1+0:=rfl;lia);have q2:=ie (A:=A++[e]) (e:=d) (B:=B) (i:=i) (by refine wr (ea _) ?_;exact h1.sq.pos) g1 g2;rw[ea] at q2;refine bV (hc.get q1) λn p e1 e2 e3=>bV (hc.get q2) λm q e4 e5 e6=>?_;have gp:=g p (List.mem_of_getElem? e2);refine fe h1.sq ?_;have s2:Sq H1 tr (A++[e]++d::B):=by refine wr (ea _) ?_;exact h1.sq
 refine fe s2 ?_;refine wr e1 (wr e4 ?_);refine j5 (k:=k+2) h1.sq.wf e3 e6 λH2 f2=>?_;have h2:=h1.up f2;have fm2:=fm1.trans (f2.aE λu_ q=>q.elim);refine aj ?_
 rcases hs:j6 p q with _|_
 .exact K H2 _ ps h2 (.refl g) fm2
 .have s2:Sq H2 tr (A++[e]++d::B):=by refine wr (ea _) ?_;exact h2.sq
  refine vh (k:=k+3) s2<|cK h2 ?_
  refine G7 (k:=k) s2 (by refine wr (ea _) ?_;exact hb) λH3 s3 f3=>?_;rw[ea] at f3;rw[ea] at s3;have pe:=h2.sq.pos e (by simp);have pd:=h2.sq.pos d (by simp);refine A5 (k:=k+3) s3 (by lia) λH4 s4 f4=>?_;have sub:∀x∈A++e::B,x∈A++e::d::B:=λx hx=>by simp at hx⊢;rcases hx with hx|hx|hx<;>simp[hx]
  have fm34:Fm (TL tr (A++e::d::B)) H2 H4:=f3.trans (f4.aE λx q=>Ht sub q);have ob4:=h2.obs fm34;refine aQ ob4 (by kernel_rfl) (v:=.ref tr) (by kernel_rfl) ?_;refine Ca (k:=k+1) (A:=A) (e:=(e.1,e.2.1+d.2.1,e.2.2)) (B:=B) s4 (by simp at hb⊢;exact Nat.le_of_lt (by assumption)) λH5 s5 f5=>?_;have fm25:Fm (TL tr (A++e::d::B)) H2 H5:=fm34.trans (f5.aE λx q=>by
   rcases q with q|q
   .exact .inl q
   .refine .inr ?_;simp at q⊢
    rcases q with q|q|q
    .exact .inl q
    .exact .inr (.inl q)
    .exact .inr (.inr (.inr q)))
  refine bW (Al h2.sq.pos h2.cs g e1 e4 (e3.up h1.sq.wf f2) (e6.up h1.sq.wf f2) hs gp) λps' j1 j2=>K H5 _ ps' ⟨h2.obs fm25,s5,j1.tl h2.sq fm25⟩ j2 (fm2.trans fm25)
end
end Mi
namespace Mi
open PySem
section
variable {H H' H'':AH}{S:Nat->Prop}{k:Nat}{Q:KV}{D:List Int}{tr pr:Nat}{L L':List E3}{ps ps':List aO}
theorem Fm.tl (f:Fm (TL tr L) H H') (g:Fm (TL tr L') H' H'') (hi:∀i∈L'.map (·.1),i∈L.map (·.1)\/H.nx<=i):Fm (TL tr L) H H'':=
 f.bG g λm hm q=>by
  rcases q with q|q
  .exact .inl q
  .rcases hi m q with q|q
   .exact .inr q
   .lia
theorem C2 {A B:List E3}{at_ many:Int}{fr m:Nat}{q:aO}(w:∀e∈A,0<e.2.1) (hA:aI A=at_) (hc:Cs H (chars (A++B)) ps) (hq:PL H m q):
  Cs H (chars (A++(fr,many,.ref m)::B)) (ps.take at_.toNat++(List.replicate many.toNat q++ps.drop at_.toNat)):=by
 rw[bP] at hc⊢;refine bV hc.split λa b z1 ca cb=>?_;subst z1;have hl:=fX w;have:=ca.len;have e:at_.toNat=a.length:=by lia
 refine wr e (wr List.take_left (wr List.drop_left ?_));exact ca.app ((Cs.rep hq).app cb)
end
end Mi
namespace Mi
open PySem
theorem fw.trans {L L' L'':List E3}{ps ps' ps'':List aO}(a:fw L ps L' ps') (b:fw L' ps' L'' ps''):fw L ps L'' ps'':=
 ⟨a.same.trans b.same,b.good,Nat.le_trans b.len a.len,λi h=>a.ids i (b.ids i h)⟩
structure FQ (n0:Nat) (L:List E3) (ps:List aO) (i m:Nat) (q:aO) (L':List E3) (ps':List aO):Prop where
 same:bx (ps.take i++(List.replicate m q++ps.drop i)) ps'
 good:∀p∈ps',Good p
 len:L'.length<=L.length+2
 ids:∀j∈L'.map (·.1),j∈L.map (·.1)\/n0<=j
theorem FQ.join {n0:Nat}{L L' L'':List E3}{ps ps' ps'':List aO}{i m:Nat}{q:aO}(a:FQ n0 L ps i m q L' ps') (b:fw L' ps' L'' ps''):FQ n0 L ps i m q L'' ps'':=
 ⟨a.same.trans b.same,b.good,Nat.le_trans b.len a.len,λj h=>a.ids j (b.ids j h)⟩
section
variable {H H':AH}{S:Nat->Prop}{k:Nat}{Q:KV}{QB:KB}{D:List Int}{tr pr:Nat}{L:List E3}{ps:List aO}
theorem fw.fm {L':List E3}{ps':List aO}{H'':AH}(j:fw L ps L' ps') (f:Fm (TL tr L) H H') (g:Fm (TL tr L') H' H''):Fm (TL tr L) H H'':=f.tl g λi h=>.inl (j.ids i h)
theorem FQ.fm {L':List E3}{ps':List aO}{H'':AH}{i m:Nat}{q:aO}(j:FQ H.nx L ps i m q L' ps') (f:Fm (TL tr L) H H') (g:Fm (TL tr L') H' H''):Fm (TL tr L) H H'':=f.tl g λi h=>j.ids i h
theorem EN {i m:Nat}{q:aO}(g:∀p∈ps,Good p) (gq:Good q):∀p∈ps.take i++(List.replicate m q++ps.drop i),Good p:=λp hp=>by
 rcases List.mem_append.mp hp with hp|hp
 .exact g p (List.mem_of_mem_take hp)
 .rcases List.mem_append.mp hp with hp|hp
  .refine wr ((List.mem_replicate.mp hp).2) ?_;exact gq
  .exact g p (List.mem_of_mem_drop hp)
theorem ub {i m n:Nat}{q:aO}(h:Tp H pr tr L ps) (g:∀p∈ps,Good p) (hq:PL H n q) (gq:Good q) (hi:i<=ps.length) (hm:0<m) (hb:L.length+5<=1000)
  (K:∀H' L' ps',Tp H' pr tr L' ps'->FQ H.nx L ps i m q L' ps'->Fm (TL tr L) H H'->Q .none H'):ok (ae (aa (k+7)) "insert_interval" [.ref tr,.int i,.int m,.ref n]) Q H:=by
 refine C1 (k:=k) h.sq (by exact Int.natCast_nonneg _) (by refine wr h.len ?_;exact Int.ofNat_le.mpr (by assumption)) (by exact Int.ofNat_lt.mpr (by assumption)) hb λH2 A B fr s2 cut hfr f2=>?_;have hc:Cs H2 (chars (A++B)) ps:=cut.chars▸h.cs.tl h.sq f2;have hc2:=C2 (m:=n) (q:=q) (fr:=fr) (many:=m) (λe he=>s2.pos e (List.mem_append_left _ he)) cut.sum hc (hq.tl h.sq f2);rw[Int.toNat_natCast,Int.toNat_natCast] at hc2;refine K H2 _ _ ⟨h.obs f2,s2,hc2⟩ ⟨.refl,EN g gq,?_,?_⟩ f2
 .have:=cut.len;simp at this⊢;lia
 .intro j hj;simp only[List.map_append,List.map_cons,List.mem_append,List.mem_cons] at hj
  rcases hj with hj|hj|hj
  .refine bW (List.mem_map.mp hj) λe he z1=>?_;subst z1;exact cut.ids e (List.mem_append_left _ he)
  .refine wr hj ?_;exact .inr hfr
  .refine bW (List.mem_map.mp hj) λe he z2=>?_;subst z2;exact cut.ids e (List.mem_append_right _ he)
theorem mH {i m n:Nat}{q:aO}(h:Tp H pr tr L ps) (g:∀p∈ps,Good p) (hq:PL H n q) (gq:Good q) (hi:i<=ps.length) (hm:0<m) (hb:L.length+5<=1000)
  (K:∀H' L' ps',Tp H' pr tr L' ps'->FQ H.nx L ps i m q L' ps'->Fm (TL tr L) H H'->Q .none H'):ok (ae (aa (k+8)) "text_inserted" [.ref pr,.int i,.int m,.ref n]) Q H:=by
 refine P.oS<|cK h<|be hq λvs v1 v2 v3=>?_
 have hlen:=v2.len;refine fW v1 (by exact Nat.le_trans (Nat.le_of_eq (by assumption)) (Nat.le_trans (by assumption) (by decide))) ?_;have f1:Up H (H.add (.list vs)):=.add h.sq.wf;have q1:PL (H.add (.list vs)) H.nx q:=⟨vs,by exact wr bq (wr (if_pos rfl) rfl),v2.tk (Up.tk h.sq.wf f1),v3⟩;have h1:=h.up f1;have nx1:=f1.nx;generalize H.add (.list vs)=H1 at f1 q1 h1 nx1;refine ub (k:=k) h1 g q1 gq hi hm hb λH2 L2 p2 h2 i2 f2=>?_;have f12:Fm (TL tr L) H H2:=(f1.aE λu_ q=>q.elim).trans f2;have i2:FQ H.nx L ps i m q L2 p2:=⟨i2.same,i2.good,i2.len,λj hj=>(i2.ids j hj).imp_right λx=>by exact Nat.le_trans (by assumption) (by assumption)⟩;refine aC ?_;refine wr ((Int.natCast_add _ _).symm) ?_;have l2:=i2.len;refine gj (k:=k+1) h2 i2.good (by lia) λH3 L3 p3 h3 j3 f3=>?_;have i3:=i2.join j3;have f13:=i2.fm f12 f3;have l3:=i3.len;refine gj (k:=k+1) h3 i3.good (by lia) λH4 L4 p4 h4 j4 f4=>K H4 L4 p4 h4 (i3.join j4) (i3.fm f13 f4)
theorem join_loop {e:Nat}{Q:Fl×ao->AH->Prop}:∀(d:Nat) {at_:Nat} {o1 o2 o3:Option V} {L:List E3} {ps:List aO} {H:AH},e+1-at_<=d->Tp H pr tr L ps->(∀p∈ps,Good p)->L.length+2<=1000->∀{b:V},
  (∀H' L' ps' x o1 o2 o3,Tp H' pr tr L' ps'->fw L ps L' ps'->Fm (TL tr L) H H'->Q (.next,[("props",some (.ref pr)),("begin",some b),("end",some (.int e)),("at",some x),("node",o1),("first",o2),("last",o3)]) H')->
  ok (bM (aa (k+6)) (fD "join_range") 7 [1] [("props",some (.ref pr)),("begin",some b),("end",some (.int e)),("at",some (.int at_)),("node",o1),("first",o2),("last",o3)]) Q H:=by
 intro d
 induction d with
 |zero=>
  intro at_ o1 o2 o3 L ps H hd h g hb b K;refine aX ?_;refine P.kc ?_;refine kn ?_;refine aJ (decide_eq_false (by lia)) ?_;exact K H L ps _ _ _ _ h (.refl g) (.refl h.sq.wf)
 |succ d ih=>
  intro at_ o1 o2 o3 L ps H hd h g hb b K;refine aX ?_;refine P.kc ?_;refine kn ?_
  by_cases c:(at_:Int)<=e
  case neg=>
   refine aJ (decide_eq_false c)<|K H L ps _ _ _ _ h (.refl g) (.refl h.sq.wf)
  refine aM (decide_eq_true c)<|cK h<|mJ (k:=k+4) h.sq ?_
  refine cU ?_;refine wr h.len ?_
  by_cases c2:(at_:Int)<(ps.length:Int)
  case neg=>
   refine aJ (decide_eq_false c2)<|K H L ps _ _ _ _ h (.refl g) (.refl h.sq.wf)
  refine aM (decide_eq_true c2) ?_;refine P.tv ?_;refine cK h ?_;refine eK (place h.sq.pos (at_:=at_) (by exact Int.natCast_nonneg _) (by refine wr h.len ?_;assumption)) λA x B z3 g1 g2=>?_;subst z3;refine ir (k:=k+3) h.sq g1 g2 λH1 y hy f1=>?_;have h1:=h.up f1;have fm1:Fm (TL tr (A++x::B)) H H1:=f1.aE λu_ q=>q.elim;refine eL hy<|vh (k:=k+4) h1.sq<|aC ?_
  have hA:=e9 (l:=A) λz hz=>h.sq.pos z (List.mem_append_left _ hz);have e1:aI A=((aI A).toNat:Int):=(Int.toNat_of_nonneg hA).symm;have e2:aI A+x.2.1=((aI A+x.2.1).toNat:Int):=(Int.toNat_of_nonneg (Int.le_trans (Int.natCast_nonneg at_) (Int.le_of_lt g2))).symm;have hd2:=Ij hd g2;refine wr e2 ?_;rw[e1];refine gj (k:=k) h1 g hb λH2 L2 p2 h2 j2 f2=>?_;have l2:=j2.len;have f12:=fm1.trans f2;refine ih (by rw[<-e1];exact hd2) h2 j2.good (by lia) λH3 L3 p3 z q1 q2 q3 h3 j3 f3=>?_;exact K H3 L3 p3 z q1 q2 q3 h3 (j2.trans j3) (j2.fm f12 f3)
theorem tn {b e:Nat}(h:Tp H pr tr L ps) (g:∀p∈ps,Good p) (hb:L.length+2<=1000)
  (K:∀H' L' ps',Tp H' pr tr L' ps'->fw L ps L' ps'->Fm (TL tr L) H H'->Q .none H'):ok (ae (aa (k+7)) "join_range" [.ref pr,.int b,.int e]) Q H:=by
 refine P.wb<|join_loop (k:=k) _ (Nat.le_refl _) h g hb λH1 L1 p1 x o1 o2 o3 h1 j1 f1=>P.tA ?_
 have l1:=j1.len;refine gj (k:=k) h1 j1.good (by lia) λH2 L2 p2 h2 j2 f2=>K H2 L2 p2 h2 (j1.trans j2) (j1.fm f1 f2)
end
end Mi
namespace Mi
open PySem
noncomputable def refs (M:List E3):List V:=M.map λe=>V.ref e.1
section
variable {H H':AH}{S:Nat->Prop}{k:Nat}{Q:KV}{QB:KB}{D:List Int}{tr pr:Nat}{L A B M:List E3}{ps:List aO}{e:E3}
theorem zU {Q:Fl×ao->AH->Prop}{b e:V}{p:V}:∀{M2 M1:List E3} {A:List E3} {n:Nat} {H:AH},Sq H tr (A++(M2++B))->H.at_ n=some (.list (refs M1))->(M1++M2).length<=1000->
  (∀H' v,Sq H' tr (A++(M2++B))->H'.at_ n=some (.list (refs (M1++M2)))->Fm (λm=>m=n) H H'->Q (.next,[("props",some p),("begin",some b),("end",some e),("node",some v),("found",some (.ref n)),("left",some (.int 0))]) H')->
  ok (bM (aa (k+3)) (fD "range_nodes") 7 [6] [("props",some p),("begin",some b),("end",some e),("node",some (Ky (M2++B))),("found",some (.ref n)),("left",some (.int (aI M2)))]) Q H:=by
 intro M2
 induction M2 with
 |nil=>
  intro M1 A n H h hn hb K;refine aX ?_;refine P.iZ ?_;refine bN ?_;refine aJ (decide_eq_false (by show¬(0:Int)>0;decide)) ?_;exact K H _ h (by refine wr (List.append_nil _) ?_;exact hn) (.refl h.wf)
 |cons x M2 ih=>
  intro M1 A n H h hn hb K;have hx:0<x.2.1:=h.pos x (by simp);have hm:=e9 (l:=M2) λy hy=>h.pos y (by simp[hy]);have es:aI (x::M2)=x.2.1+aI M2:=rfl;refine aX ?_;refine P.iZ ?_;refine bN ?_;refine aM (decide_eq_true (by lia)) ?_;refine P.qI<|dA (m:=.append) hn (by kernel_rfl) rfl ⟨_,hn,?_⟩
  show ok (do eB n (.list (refs M1++[.ref x.1]));pure V.none) _ H;refine ah ?_;have el:refs M1++[.ref x.1]=refs (M1++[x]):=by unfold refs;simp
  refine wr el ?_;refine eO (bp (by unfold refs;simp at hb⊢;lia)) ?_;refine aq ?_;have f1:Fm (λm=>m=n) H (H.put n (.list (refs (M1++[x])))):=.put h.wf hn rfl;have g1:(H.put n (.list (refs (M1++[x])))).at_ n=some (.list (refs (M1++[x]))):=wr aK (wr (if_pos rfl) rfl);generalize H.put n (.list (refs (M1++[x])))=H1 at f1 g1;have h1:Sq H1 tr (A++(x::M2++B)):=h.fm f1 λm hm q=>by subst q;exact(du h hm).1 _ hn
  have h1':Sq H1 tr (A++x::(M2++B)):=h1;refine vh (k:=k+1) h1' ?_;refine aT ?_;refine wr (show aI (x::M2)-x.2.1=aI M2 by lia) ?_;refine vi (k:=k+1) h1' ?_;have h2:Sq H1 tr ((A++[x])++(M2++B)):=by refine wr (List.append_assoc _ _ _) ?_;exact h1
  refine ih (M1:=M1++[x]) h2 g1 (by simp at hb⊢;assumption) λH2 v h3 g3 f3=>?_;refine K H2 v (by rw[List.append_assoc] at h3;exact h3) (by rw[List.append_assoc] at g3;exact g3) (f1.trans f3)
theorem qH {b e:Nat}(h:Tp H pr tr L ps) (hbe:b<e) (he:e<=ps.length) (hb:L.length+6<=1000)
  (K:∀H' A M B n,Tp H' pr tr (A++(M++B)) ps->aI A=b->aI M=(e:Int)-b->H'.at_ n=some (.list (refs M))->H.nx<=n->(A++(M++B)).length<=L.length+2->(∀i∈(A++(M++B)).map (·.1),i∈L.map (·.1)\/H.nx<=i)->Fm (TL tr L) H H'->Q (.ref n) H'):
  ok (ae (aa (k+7)) "range_nodes" [.ref pr,.int b,.int e]) Q H:=by
 refine P.sY ?_;refine q8 ?_;refine aJ (decide_eq_false (by lia)) ?_;refine cK h ?_;refine ql (k:=k) h.sq (by exact Int.natCast_nonneg _) (by refine wr h.len ?_;lia) (by lia) λH1 A1 B1 s1 c1 f1=>?_;have h1:Tp H1 pr tr (A1++B1) ps:=⟨h.obs f1,s1,c1.chars▸h.cs.tl h.sq f1⟩;refine cK h1 ?_;have l1:=c1.len;refine ql (k:=k) h1.sq (by exact Int.natCast_nonneg _) (by refine wr h1.len ?_;exact Int.ofNat_le.mpr (by assumption)) (by lia) λH2 A2 B2 s2 c2 f2=>?_;have h2:Tp H2 pr tr (A2++B2) ps:=⟨h1.obs f2,s2,c2.chars▸h1.cs.tl h1.sq f2⟩;have l2:=c2.len;have sA1:=c1.sum;refine xE (c2.ext A1 B1 rfl (by lia)) λM hM=>?_;subst hM;have sA2:=c2.sum;rw[dx] at sA2;have eas:A1++M++B2=A1++(M++B2):=by simp
 rw[eas] at h2;have f12:Fm (TL tr L) H H2:=f1.tl f2 λi hi=>by
  refine bW (List.mem_map.mp hi) λx hx z1=>?_;subst z1;exact c1.ids x hx
 have ids2:∀i∈(A1++(M++B2)).map (·.1),i∈L.map (·.1)\/H.nx<=i:=λi hi=>by
  rw[<-eas] at hi;refine bW (List.mem_map.mp hi) λx hx z2=>?_;subst z2
  rcases c2.ids x hx with q|q
  .refine bW (List.mem_map.mp q) λy hy hq=>wr (hq.symm)<|c1.ids y hy
  .exact .inr (Nat.le_trans f1.nx q)
 refine cK h2 ?_
 rcases M with _|⟨x,M⟩
 .have:aI ([]:List E3)=0:=rfl;lia
 .have hx:0<x.2.1:=h2.sq.pos x (by simp);refine ir (k:=k+3) (e:=x) (A:=A1) (B:=M++B2) h2.sq (by lia) (by lia) λH3 y hy f3=>?_;have h3:=h2.up f3;refine item_tup hy (by decide) rfl<|aB (by rfl) ?_
  have f4:Up H3 (H3.add (.list [])):=.add f3.wf;have g4:(H3.add (.list [])).at_ H3.nx=some (.list []):=wr bq (wr (if_pos rfl) rfl);have h4:=h3.up f4;have nx4:H.nx<=H3.nx:=Nat.le_trans f12.nx f3.nx;generalize hn:H3.nx=n at g4 nx4;generalize H3.add (.list [])=H4 at f4 g4 h4;refine aT ?_;have es:(e:Int)-b=aI (x::M):=by lia
  refine wr es ?_;have f14:Fm (TL tr L) H H4:=f12.trans ((f3.trans f4).aE λu_ q=>q.elim);refine zU (k:=k+3) (M2:=x::M) (M1:=[]) (B:=B2) (A:=A1) h4.sq g4 (by simp at l1 l2⊢;lia) λH5 v h5 g5 f5=>?_;refine P.qP ?_;have f35:Up H3 H5:=f4.bG f5 λm hm q=>by subst q;lia
  have h5':=h3.up f35;refine K H5 A1 (x::M) B2 n h5' sA1 es.symm g5 nx4 (by simp at l1 l2⊢;lia) ids2 (f14.bG f5 λm hm q=>?_);lia
end
end Mi
namespace Mi
open PySem
section
variable {H H':AH}{S:Nat->Prop}{k:Nat}{Q:KV}{QU:Unit->AH->Prop}{D:List Int}{tr pr:Nat}{L A B M:List E3}{ps:List aO}{e:E3}
theorem xw {v:V}(h:Sq H tr (A++e::B)) (K:∀H',Sq H' tr (A++(e.1,e.2.1,v)::B)->Fm (λm=>m=e.1) H H'->QU () H'):ok (bZ (.ref e.1) "plist" v) QU H:=by
 obtain⟨c,tt,l,r,h1,h2,h3,h4,h5,h6,h7,h8⟩:=h.zip;have hn:=h1.here.1;refine wc hn ?_;have f:Fm (λm=>m=e.1) H (H.put e.1 (iv tt v l.root r.root (Cx.par c))):=.put h1.wf hn rfl;have ntr:tr≠e.1:=by intro q;exact eS hn (q▸h1.tree)
 have nd:=h1.nd e.1;rw[T.af,if_pos rfl] at nd;have s:St (H.put e.1 (iv tt v l.root r.root (Cx.par c))) tr c (.node e.1 tt v l r):=
  ⟨f.wf,f.at_ h1.wf h1.tree ntr,h1.cx.fm h1.wf f λx hx q=>by subst q;lia,⟨by exact wr aK (wr (if_pos rfl) rfl),h1.here.2.1.fm (q:=.none) h1.wf f λx hx q=>by subst q;lia,h1.here.2.2.fm (q:=.none) h1.wf f λx hx q=>by subst q;lia⟩,h1.nd⟩
 refine K _ ⟨_,s.all,Cx.cN.mpr ⟨h2,h3⟩,?_⟩ f;refine wr Cx.eN ?_;show Cx.pre c tt++(l.seq++(e.1,tt-l.au-r.au,v)::r.seq)++Cx.post c tt=_;refine wr (h5.symm) (wr (h6.symm) (wr (h4.symm) ?_));simp
theorem bx.Ii {q:aO}{qs:List aO}(h:∀p∈qs,∀x,q.lookup x=p.lookup x):bx (List.replicate qs.length q) qs:=by
 induction qs with
 |nil=>trivial
 |cons p qs ih=>exact⟨h p List.mem_cons_self,ih λy hy=>h y (List.mem_cons_of_mem _ hy)⟩
structure Dt (H:AH) (L0:List E3) (tr pr n nq:Nat) (q:aO) (A M B:List E3) (ps:List aO) (i:Nat) (H2:AH) (M1:List E3) (a qs m1 m2 bs:List aO):Prop where
 sq:Sq H2 tr (A++(M1++(M.drop i++B)))
 ob:H2.at_ pr=some (vx tr)
 ca:Cs H2 (chars A) a
 cq:Cs H2 (chars M1) qs
 cm:Cs H2 (chars (M.drop i)) m2
 cb:Cs H2 (chars B) bs
 ps:ps=a++(m1++(m2++bs))
 len:m1.length=qs.length
 all:∀p∈qs,Good p/\∀x,q.lookup x=p.lookup x
 sum:aI M1=aI (M.take i)
 ids:M1.map (·.1)=(M.take i).map (·.1)
 li:H2.at_ n=some (.list (refs M))
 pq:PL H2 nq q
 fm:Fm (TL tr L0) H H2
theorem Dt.keys {n nq:Nat}{q:aO}{L0 M1:List E3}{a qs m1 m2 bs:List aO}{i:Nat}{H2:AH}(x:Dt H L0 tr pr n nq q A M B ps i H2 M1 a qs m1 m2 bs):(A++(M1++(M.drop i++B))).map (·.1)=(A++(M++B)).map (·.1):=by
 simp only[List.map_append,x.ids];exact wr (((List.append_assoc ((M.take i).map _)) _ _).symm) (wr (List.map_append.symm) (wr (List.take_append_drop _ _) rfl))
theorem Dt.step {n nq:Nat}{q:aO}{L0 M1:List E3}{a qs m1 m2 bs r1 r2:List aO}{i:Nat}{H2 H3:AH}{v:V}{p':aO}(x:Dt H L0 tr pr n nq q A M B ps i H2 M1 a qs m1 m2 bs) (he:M[i]? =some e)
  (hm2:m2=r1++r2) (c1:Cs H2 (List.replicate e.2.1.toNat e.2.2) r1) (c2:Cs H2 (chars (M.drop (i+1))) r2)
  (s:Sq H3 tr (A++(M1++((e.1,e.2.1,v)::(M.drop (i+1)++B))))) (hL0:∀j∈(A++(M1++(M.drop i++B))).map (·.1),j∈L0.map (·.1)\/H.nx<=j) (f:Fm (TL tr (A++(M1++(M.drop i++B)))) H2 H3)
  (c3:Cs H3 (List.replicate e.2.1.toNat v) (List.replicate e.2.1.toNat p')) (gp:Good p') (gl:∀x,q.lookup x=p'.lookup x):Dt H L0 tr pr n nq q A M B ps (i+1) H3 (M1++[(e.1,e.2.1,v)]) a (qs++List.replicate e.2.1.toNat p') (m1++r1) r2 bs:=by
 have ht:M.take (i+1)=M.take i++[e]:=by refine wr List.take_add_one (wr he ?_);rfl
 have w2:=x.sq.wf;have tp:Tp H2 pr tr (A++(M1++(M.drop i++B))) (a++(qs++(m2++bs))):=⟨x.ob,x.sq,by refine wr bP (wr bP (wr bP ?_));exact x.ca.app (x.cq.app (x.cm.app x.cb))⟩;refine⟨by simp;exact s,tp.obs f,x.ca.tl x.sq f,?_,c2.tl x.sq f,x.cb.tl x.sq f,by refine wr x.ps (wr hm2 ?_);simp,?_,?_,?_,?_,?_,x.pq.tl x.sq f,x.fm.tl f hL0⟩
 .refine wr bP<|(x.cq.tl x.sq f).app ?_
  show Cs H3 (List.replicate e.2.1.toNat v++chars []) _;refine wr (show chars []=[] from rfl) (wr (List.append_nil _) ?_);exact c3
 .exact wr List.length_append (wr List.length_append (wr x.len (wr List.length_replicate (wr (c1.len.symm) (wr List.length_replicate rfl)))))
 .intro p hp
  rcases List.mem_append.mp hp with hp|hp
  .exact x.all p hp
  .refine wr ((List.mem_replicate.mp hp).2) ?_;exact⟨gp,gl⟩
 .refine wr ht (wr dx (wr dx (wr x.sum ?_)));rfl
 .refine wr ht (wr List.map_append (wr List.map_append (wr x.ids ?_)));rfl
 .exact f.at_ w2 x.li λq=>(du x.sq q).1 _ x.li
def IS (H:AH) (tr pr n nq:Nat) (A B M:List E3) (ps:List aO) (q:aO) (b e:V) (i:Nat) (ρ:ao) (H2:AH):Prop:=∃c o M1 a qs m1 m2 bs,ρ=([("props",some (.ref pr)),("begin",some b),("end",some e),("plist",some (.ref nq)),("changed",some (.bool c)),("node",o)]:ao)/\Dt H (A++(M++B)) tr pr n nq q A M B ps i H2 M1 a qs m1 m2 bs
theorem DY {n nq:Nat}{q:aO}{b e:V}{Q:Fl×ao->AH->Prop}(h:Tp H pr tr (A++(M++B)) ps) (g:∀p∈ps,Good p) (gq:Good q) (hq:PL H nq q) (hn:H.at_ n=some (.list (refs M)))
  (K:∀H' c o L' ps',Tp H' pr tr L' ps'->bx (ps.take (aI A).toNat++(List.replicate (aI M).toNat q++ps.drop (aI A+aI M).toNat)) ps'->(∀p∈ps',Good p)->L'.map (·.1)=(A++(M++B)).map (·.1)->Fm (TL tr (A++(M++B))) H H'->
   Q (.next,[("props",some (.ref pr)),("begin",some b),("end",some e),("plist",some (.ref nq)),("changed",some (.bool c)),("node",o)]) H'):
  ok (d9 (aa (k+4)) (fD "set_properties") 7 [1] (.ref n) (0,refs M) [("props",some (.ref pr)),("begin",some b),("end",some e),("plist",some (.ref nq)),("changed",some (.bool false)),("node",none)]) Q H:=by
 refine dJ (I:=IS H tr pr n nq A B M ps q b e) ?_ ?_ ?_ (by kernel_rfl) ?_ ?_
 .have hc:=h.cs;rw[bP,bP] at hc;refine bV hc.split λa r z1 ca cr=>?_;subst z1;refine bV cr.split λm bs z2 cm cb=>?_;subst z2;exact⟨_,_,[],a,[],[],m,bs,rfl,h.sq,h.ob,ca,trivial,cm,cb,rfl,rfl,λu_ h=>(nomatch h),rfl,rfl,hn,hq,.refl h.sq.wf⟩
 .intro u hu;refine bW (List.mem_map.mp hu) λx u_ z3=>?_;subst z3;rfl
 .rintro i ρ H2 ⟨c,o,M1,a,qs,m1,m2,bs,rfl,x⟩
  exact aD x.li
 .rintro i ρ H2 u hu ⟨c,o,M1,a,qs,m1,m2,bs,rfl,x⟩
  refine P.lg ?_;have hu:(refs M)[i]? =some u:=hu;unfold refs at hu;rw[List.getElem?_map] at hu
  rcases he:M[i]? with _|d
  .rw[he] at hu;exact ns hu
  .rw[he] at hu;obtain rfl:=Option.some.inj hu;have hd:M.drop i=d::M.drop (i+1):=by
    have hlt:=(List.getElem?_eq_some_iff.mp he).1;refine wr (List.drop_eq_getElem_cons hlt) ?_
    congr 1
    exact(List.getElem?_eq_some_iff.mp he).2
   have sq':Sq H2 tr ((A++M1)++d::(M.drop (i+1)++B)):=by have:=x.sq;rw[hd] at this;simpa using this
   have hpos:0<d.2.1:=sq'.pos d (by simp);have cm:=x.cm;rw[hd] at cm;have cm:Cs H2 (List.replicate d.2.1.toNat d.2.2++chars (M.drop (i+1))) m2:=cm;refine bV cm.split λr1 r2 e12 c1 c2=>bV (c1.get (i:=0) (v:=d.2.2) (by exact wr (List.getElem?_replicate) (wr (if_pos (by lia)) rfl))) λn' p' e1 e2 e3=>?_;have hr1:=c1.run n' p' e1 e3;have gp':Good p':=g p' (by refine wr x.ps (wr e12 ?_);have:=List.mem_of_getElem? e2;simp[this]);have hids:∀j∈(A++(M1++(M.drop i++B))).map (·.1),j∈(A++(M++B)).map (·.1)\/H.nx<=j:=λj hj=>.inl (by rw[x.keys] at hj;exact hj);refine fe sq' ?_;refine wr e1 ?_;refine j5 (k:=k+1) sq'.wf x.pq e3 λH3 f3=>?_;have c1':Cs H2 (List.replicate d.2.1.toNat d.2.2) (List.replicate d.2.1.toNat p'):=hr1▸c1;refine aj ?_
   rcases hs:j6 q p' with _|_
   .dsimp only[cond,Bool.not];refine be (x.pq.up sq'.wf f3) λvs a1 a2 a3=>?_;have hlen:=a2.len;refine fW a1 (by exact Nat.le_trans (Nat.le_of_eq (by assumption)) (Nat.le_trans (by assumption) (by decide))) ?_;have f4:Up H3 (H3.add (.list vs)):=.add f3.wf;have p4:PL (H3.add (.list vs)) H3.nx q:=⟨vs,by exact wr bq (wr (if_pos rfl) rfl),a2.tk (Up.tk f3.wf f4),a3⟩;generalize H3.nx=nn at p4;generalize H3.add (.list vs)=H4 at f4 p4;have f24:=f3.trans f4;have s4:=sq'.fm f24 λu_ u_ q=>q;refine xw s4 λH5 s5 f5=>?_;rw[List.append_assoc] at s5;have f5':Fm (TL tr (A++M1++d::(M.drop (i+1)++B))) H4 H5:=f5.aE λy q=>by subst q;exact .inr (by simp)
    have ecur:A++M1++d::(M.drop (i+1)++B)=A++(M1++(M.drop i++B)):=by refine wr hd ?_;simp
    have f25:Fm (TL tr (A++(M1++(M.drop i++B)))) H2 H5:=by refine wr (ecur.symm) ?_;exact(f24.aE λu_ q=>q.elim).trans f5'
    exact⟨_,_,M1++[(d.1,d.2.1,.ref nn)],a,_,_,r2,bs,rfl,x.step he e12 c1 c2 s5 hids f25 (Cs.rep (p4.tl s4 f5')) gq λy=>rfl⟩
   .dsimp only[cond,Bool.not];refine⟨_,_,M1++[(d.1,d.2.1,d.2.2)],a,_,_,r2,bs,rfl,x.step he e12 c1 c2 ?_ hids (f3.aE λu_ q=>q.elim) (c1'.up sq'.wf f3) gp' λy=>qz gq.nd hs y⟩;have:=sq'.fm f3 λu_ u_ q=>q;rw[List.append_assoc] at this;exact this
 .rintro ρ H2 ⟨c,o,M1,a,qs,m1,m2,bs,rfl,x⟩
  have hl:((0,refs M):Nat×List V).2.length=M.length:=by unfold refs;simp
  rw[hl] at x;have sq:=x.sq;have cm:=x.cm;have keys:=x.keys;have sum:=x.sum;have eps:=x.ps;rw[List.drop_length] at sq cm keys;rw[List.take_length] at sum;have hm2:m2=[]:=by induction m2 with|nil=>rfl|cons=>exact cm.elim
  subst hm2;have la:=x.ca.len;have la':=fX (l:=A) λy hy=>h.sq.pos y (by simp[hy]);have lq:=x.cq.len;have lq':=fX (l:=M1) λy hy=>sq.pos y (by simp[hy]);have len:=x.len;have n1:(aI A).toNat=a.length:=JL (by lia);have n2:(aI M).toNat=qs.length:=JL (by lia);have n3:(aI A+aI M).toNat=(a++m1).length:=by refine wr List.length_append (JL ?_);lia
  refine K H2 c o (A++(M1++B)) (a++(qs++bs)) ⟨x.ob,by simpa using sq,?_⟩ ?_ ?_ (by simpa using keys) x.fm
  .refine wr bP (wr bP ?_);exact x.ca.app (x.cq.app x.cb)
  .refine wr n1 (wr n2 (wr n3 (wr eps ?_)));have e1:(a++(m1++([]++bs))).take a.length=a:=List.take_left;have e2:(a++(m1++([]++bs))).drop (a++m1).length=bs:=by
    have:a++(m1++([]++bs))=(a++m1)++bs:=by simp
    exact wr this (wr List.drop_left rfl)
   refine wr e1 (wr e2 ?_);refine bx.app .refl (bx.app ?_ .refl);exact bx.Ii λp hp=>(x.all p hp).2
  .intro p hp
   rcases List.mem_append.mp hp with hp|hp
   .exact g p (by refine wr eps ?_;simp[hp])
   .rcases List.mem_append.mp hp with hp|hp
    .exact(x.all p hp).1
    .exact g p (by refine wr eps ?_;simp[hp])
end
end Mi
namespace Mi
open PySem
section
variable {H H':AH}{S:Nat->Prop}{k:Nat}{Q:KV}{QU:Unit->AH->Prop}{D:List Int}{tr pr:Nat}{L A B M:List E3}{ps:List aO}{e:E3}
theorem lE {tab:Tab}{d:Def}{n j:Nat}{p:List Nat}{it:V}{Q:Fl×ao->AH->Prop}{ρ:ao}(hp:Bq (pick d.body p)=true) (hs:aF it H=some ((j,[]),H)) (K:Q (.next,ρ) H):ok (d9 tab d n p it (j,[]) ρ) Q H:=
 dJ (I:=λu_ ρ' H'=>ρ'=ρ/\H'=H) ⟨rfl,rfl⟩ (λu_ h=>(nomatch h)) (λu_ u_ u_ h=>h.2▸hs) hp (λu_ u_ u_ u_ h=>(by simp at h)) λu_ u_ h=>h.1▸h.2▸K
theorem Gn {tab:Tab}{d:Def}{n j:Nat}{p:List Nat}{it x:V}{Q:Fl×ao->AH->Prop}{ρ:ao}(hp:Bq (pick d.body p)=true) (hs:aF it H=some ((j,[x]),H)) (hx:rg x=true)
  (h:fC tab d n p ρ x (λf ρ' H'=>eA f (aF it H'=some ((j,[x]),H')/\Q (.next,ρ') H') (λv=>Q (.ret v,ρ') H')) H):ok (d9 tab d n p it (j,[x]) ρ) Q H:=by
 refine dJ (I:=λi ρ' H'=>if i=0 then ρ'=ρ/\H'=H else aF it H'=some ((j,[x]),H')/\Q (.next,ρ') H') ⟨rfl,rfl⟩ (λv hv=>by simp at hv;refine wr hv ?_;exact hx) (λi ρ' H' h=>?_) hp (λi ρ' H' y hy h'=>?_) λρ' H' h=>?_
 .by_cases q:i=0
  .rw[if_pos q] at h;refine wr h.2 ?_;exact hs
  .rw[if_neg q] at h;exact h.1
 .rcases i with _|i
  .have hy:some x=some y:=hy;obtain rfl:=Option.some.inj hy;obtain⟨rfl,rfl⟩:=h';exact h
  .simp at hy
 .exact h.2
theorem k9 {b e nq:Nat}{q:aO}(h:Tp H pr tr L ps) (g:∀p∈ps,Good p) (gq:Good q) (hq:PL H nq q) (hbe:b<e) (he:e<=ps.length) (hb:L.length+6<=1000)
  (K:∀H' c L' ps',Tp H' pr tr L' ps'->bx (ps.take b++(List.replicate (e-b) q++ps.drop e)) ps'->(∀p∈ps',Good p)->L'.length<=L.length+2->(∀i∈L'.map (·.1),i∈L.map (·.1)\/H.nx<=i)->Fm (TL tr L) H H'->Q (.bool c) H'):
  ok (ae (aa (k+8)) "set_properties" [.ref pr,.int b,.int e,.ref nq]) Q H:=by
 refine P.mM<|qH (k:=k) h hbe he hb λH1 A M B n h1 sA sM hn nn len ids f1=>cz (aD hn) ?_
 have l1:(A++(M++B)).length+2<=1000:=by lia
 refine DY (k:=k+3) h1 g gq (hq.tl h.sq f1) hn λH2 c o L2 p2 h2 s2 g2 k2 f2=>P.lx ?_;have len2:L2.length=(A++(M++B)).length:=by have:=congrArg List.length k2;simpa using this
 have f12:Fm (TL tr L) H H2:=f1.tl f2 ids;refine tn (k:=k) h2 g2 (by lia) λH3 L3 p3 h3 j3 f3=>?_;have e1:(aI A).toNat=b:=JL (by assumption);have e2:(aI M).toNat=e-b:=JL (by lia);have e3:(aI A+aI M).toNat=e:=JL (by lia);rw[e1,e2,e3] at s2;refine K H3 c L3 p3 h3 (s2.trans j3.same) j3.good (by have:=j3.len;lia) (λi hi=>ids i (by refine wr (k2.symm) ?_;exact j3.ids i hi)) (f12.tl f3 λi hi=>ids i (by refine wr (k2.symm) ?_;exact hi))
theorem xP {b e nq nt nr:Nat}{q:aO}(h:Tp H pr tr L ps) (g:∀p∈ps,Good p) (gq:Good q) (hq:PL H nq q) (hbe:b<e) (he:e<=ps.length) (hb:L.length+6<=1000)
  (hr:H.at_ nr=some (.list [.ref nt])) (ht:H.at_ nt=some (.tup [.int b,.int e,.ref nq]))
  (K:∀H' c L' ps',Tp H' pr tr L' ps'->bx (ps.take b++(List.replicate (e-b) q++ps.drop e)) ps'->(∀p∈ps',Good p)->L'.length<=L.length+2->(∀i∈L'.map (·.1),i∈L.map (·.1)\/H.nx<=i)->Fm (TL tr L) H H'->Q (.bool c) H'):
  ok (bB (aa (k+11)) "TextProps" "put_rows" [.ref pr,.ref nr]) Q H:=by
 refine P.js<|P.i0 (P.zM ?_)
 refine cz (aD hr)<|Gn (by kernel_rfl) (aD hr) rfl<|P.xQ<|⟨_,_,_,_,rfl,ht,?_⟩
 refine k9 (k:=k+1) h g gq hq hbe he hb λH1 c L1 p1 h1 s1 g1 l1 i1 f1=>?_;have hr1:H1.at_ nr=some (.list [.ref nt]):=f1.at_ h.sq.wf hr λq=>(du h.sq q).1 _ hr;have fin_:∀{c':Bool} {x1 x2 x3:Option V},aF (.ref nr) H1=some ((0,[.ref nt]),H1)/\eA Fl.next (bU (aa (k+9)) (fD "put_rows") 7 [2] [("props",some (.ref pr)),("rows",some (.ref nr)),("changed",some (.bool c')),("begin",x1),("end",x2),("plist",x3)] (fin Q) H1) (λv=>(fin Q) (Fl.ret v) [] H1):=λ{c' x1 x2 x3}=>
  ⟨aD hr1,by
   refine P.xS<|K H1 c' L1 p1 h1 s1 g1 l1 i1 f1⟩
 refine aj ?_
 induction c with
 |true=>exact fin_
 |false=>exact fin_
end
end Mi
namespace Mi
open PySem
noncomputable abbrev Rows (H:AH):List V->List (Nat×aO)->Prop:=aS λv r=>∃m n,v=.ref m/\H.at_ m=some (.tup [.int r.1,.ref n])/\PL H n r.2
noncomputable def flat (rs:List (Nat×aO)):List aO:=rs.flatMap λr=>List.replicate r.1 r.2
section
variable {H H':AH}{S:Nat->Prop}{k:Nat}{Q:KV}{QU:Unit->AH->Prop}{D:List Int}{tr pr:Nat}{L A B M:List E3}{ps:List aO}{e:E3}
theorem Rows.up (w:Wf H) (f:Up H H') {vs:List V}{rs:List (Nat×aO)}(x:Rows H vs rs):Rows H' vs rs:=aS.mono (λu_ u_ q=>q.imp λu_ q=>q.imp λu_ q=>⟨q.1,f.at_ w q.2.1 λq=>q,q.2.2.up w f⟩) x
theorem Rows.len {vs:List V}{rs:List (Nat×aO)}(x:Rows H vs rs):vs.length=rs.length:=aS.len x
theorem Rows.get {vs:List V}{rs:List (Nat×aO)}(x:Rows H vs rs) {i:Nat}{v:V}(e:vs[i]? =some v):∃r m n,rs[i]? =some r/\v=.ref m/\H.at_ m=some (.tup [.int r.1,.ref n])/\PL H n r.2:=AW (aS.got x e) λr h m n e1 e2 e3=>⟨r,m,n,h,e1,e2,e3⟩
theorem Rows.app {vs us:List V}{rs ss:List (Nat×aO)}(x:Rows H vs rs) (y:Rows H us ss):Rows H (vs++us) (rs++ss):=aS.app x y
theorem CG {H:AH}{Q:KV}(w:Wf H) (K:∀H' pr tr,Tp H' pr tr [] []->Up H H'->H.nx<=pr->H.nx<=tr->Q (.ref pr) H'):ok (ae (aa (k+2)) "TextProps" [.int 0]) Q H:=by
 refine P.zb (dO (P.oa ?_));have f1:Up H (H.add (.inst "TextProps" [])):=.add w;have g1:(H.add (.inst "TextProps" [])).at_ H.nx=some (.inst "TextProps" []):=wr bq (wr (if_pos rfl) rfl);generalize H.add (.inst "TextProps" [])=H1 at f1 g1;refine jC f1.wf λH2 n f2 u_=>?_;have f12:=f1.trans f2;have g2:=f2.at_ f1.wf g1 λq=>q;refine P.rX (dO (P.jS ?_));refine bN ?_;refine aJ (decide_eq_false (by decide)) ?_;have f3:Up H2 (H2.add (.inst "IntervalTree" [])):=.add f2.wf;have g3:(H2.add (.inst "IntervalTree" [])).at_ H2.nx=some (.inst "IntervalTree" []):=wr bq (wr (if_pos rfl) rfl);have g3':=f3.at_ f2.wf g2 λq=>q;generalize H2.add (.inst "IntervalTree" [])=H3 at f3 g3 g3';refine eP g3 (by kernel_rfl) (by kernel_rfl)<|⟨rfl,?_⟩
 have ne:H.nx≠H2.nx:=by have:=f2.wf.lt g2;exact Nat.ne_of_lt (by assumption)
 have nx2:=f12.nx;have f4:Fm (λm=>m=H2.nx) H3 (H3.put H2.nx (.inst "IntervalTree" (dM [] "root" .none))):=.put f3.wf g3 rfl;have g4:(H3.put H2.nx (.inst "IntervalTree" (dM [] "root" .none))).at_ H2.nx=some (zp .none):=by refine wr aK (wr (if_pos rfl) ?_);exact congrArg some (by kernel_rfl)
 have g4':=f4.at_ f3.wf g3' ne;generalize H3.put H2.nx (.inst "IntervalTree" (dM [] "root" .none))=H4 at f4 g4 g4';refine eP g4' (by kernel_rfl) (by kernel_rfl)<|⟨rfl,?_⟩
 have f5:Fm (λm=>m=H.nx) H4 (H4.put H.nx (.inst "TextProps" (dM [] "tree" (.ref H2.nx)))):=.put f4.wf g4' rfl;have g5:(H4.put H.nx (.inst "TextProps" (dM [] "tree" (.ref H2.nx)))).at_ H.nx=some (vx H2.nx):=by refine wr aK (wr (if_pos rfl) ?_);exact congrArg some (by kernel_rfl)
 have g5':=f5.at_ f4.wf g4 (λq=>ne q.symm);refine K _ H.nx H2.nx ⟨g5,⟨.nil,⟨f5.wf,g5',trivial,trivial,λx=>by show 0+0<=1;exact Nat.zero_le _⟩,trivial,rfl⟩,trivial⟩ ?_ (Nat.le_refl _) nx2;exact((f12.trans f3).bG f4 λm hm q=>by subst q;lia).bG f5 λm hm q=>by subst q;exact Nat.lt_irrefl _ (by assumption)
def IP (H:AH) (pr tr nr:Nat) (rs:List (Nat×aO)) (i:Nat) (ρ:ao) (H2:AH):Prop:=∃L ps o1 o2,ρ=([("rows",some (.ref nr)),("found",some (.ref pr)),("at",some (.int (ps.length:Nat))),("many",o1),("plist",o2)]:ao)/\Tp H2 pr tr L ps/\bx (flat (rs.take i)) ps/\(∀p∈ps,Good p)/\L.length<=2*i/\i<=rs.length/\(∀j∈L.map (·.1),H.nx<=j)/\Up H H2
theorem mO {nr:Nat}{vs:List V}{rs:List (Nat×aO)}(w:Wf H) (hr:H.at_ nr=some (.list vs)) (h:Rows H vs rs) (hp:∀r∈rs,0<r.1/\Good r.2) (hb:rs.length<=100)
  (K:∀H' pr tr L ps,Tp H' pr tr L ps->bx (flat rs) ps->(∀p∈ps,Good p)->L.length<=2*rs.length->Up H H'->Q (.ref pr) H'):ok (ae (aa (k+8)) "props_of_rows" [.ref nr]) Q H:=by
 refine P.oZ<|CG (k:=k+5) w λH1 pr tr h1 f1 np nt=>?_
 have hr1:=f1.at_ w hr λq=>q;refine cz (aD hr1) ?_;have hlen:=h.len;refine dJ (I:=IP H pr tr nr rs) ?_ ?_ ?_ (by kernel_rfl) ?_ ?_
 .exact⟨[],[],_,_,rfl,h1,trivial,λu_ h=>(nomatch h),Nat.le_refl _,Nat.zero_le _,λu_ h=>(nomatch h),f1⟩
 .intro u hu;obtain⟨j,hj,rfl⟩:=List.mem_iff_getElem.mp hu;refine eK (h.get (List.getElem?_eq_getElem hj)) λr m n u_ e u_=>?_;refine wr e ?_;rfl
 .rintro i ρ H2 ⟨L,ps,o1,o2,-,-,-,-,-,-,-,f⟩
  exact aD (f.at_ w hr λq=>q)
 .rintro i ρ H2 u hu ⟨L,ps,o1,o2,rfl,t2,s2,g2,l2,hi,id2,f2⟩
  refine P.mP<|eg ((h.up w f2).get hu) λr m n er eu hm hn=>?_
  subst eu;refine eL hm<|cK t2<|xA (hp r (List.mem_of_getElem? er)) λp1 p2=>ub (k:=k) t2 g2 hn p2 (Nat.le_refl _) p1 (by lia) λH3 L3 ps3 t3 i3 f3=>?_
  have up:∀{L':List E3} {Ha Hb:AH},Fm (TL tr L') Ha Hb->(∀j∈L'.map (·.1),H.nx<=j)->Up H Ha->Up H Hb:=λ{L' Ha Hb} f hj u=>u.bG f λm hm q=>by
   rcases q with q|q
   .lia
   .have:=hj m q;lia
  have id3:∀j∈L3.map (·.1),H.nx<=j:=λj hj=>by
   have:=f2.nx
   rcases i3.ids j hj with q|q
   .exact id2 j q
   .exact Nat.le_trans (by assumption) (by assumption)
  have u3:=up f3 id2 f2;have l3:=i3.len;refine gj (k:=k+1) t3 i3.good (by lia) λH4 L4 ps4 t4 j4 f4=>?_;have l4:=j4.len;have slen:=(i3.same.trans j4.same).len;refine aC ?_;have e1:((ps.length:Nat):Int)+(r.1:Nat)=((ps4.length:Nat):Int):=by
   have:ps4.length=ps.length+r.1:=by refine wr (slen.symm) ?_;simp
   lia
  refine wr e1 ?_;have et:rs.take (i+1)=rs.take i++[r]:=by refine wr List.take_add_one (wr er ?_);rfl
  refine⟨L4,ps4,_,_,rfl,t4,?_,j4.good,by lia,?_,λj hj=>id3 j (j4.ids j hj),up f4 id3 u3⟩
  .have e2:flat (rs.take (i+1))=flat (rs.take i)++List.replicate r.1 r.2:=by refine wr et ?_;simp[flat]
   refine wr e2<|bx.trans ?_ (i3.same.trans j4.same)
   refine wr List.take_length (wr List.drop_length (wr (List.append_nil _) ?_));exact s2.app .refl
  .have:=(List.getElem?_eq_some_iff.mp er).1;assumption
 .rintro ρ H2 ⟨L,ps,o1,o2,rfl,t2,s2,g2,l2,hi,id2,f2⟩
  refine P.mS ?_;have e1:((0,vs):Nat×List V).2.length=rs.length:=hlen;rw[e1] at s2 l2;rw[List.take_length] at s2;exact K H2 pr tr L ps t2 s2 g2 l2 f2
end
end Mi
namespace Mi
open PySem
section
variable {H H':AH}{S:Nat->Prop}{k:Nat}{Q:KV}{QU:Unit->AH->Prop}{l ks:List V}{n m i j:Nat}
theorem Jr:cut l i j=(l.take j).drop i:=rfl
theorem fR {lo hi:Option Int}{a b:Nat}(h:H.at_ n=some (.list l)) (hb:bounds lo hi l.length=some (a,b)) (hl:l.length<=1000) (K:Q (.ref H.nx) (H.add (.list ((l.take b).drop a)))):ok (bH (.ref n) lo hi) Q H:=by
 unfold bH;refine ah (dK h ?_);dsimp only;refine wr hb ?_;refine aB (bp (by refine wr Jr (wr List.length_drop (wr List.length_take ?_));exact Nat.le_trans (Nat.sub_le _ _) (Nat.le_trans (Nat.min_le_right _ _) (by assumption)))) ?_;exact K
theorem fY {N:Nat}(hi:i<=N) (hj:j<=N):bounds (some (i:Int)) (some (j:Int)) N=some (i,j):=by
 unfold bounds;refine wr (if_pos ⟨by show(0:Int)<=i;exact Int.natCast_nonneg _,by show(0:Int)<=j;exact Int.natCast_nonneg _⟩) ?_;show some (min (Int.toNat i) N,min (Int.toNat j) N)=_;exact wr (Int.toNat_natCast _) (wr (Int.toNat_natCast _) (wr (Nat.min_eq_left hi) (wr (Nat.min_eq_left hj) rfl)))
theorem yY {N:Nat}(hj:j<=N):bounds none (some (j:Int)) N=some (0,j):=by
 unfold bounds;refine wr (if_pos ⟨by show(0:Int)<=0;exact Int.natCast_nonneg _,by show(0:Int)<=j;exact Int.natCast_nonneg _⟩) ?_;show some (min (Int.toNat 0) N,min (Int.toNat j) N)=_;refine wr (Int.toNat_natCast _) (wr (Nat.min_eq_left hj) ?_);simp
theorem yZ {N:Nat}(hi:i<=N):bounds (some (i:Int)) none N=some (i,N):=by
 unfold bounds;refine wr (if_pos ⟨by show(0:Int)<=i;exact Int.natCast_nonneg _,by show(0:Int)<=0;exact Int.natCast_nonneg _⟩) ?_;show some (min (Int.toNat i) N,min N N)=_;refine wr (Int.toNat_natCast _) (wr (Nat.min_eq_left hi) ?_);simp
theorem yd (h:H.at_ n=some (.list l)) (h':H.at_ m=some (.list ks)) (hi:i<=j) (hj:j<=l.length) (ne:n≠m) (hl:(l.take i++ks++l.drop j).length<=1000) (K:QU () (H.put n (.list (l.take i++ks++l.drop j)))):
  ok (cM (.ref n) (some (i:Int)) (some (j:Int)) (.ref m)) QU H:=by
 unfold cM;refine ah (dK h (ah (dK h' ?_)));dsimp only;refine wr (fY (by exact Nat.le_trans (by assumption) (by assumption)) hj) ?_;dsimp only;refine wr (if_pos ⟨hi,by rw[nU ne];decide⟩) (wr (vK (bp hl)) ?_);exact K
theorem jB {a b:Nat}{x y:List V}(h:H.at_ a=some (.list x)) (h':H.at_ b=some (.list y)) (hl:(x++y).length<=1000) (K:Q (.ref H.nx) (H.add (.list (x++y)))):ok (dI .Add (.ref a) (.ref b)) Q H:=by
 unfold dI;refine ah (dK h (ah (dK h' ?_)));refine aB (bp hl) ?_;exact K
theorem lC:∀{x:List V} {n:Nat},(rep x n).length=x.length*n
 |_,0=>by simp[rep]
 |x,n+1=>by show(x++rep x n).length=_;exact wr List.length_append (wr lC (wr (Nat.mul_succ _ _) (wr (Nat.add_comm _ _) rfl)))
theorem vL {a:Nat}{x:List V}(h:H.at_ a=some (.list x)) (hn:n<=1000) (hl:x.length*n<=1000) (K:Q (.ref H.nx) (H.add (.list (rep x n)))):ok (dI .Mult (.ref a) (.int n)) Q H:=by
 show ok (if(1000:Int)<n\/(n:Int)< -1000 then ak else do match<-look a with
   |.list l=>ba (.list (rep l (n:Int).toNat))
   |_=>ak) Q H
 refine wr (if_neg (by lia))<|ah (dK h ?_)
 refine wr (Int.toNat_natCast _) ?_;refine aB (bp (by refine wr lC ?_;exact hl)) ?_;exact K
theorem fresh_ne {o:O}(w:Wf H) (h:H.at_ n=some o):n≠H.nx:=Nat.ne_of_lt (w.lt h)
theorem ar {o:O}:(H.add o).at_ H.nx=some o:=wr bq (wr (if_pos rfl) rfl)
theorem cL {o:O}:(H.put n o).at_ n=some o:=wr aK (wr (if_pos rfl) rfl)
end
noncomputable def C5 (c gs ge:Nat):O:=.inst "GapText" [("room",.int 8),("cells",.ref c),("gap_start",.int gs),("gap_end",.int ge)]
structure oQ (H:AH) (g c:Nat) (a m b:List V):Prop where
 ob:H.at_ g=some (C5 c a.length (a.length+m.length))
 li:H.at_ c=some (.list (a++(m++b)))
 bd:a.length+m.length+b.length<=900
 it:∀v∈a++(m++b),∃j,v=V.int j
 Kh:a++(m++b)≠[]
def GS (g c:Nat) (m:Nat):Prop:=m=g\/m=c
section
variable {H H':AH}{S:Nat->Prop}{k:Nat}{Q:KV}{QU:Unit->AH->Prop}{g c n:Nat}{a m b cs:List V}
theorem oQ.up (w:Wf H) (f:Fm S H H') (x:oQ H g c a m b) (h1:¬S g) (h2:¬S c):oQ H' g c a m b:=⟨f.at_ w x.ob h1,f.at_ w x.li h2,x.bd,x.it,x.Kh⟩
theorem hY (x:oQ H g c a m b) (k_:Q (.ref c) H):ok (aV (.ref g) "cells") Q H:=Eq.mpr (aW x.ob (by kernel_rfl) (by kernel_rfl)) k_
theorem rD (x:oQ H g c a m b) (k_:Q (.int (a.length:Nat)) H):ok (aV (.ref g) "gap_start") Q H:=Eq.mpr (aW x.ob (by kernel_rfl) (by kernel_rfl)) k_
theorem Ax (x:oQ H g c a m b) (k_:Q (.int ((a.length+m.length:Nat):Int)) H):ok (aV (.ref g) "gap_end") Q H:=Eq.mpr (aW x.ob (by kernel_rfl) (by kernel_rfl)) k_
theorem jj {f:Str}{tab:Tab}{A:(List V->AH->Prop)->AH->Prop}(x:oQ H g c a m b) (hf:([("room",V.none),("cells",.none),("gap_start",.none),("gap_end",.none)]:List (Str×V)).lookup f=none)
  (h:A (λvs H=>ok (bB tab "GapText" f (.ref g::vs)) Q H) H):aA tab (.ref g) f A Q H:=bJ x.ob (fH (by rfl) hf) h
theorem yO (x:oQ H g c a m b) (K:Q (.int ((a++b).length:Nat)) H):ok (bB (aa (k+1)) "GapText" "size" [.ref g]) Q H:=by
 refine P.rZ<|hY x (aZ x.li (Ax x (aT (rD x (aC ?_)))))
 have:(((a++(m++b)).length:Nat):Int)-((a.length+m.length:Nat):Int)+(a.length:Nat)=((a++b).length:Nat):=by simp;lia
 refine wr this ?_;exact K
theorem wC {e:Nat}(w:Wf H) (x:oQ H g c a m b) (he:e=(a++b).length) (K:∀H' r,H'.at_ r=some (.list (a++b))->H.nx<=r->Up H H'->Q (.ref r) H'):ok (bB (aa (k+1)) "GapText" "codes" [.ref g,.int 0,.int e]) Q H:=by
 refine P.pF ?_;have bd:=x.bd;have ll:(a++(m++b)).length=a.length+m.length+b.length:=by simp;lia
 have le:e=a.length+b.length:=by refine wr he ?_;simp
 refine Ax x (rD x (aT (rD x (kn ?_))));have f1:∀l,Up H (H.add (.list l)):=λl=>.add w
 by_cases q1:(e:Int)<=(a.length:Nat)
 .refine aM (decide_eq_true q1) ?_;have hb:b=[]:=List.eq_nil_of_length_eq_zero (by lia);subst hb;refine hY x (aP (aP ?_));refine fR x.li (fY (i:=0) (j:=e) (by exact Nat.zero_le _) (by lia)) (by exact Nat.le_trans (Nat.le_of_eq (by assumption)) (Nat.le_trans (by assumption) (by decide)))<|K _ _ ?_ (Nat.le_refl _) (f1 _)
  refine wr ar (wr List.drop_zero (wr (show e=a.length by simp at le;exact le) (wr List.take_left ?_)));simp
 .refine aJ (decide_eq_false q1)<|rD x (q8 ?_)
  have s1:((a.length+m.length:Nat):Int)-(a.length:Nat)=(m.length:Nat):=by lia
  refine wr s1 ?_
  by_cases q2:(0:Int)>=(a.length:Nat)
  .refine aM (decide_eq_true q2) ?_;have ha:a=[]:=List.eq_nil_of_length_eq_zero (by lia);subst ha;refine hY x (aC (aP (aC (aP ?_))));have e1:(0:Int)+(m.length:Nat)=(m.length:Nat):=by assumption
   have e2:(e:Int)+(m.length:Nat)=((m++b).length:Nat):=by simp at le⊢;lia
   refine wr e1 (wr e2 ?_);refine fR x.li (fY (i:=m.length) (j:=(m++b).length) (by simp) (by simp)) (by exact Nat.le_trans (Nat.le_of_eq (by assumption)) (Nat.le_trans (by assumption) (by decide)))<|K _ _ ?_ (Nat.le_refl _) (f1 _)
   refine wr ar ?_;show some (O.list (((m++b).take (m++b).length).drop m.length))=_;refine wr List.take_length (wr List.drop_left ?_);rfl
  .refine aJ (decide_eq_false q2)<|hY x (aP (rD x (aP ?_)))
   refine fR x.li (fY (i:=0) (j:=a.length) (by exact Nat.zero_le _) (by lia)) (by exact Nat.le_trans (Nat.le_of_eq (by assumption)) (Nat.le_trans (by assumption) (by decide)))<|wr List.drop_zero (wr List.take_left ?_)
   have g1:(H.add (.list a)).at_ H.nx=some (.list a):=ar;have u1:=f1 a;have x1:oQ (H.add (.list a)) g c a m b:=x.up w u1 (λq=>q) λq=>q;generalize hn:H.nx=nn at g1;have nx1:nn<(H.add (.list a)).nx:=by refine wr (hn.symm) ?_;exact Nat.lt_succ_self _
   generalize H.add (.list a)=H1 at u1 x1 g1 nx1;refine hY x1 (Ax x1 (aP (aC (aP ?_))));have e2:(e:Int)+(m.length:Nat)=((a++(m++b)).length:Nat):=by refine wr ll (wr le ?_);lia
   refine wr e2<|fR x1.li (fY (i:=a.length+m.length) (by lia) (by exact Nat.le_refl _)) (by exact Nat.le_trans (Nat.le_of_eq (by assumption)) (Nat.le_trans (by assumption) (by decide)))<|wr List.take_length ?_
   have e3:(a++(m++b)).drop (a.length+m.length)=b:=wr ((List.append_assoc _ _ _).symm) (wr (List.drop_left' (by simp)) rfl);refine wr e3 ?_;have u2:Up H1 (H1.add (.list b)):=.add u1.wf;refine jB (u2.at_ u1.wf g1 λq=>q) ar (by simp;lia) ?_;have u3:Up (H1.add (.list b)) ((H1.add (.list b)).add (.list (a++b))):=.add u2.wf;refine K _ _ ar ?_ ((u1.trans u2).trans u3);show H.nx<=H1.nx+1;lia
end
end Mi
namespace Mi
open PySem
section
variable {H H':AH}{S:Nat->Prop}{k:Nat}{Q:KV}{QU:Unit->AH->Prop}{g c n:Nat}{a m b cs:List V}
structure Gp (H:AH) (g c gs ge:Nat) (l:List V):Prop where
 ob:H.at_ g=some (C5 c gs ge)
 li:H.at_ c=some (.list l)
 wf:Wf H
section
variable {gs ge i j:Nat}{l ks:List V}
theorem oQ.gp (x:oQ H g c a m b) (w:Wf H):Gp H g c a.length (a.length+m.length) (a++(m++b)):=⟨x.ob,x.li,w⟩
theorem Gp.ne (x:Gp H g c gs ge l):g≠c:=λe=>by have:=x.ob;rw[e,x.li] at this;exact nO this rfl
theorem Gp.gap (x:Gp H g c gs ge (a++(m++b))) (e1:gs=a.length) (e2:ge=a.length+m.length) (bd:a.length+m.length+b.length<=900) (it:∀v∈a++(m++b),∃j,v=V.int j) (ne:0<a.length+(m.length+b.length)):oQ H g c a m b:=
 ⟨by refine wr (e2.symm) (wr (e1.symm) ?_);exact x.ob,x.li,bd,it,λq=>by
  have:=congrArg List.length q;rw[List.length_append,List.length_append] at this;exact Nat.ne_of_gt ne this⟩
theorem Gp.up (x:Gp H g c gs ge l) (f:Up H H'):Gp H' g c gs ge l:=⟨f.at_ x.wf x.ob λq=>q,f.at_ x.wf x.li λq=>q,f.wf⟩
theorem Gp.cells (x:Gp H g c gs ge l) (k_:Q (.ref c) H):ok (aV (.ref g) "cells") Q H:=(aW x.ob (by kernel_rfl) (by kernel_rfl)).mpr k_
theorem Gp.lo (x:Gp H g c gs ge l) (k_:Q (.int (gs:Nat)) H):ok (aV (.ref g) "gap_start") Q H:=(aW x.ob (by kernel_rfl) (by kernel_rfl)).mpr k_
theorem Gp.hi (x:Gp H g c gs ge l) (k_:Q (.int (ge:Nat)) H):ok (aV (.ref g) "gap_end") Q H:=(aW x.ob (by kernel_rfl) (by kernel_rfl)).mpr k_
theorem Gp.room (x:Gp H g c gs ge l) (k_:Q (.int 8) H):ok (aV (.ref g) "room") Q H:=(aW x.ob (by kernel_rfl) (by kernel_rfl)).mpr k_
theorem Gp.D0 {i:Int}(x:Gp H g c gs ge l) (hi:i=(n:Nat)) (K:∀H',Gp H' g c gs n l->Fm (GS g c) H H'->QU () H'):ok (bZ (.ref g) "gap_end" (.int i)) QU H:=by
 have f:Fm (GS g c) H (H.put g (C5 c gs n)):=.put x.wf x.ob (.inl rfl);refine wr hi ?_;exact((dh x.ob (by kernel_rfl) (by kernel_rfl)).trans (by kernel_rfl)).mpr (K _ ⟨cL,by refine wr aK (wr (if_neg x.ne.symm) ?_);exact x.li,f.wf⟩ f)
theorem Gp.DZ {i:Int}(x:Gp H g c gs ge l) (hi:i=(n:Nat)) (K:∀H',Gp H' g c n ge l->Fm (GS g c) H H'->QU () H'):ok (bZ (.ref g) "gap_start" (.int i)) QU H:=by
 have f:Fm (GS g c) H (H.put g (C5 c n ge)):=.put x.wf x.ob (.inl rfl);refine wr hi ?_;exact((dh x.ob (by kernel_rfl) (by kernel_rfl)).trans (by kernel_rfl)).mpr (K _ ⟨cL,by refine wr aK (wr (if_neg x.ne.symm) ?_);exact x.li,f.wf⟩ f)
theorem Gp.sl {p y q:List V}(x:Gp H g c gs ge (p++(y++q))) (h:H.at_ n=some (.list ks)) (hcn:c≠n) {i j:Int}(hi:i=(p.length:Nat)) (hj:j=((p.length+y.length:Nat):Int)) (hl:p.length+(ks.length+q.length)<=1000) (K:∀H',Gp H' g c gs ge (p++(ks++q))->Fm (GS g c) H H'->H'.at_ n=some (.list ks)->QU () H'):
  ok (cM (.ref c) (some i) (some j) (.ref n)) QU H:=by
 have el:(p++(y++q)).take p.length++ks++(p++(y++q)).drop (p.length+y.length)=p++(ks++q):=wr List.take_left (wr (List.drop_length_add_append _) (wr List.drop_left (wr (List.append_assoc _ _ _) rfl)));have f:Fm (GS g c) H (H.put c (.list (p++(ks++q)))):=.put x.wf x.li (.inr rfl);subst hi;subst hj;refine yd x.li h (Nat.le_add_right _ _) (by refine wr List.length_append (wr List.length_append ?_);exact Nat.add_le_add_left (Nat.le_add_right _ _) _) hcn (by refine wr el (wr List.length_append (wr List.length_append ?_));exact hl) ?_;refine wr el ?_;exact K _ ⟨by refine wr aK (wr (if_neg x.ne) ?_);exact x.ob,cL,f.wf⟩ f (by refine wr aK (wr (if_neg hcn.symm) ?_);exact h)
theorem Gp.cut {p y q:List V}(x:Gp H g c gs ge (p++(y++q))) {i j:Int}(hi:i=(p.length:Nat)) (hj:j=((p.length+y.length:Nat):Int)) (hl:(p++(y++q)).length<=1000) (K:∀H' n,Gp H' g c gs ge (p++(y++q))->Up H H'->H'.at_ n=some (.list y)->c≠n->Q (.ref n) H'):
  ok (bH (.ref c) (some i) (some j)) Q H:=by
 subst hi;subst hj;refine fR x.li (fY (by refine wr List.length_append ?_;exact Nat.le_add_right _ _) (by refine wr List.length_append (wr List.length_append ?_);exact Nat.add_le_add_left (Nat.le_add_right _ _) _)) hl ?_;refine wr (List.take_length_add_append _) (wr List.take_left (wr List.drop_left ?_));have u:Up H (H.add (.list y)):=.add x.wf;exact K _ _ (x.up u) u ar (fresh_ne x.wf x.li)
end
theorem rep0 {n:Nat}:rep [V.int 0] n=List.replicate n (.int 0):=by
 induction n with
 |zero=>rfl
 |succ n ih=>exact congrArg (V.int 0::·) ih
theorem DC {wanted:Nat}(w:Wf H) (x:oQ H g c a m b) (hb:a.length+m.length+b.length+wanted+8<=900)
  (K:∀H' m',oQ H' g c a m' b->wanted<=m'.length->m'.length<=m.length+wanted+8->Fm (GS g c) H H'->Q .none H'):ok (bB (aa (k+1)) "GapText" "widen_gap" [.ref g,.int wanted]) Q H:=by
 refine P.jT ?_;have x0:=x.gp w;refine x0.hi (x0.lo (aT (aT (bN ?_))));have e0:(wanted:Int)-(((a.length+m.length:Nat):Int)-(a.length:Nat))=wanted-m.length:=by lia
 refine wr e0 ?_
 by_cases q:(wanted:Int)-m.length>0
 .refine aM (decide_eq_true q) ?_;obtain⟨d,rfl⟩:∃d,wanted=m.length+d:=⟨wanted-m.length,(Nat.add_sub_cancel' (Int.ofNat_le.mp (Int.le_of_lt (Int.lt_of_sub_pos q)))).symm⟩;refine aB (by rfl) ?_;have u1:Up H (H.add (.list [.int 0])):=.add w;have g1:(H.add (.list [.int 0])).at_ H.nx=some (.list [.int 0]):=ar;have x1:=x0.up u1;generalize H.nx=n1 at g1;generalize H.add (.list [.int 0])=H1 at u1 x1 g1;refine x1.room (aC ?_);have e2:((m.length+d:Nat):Int)-m.length+8=((d+8:Nat):Int):=by lia
  refine wr e2 ?_;refine vL g1 (by lia) (by simp;lia) ?_;refine wr rep0 ?_;generalize hz:List.replicate (d+8) (V.int 0)=z;have lz:z.length=d+8:=wr (hz.symm) (wr List.length_replicate rfl);have u2:Up H1 (H1.add (.list z)):=.add u1.wf;have g2:(H1.add (.list z)).at_ H1.nx=some (.list z):=ar;have x2:=x1.up u2;have ne:=fresh_ne u1.wf x1.li;generalize H1.nx=n2 at g2 ne;generalize H1.add (.list z)=H2 at u2 x2 g2;refine x2.cells (x2.hi (aP (x2.hi (aP ?_))));have e3:a++(m++b)=(a++m)++([]++b):=by simp
  rw[e3] at x2;refine x2.sl g2 ne (by exact wr List.length_append rfl) (by refine wr List.length_append ?_;rfl) (by refine wr List.length_append ?_;lia) λH3 x3 f3 u_=>?_;refine x3.hi (aC (x3.room (aC ?_)));refine x3.D0 (n:=a.length+m.length+z.length) (by lia) λH4 x4 f4=>?_;rw[show(a++m)++(z++b)=a++((m++z)++b) by simp] at x4;refine K _ (m++z) (x4.gap rfl (by exact wr List.length_append (wr (Nat.add_assoc _ _ _) rfl)) (by refine wr List.length_append ?_;lia) (λv hv=>?_) (by refine wr List.length_append ?_;lia)) (by refine wr List.length_append ?_;lia) (by refine wr List.length_append ?_;lia) ((((u1.trans u2).aE λu_ q=>q.elim).trans f3).trans f4)
  rcases List.mem_append.mp hv with hv|hv
  .exact x.it v (List.mem_append_left _ hv)
  rcases List.mem_append.mp hv with hv|hv
  .rcases List.mem_append.mp hv with hv|hv
   .exact x.it v (List.mem_append_right _ (List.mem_append_left _ hv))
   .rw[<-hz] at hv;exact⟨0,(List.mem_replicate.mp hv).2⟩
  .exact x.it v (List.mem_append_right _ (List.mem_append_right _ hv))
 .refine aJ (decide_eq_false q)<|K H m x (Int.ofNat_le.mp (Int.le_of_sub_nonpos (Int.not_lt.mp q))) (Nat.le_add_right_of_le (Nat.le_add_right _ _)) (.refl w)
theorem iW {l:List V}{n:Nat}(h:n<=l.length):∃p q,l=p++q/\p.length=n:=⟨l.take n,l.drop n,(List.take_append_drop n l).symm,List.length_take_of_le h⟩
theorem CH {p q:List V}(w:Wf H) (x:oQ H g c (p++q) m b) (hq:0<q.length)
  (K:∀H' m',oQ H' g c p m' (q++b)->m'.length=m.length->Fm (GS g c) H H'->Q .none H'):ok (bB (aa (k+1)) "GapText" "move_gap" [.ref g,.int p.length]) Q H:=by
 refine P.gE ?_;have bd:=x.bd;have x0:=x.gp w;rw[List.length_append] at bd;rw[List.length_append,List.append_assoc] at x0;refine x0.lo (cU (aM (decide_eq_true (Int.ofNat_lt.mpr (Nat.lt_add_of_pos_right hq))) ?_));refine x0.cells (aP (x0.lo (aP ?_)));refine x0.cut rfl rfl (by simp only[List.length_append];lia) λH1 n1 x1 u1 g1 ne=>?_;refine x1.cells (x1.hi (aZ g1 (aT (aP (x1.hi (aP ?_))))));have e1:((p.length+q.length+m.length:Nat):Int)-(q.length:Nat)=((p.length+m.length:Nat):Int):=by lia
 refine wr e1 ?_;obtain⟨y,z,hy,ly⟩:=iW (l:=q++m) (n:=m.length) (by refine wr List.length_append ?_;exact Nat.le_add_left _ _);have lz:q.length+m.length=y.length+z.length:=wr (List.length_append.symm) (wr (List.length_append.symm) (wr hy rfl));have e2:p++(q++(m++b))=(p++y)++(z++b):=wr (List.append_assoc _ _ _) (wr (((List.append_assoc y) _ _).symm) (wr (hy.symm) (wr (List.append_assoc _ _ _) rfl)));rw[e2] at x1;refine x1.sl g1 ne (by exact wr List.length_append (wr ly rfl)) (by exact wr List.length_append (wr ((Nat.add_assoc p.length y.length) _) (wr (lz.symm) (wr (Nat.add_assoc _ _ _) rfl)))) (by refine wr List.length_append ?_;lia) λH3 x3 f3 g3=>?_;refine x3.hi (aZ g3 (aT ?_));refine wr e1 ?_;refine x3.D0 rfl λH4 x4 f4=>x4.DZ rfl λH5 x5 f5=>?_;rw[List.append_assoc] at x5;refine K _ y (x5.gap rfl (by exact wr ly rfl) (by refine wr List.length_append (wr ly ?_);lia) (λv hv=>?_) (by refine wr List.length_append ?_;lia)) ly (((u1.aE λu_ q=>q.elim).trans f3).trans (f4.trans f5));have of:v∈q++m->∃j,v=V.int j:=λh=>(List.mem_append.mp h).elim (λh=>x.it v (List.mem_append_left _ (List.mem_append_right _ h))) λh=>x.it v (List.mem_append_right _ (List.mem_append_left _ h))
 rcases List.mem_append.mp hv with hv|hv
 .exact x.it v (List.mem_append_left _ (List.mem_append_left _ hv))
 rcases List.mem_append.mp hv with hv|hv
 .exact of (hy▸List.mem_append_left _ hv)
 rcases List.mem_append.mp hv with hv|hv
 .exact of (List.mem_append_left _ hv)
 .exact x.it v (List.mem_append_right _ (List.mem_append_right _ hv))
theorem zZ {p q:List V}(w:Wf H) (x:oQ H g c a m (p++q))
  (K:∀H' m',oQ H' g c (a++p) m' q->m'.length=m.length->Fm (GS g c) H H'->Q .none H'):ok (bB (aa (k+1)) "GapText" "move_gap" [.ref g,.int ((a.length+p.length:Nat):Int)]) Q H:=by
 refine P.gE ?_;have bd:=x.bd;have x0:=x.gp w;rw[List.length_append] at bd;rw[<-List.append_assoc] at x0;refine x0.lo (cU (aJ (decide_eq_false (Int.not_lt.mpr (Int.ofNat_le.mpr (Nat.le_add_right _ _)))) ?_));refine x0.cells (x0.hi (aP (x0.hi (aC (x0.lo (aT (aP ?_)))))));refine x0.cut (by exact wr List.length_append rfl) (by refine wr List.length_append ?_;lia) (by simp only[List.length_append];exact Nat.le_add_left_of_le (by assumption)) λH1 n1 x1 u1 g1 ne=>?_;refine x1.cells (x1.lo (aP (x1.lo (aZ g1 (aC (aP ?_))))));obtain⟨y,z,hy,ly⟩:=iW (l:=m++p) (n:=p.length) (by refine wr List.length_append ?_;exact Nat.le_add_left _ _);have lz:m.length+p.length=y.length+z.length:=wr (List.length_append.symm) (wr (List.length_append.symm) (wr hy rfl));have lz:z.length=m.length:=by lia
 have e2:(a++m)++(p++q)=a++(y++(z++q)):=wr (List.append_assoc _ _ _) (wr (((List.append_assoc m) _ _).symm) (wr hy (wr (List.append_assoc _ _ _) rfl)));rw[e2] at x1;refine x1.sl g1 ne rfl (by refine wr ly ?_;rfl) (by refine wr List.length_append ?_;lia) λH3 x3 f3 g3=>?_;refine x3.hi (aZ g3 (aC ?_));refine x3.D0 (n:=a.length+m.length+p.length) rfl λH4 x4 f4=>x4.DZ rfl λH5 x5 f5=>?_;rw[<-List.append_assoc a] at x5;refine K _ z (x5.gap (by exact wr List.length_append rfl) (by refine wr List.length_append (wr lz ?_);lia) (by refine wr List.length_append (wr lz ?_);lia) (λv hv=>?_) (by refine wr List.length_append ?_;have:=List.length_pos_iff.mpr x.Kh;simp only[List.length_append] at this;lia)) lz (((u1.aE λu_ q=>q.elim).trans f3).trans (f4.trans f5));have of:v∈m++p->∃j,v=V.int j:=λh=>(List.mem_append.mp h).elim (λh=>x.it v (List.mem_append_right _ (List.mem_append_left _ h))) λh=>x.it v (List.mem_append_right _ (List.mem_append_right _ (List.mem_append_left _ h)))
 rcases List.mem_append.mp hv with hv|hv
 .rcases List.mem_append.mp hv with hv|hv
  .exact x.it v (List.mem_append_left _ hv)
  .exact of (List.mem_append_right _ hv)
 rcases List.mem_append.mp hv with hv|hv
 .exact of (hy▸List.mem_append_right _ hv)
 .exact x.it v (List.mem_append_right _ (List.mem_append_right _ (List.mem_append_right _ hv)))
theorem ym {at_:Nat}(w:Wf H) (x:oQ H g c a m b) (ha:at_<=(a++b).length)
  (K:∀H' a' m' b',oQ H' g c a' m' b'->a'.length=at_->m'.length=m.length->a'++b'=a++b->Fm (GS g c) H H'->Q .none H'):ok (bB (aa (k+1)) "GapText" "move_gap" [.ref g,.int at_]) Q H:=by
 rcases Nat.lt_or_ge at_ a.length with q|q
 .obtain⟨p,r,rfl,rfl⟩:=iW (Nat.le_of_lt q);rw[List.length_append] at q;exact CH w x (Nat.lt_of_add_lt_add_left (n:=p.length) q) λH1 m1 x1 l1 f1=>K H1 p m1 (r++b) x1 rfl l1 (List.append_assoc p r b).symm f1
 .obtain⟨d,rfl⟩:=Nat.exists_eq_add_of_le q;rw[List.length_append] at ha;obtain⟨p,r,rfl,rfl⟩:=iW (Nat.le_of_add_le_add_left ha);exact zZ w x λH1 m1 x1 l1 f1=>K H1 (a++p) m1 r x1 List.length_append l1 (List.append_assoc a p r) f1
theorem tH {at_ nc:Nat}{cs:List V}(w:Wf H) (x:oQ H g c a m b) (ha:at_<=(a++b).length) (hc:H.at_ nc=some (.list cs)) (hcc:c≠nc) (hci:∀v∈cs,∃j,v=V.int j) (hb:a.length+m.length+b.length+cs.length+8<=900)
  (K:∀H' a' m' b',oQ H' g c a' m' b'->a'++b'=(a++b).take at_++cs++(a++b).drop at_->m'.length<=m.length+8->Fm (GS g c) H H'->Q .none H'):ok (bB (aa (k+2)) "GapText" "insert" [.ref g,.int at_,.ref nc]) Q H:=by
 refine P.oq ?_;have ncg:¬GS g c nc:=λq=>by
  rcases q with q|q
  .subst q;have:=x.ob;rw[hc] at this;exact nO this rfl
  .exact hcc q.symm
 refine jj x (by kernel_rfl)<|aZ hc<|DC (k:=k) w x hb λH1 m1 x1 w1 w2 f1=>?_
 have hc1:=f1.at_ w hc ncg;refine jj x1 (by kernel_rfl)<|ym (k:=k) f1.wf x1 ha λH2 a2 m2 b2 x2 l2 lm e2 f2=>?_
 have hc2:=f2.at_ f1.wf hc1 ncg;have lab:a2.length+b2.length=a.length+b.length:=wr (List.length_append.symm) (wr e2 (wr List.length_append rfl));obtain⟨y,z,rfl,ly⟩:=iW (l:=m2) (n:=cs.length) (lm▸w1);rw[List.length_append] at lm;subst l2;have x3:=x2.gp f2.wf;rw[List.append_assoc] at x3;refine x3.cells (aP (aZ hc2 (aC (aP ?_))));refine x3.sl hc2 hcc rfl (by refine wr ly ?_;rfl) (by refine wr List.length_append ?_;lia) λH3 x4 f3 hc3=>?_;refine aZ hc3 (aC (x4.DZ (n:=a2.length+cs.length) rfl λH4 x5 f4=>?_));rw[<-List.append_assoc] at x5;refine K _ (a2++cs) z b2 (x5.gap List.length_append.symm (by refine wr List.length_append (wr List.length_append (wr ly ?_));exact(Nat.add_assoc _ _ _).symm) (by refine wr List.length_append ?_;lia) (λv hv=>?_) ?_) ?_ (by lia) (((f1.trans f2).trans f3).trans f4)
 .rcases List.mem_append.mp hv with hv|hv
  .rcases List.mem_append.mp hv with hv|hv
   .exact x2.it v (List.mem_append_left _ hv)
   .exact hci v hv
  rcases List.mem_append.mp hv with hv|hv
  .exact x2.it v (List.mem_append_right _ (List.mem_append_left _ (List.mem_append_right _ hv)))
  .exact x2.it v (List.mem_append_right _ (List.mem_append_right _ hv))
 .have:=List.length_pos_iff.mpr x2.Kh;simp only[List.length_append] at this⊢;lia
 .exact wr (e2.symm) (wr List.take_left (wr List.drop_left rfl))
end
end Mi
namespace Mi
open PySem
noncomputable def Mm (ot od ru:Nat):O:=.inst "OverlayHome" [("tree",.ref ot),("overlays",.ref od),("rules",.ref ru)]
noncomputable def LC:O:=.inst "OverlayTree" [("root",.none),("count",.int 0)]
structure zh (H:AH) (oh ru:Nat):Prop where
 ex:∃ot od,H.at_ oh=some (Mm ot od ru)/\H.at_ ot=some LC
section
variable {H H':AH}{S:Nat->Prop}{k:Nat}{Q:KV}{oh ru:Nat}
theorem zh.keep (h:zh H oh ru) (k:∀m c fs,(c=("OverlayHome":Str)\/c=("OverlayTree":Str))->H.at_ m=some (.inst c fs)->H'.at_ m=some (.inst c fs)):zh H' oh ru:=by
 obtain⟨ot,od,a,b⟩:=h;exact⟨ot,od,k _ _ _ (.inl rfl) a,k _ _ _ (.inr rfl) b⟩
theorem zh.up (w:Wf H) (f:Up H H') (h:zh H oh ru):zh H' oh ru:=h.keep λm c fs u_ e=>f.at_ w e λq=>q
theorem Ei {tab:Tab}{d:Def}{n j i:Nat}{p:List Nat}{it:V}{ρ:ao}{Q:List V->AH->Prop}(hp:I9 (kJ d p i)=true) (hs:aF it H=some ((j,[]),H)) (K:Q [] H):ok (dC tab d n p i ρ it (j,[])) Q H:=
 ee (I:=λu_ acc u_ H'=>acc=[]/\H'=H) ⟨rfl,rfl⟩ (λu_ h=>(nomatch h)) (λu_ u_ u_ u_ h=>h.2▸hs) hp (λu_ u_ u_ u_ u_ h=>(by simp at h)) λu_ u_ u_ h=>h.1▸h.2▸K
theorem aY {l:List V}(w:Wf H) (hl:l.length<=1000) (K:∀H' n,Up H H'->H'.at_ n=some (.list l)->H.nx=n->n<H'.nx->Q (.ref n) H'):ok (ba (.list l)) Q H:=by
 refine aB (bp hl)<|K _ _ (.add w) ar rfl (Nat.lt_succ_self _)
theorem mV {ot:Nat}{a b:V}(w:Wf H) (h:H.at_ ot=some LC) (K:∀H' n,Up H H'->H'.at_ n=some (.list [])->Q (.ref n) H'):ok (ae (aa (k+1)) "nodes_between" [.ref ot,a,b]) Q H:=by
 refine P.ph<|aY w (by simp) λH1 n1 f1 g1 u_ u_=>aY f1.wf (by simp) λH2 n2 f2 g2 u_ u_=>?_
 have f12:=f1.trans f2;refine aQ (f12.at_ w h λq=>q) (by kernel_rfl) (v:=.none) (by kernel_rfl)<|aX ?_
 refine P.mU ?_;refine bF ?_;refine aZ g2 (bN ?_);refine aJ (decide_eq_false (by simp)) ?_;refine P.mY<|K H2 n1 f12 (f2.at_ f1.wf g1 λq=>q)
theorem qm {ot:Nat}{a b c:V}(w:Wf H) (h:H.at_ ot=some LC) (K:∀H',Up H H'->Q .none H'):ok (ae (aa (k+1)) "shift_nodes" [.ref ot,a,b,c]) Q H:=by
 refine P.sR<|aQ h (by kernel_rfl) (v:=.none) (by kernel_rfl)<|aY w (by simp) λH1 n f1 g1 hn u_=>aX ?_
 refine P.iX ?_;refine aZ g1 (bN ?_);refine aM (decide_eq_true (by simp)) ?_;refine P.qo<|HF (l:=[]) g1 (by simp)<|bF ?_
 have f2:Fm (λm=>m=n) H1 (H1.put n (.list [])):=.put f1.wf g1 rfl;have g2:(H1.put n (.list [])).at_ n=some (.list []):=cL;generalize H1.put n (.list [])=H2 at f2 g2;refine aX ?_;refine P.iX ?_;refine aZ g2 (bN ?_);refine aJ (decide_eq_false (by simp)) ?_;exact K H2 (f1.bG f2 λm hm q=>by subst q;lia)
theorem zP {i m:Nat}{bm:V}(w:Wf H) (h:zh H oh ru) (hm:0<m) (K:∀H',Up H H'->Q .none H'):aA (aa (k+3)) (.ref oh) "text_came" (λA H=>A [.int i,.int m,bm] H) Q H:=by
 obtain⟨ot,od,a,b⟩:=h;refine bJ a (by kernel_rfl) (P.ij ?_);refine aQ a (by kernel_rfl) (v:=.ref ot) (by kernel_rfl)<|P.zQ ?_
 refine kn ?_;refine aJ (decide_eq_false (by lia)) ?_;refine mV (k:=k) w b λH1 n f1 g1=>cz (aD g1)<|Ei (by kernel_rfl) (aD g1)<|aY f1.wf (by simp) λH2 n2 f2 g2 u_ u_=>cz (aD g2)<|lE (by kernel_rfl) (aD g2)<|P.yb ?_
 have f12:=f1.trans f2;refine qm (k:=k) f12.wf (f12.at_ w b λq=>q) λH3 f3=>?_;have g3:=f3.at_ f12.wf g2 λq=>q;refine cz (aD g3)<|lE (by kernel_rfl) (aD g3)<|K H3 (f12.trans f3)
end
end Mi
namespace Mi
open PySem
structure BI where
 bu:Nat
 tx:Nat
 cl:Nat
 ma:Nat
 rw:Nat
 ls:Nat
 num:V
 nm:V
noncomputable def dQ (i:BI) (pt zv:Int) (tk ct:Int) (pr ov:V):O:=.inst "Buffer" [("number",i.num),("name",i.nm),("text",.ref i.tx),("markers",.ref i.ma),("point",.int pt),("begv",.int 1),("zv",.int zv),("mark",.none),("is_live",.bool true),("is_read_only",.bool false),("ticks",.int tk),("codes_ticks",.int ct),("saved_ticks",.int 1),("listeners",.ref i.ls),("undo",.none),("props",pr),("overlays",ov),("locals",.none),("syntax",.none),("file",.none)]
noncomputable def Kj (r:Nat):O:=.inst "Markers" [("rows",.ref r)]
structure Bf (H:AH) (i:BI) (txt:List V) (pt:Int) (pr ov:V) (gl:Nat):Prop where
 ob:∃tk ct,H.at_ i.bu=some (dQ i pt (txt.length+1:Nat) tk ct pr ov)
 gap:∃a m b,oQ H i.tx i.cl a m b/\a++b=txt/\m.length<=gl
 ma:H.at_ i.ma=some (Kj i.rw)
 rw:H.at_ i.rw=some (.dict [])
 ls:H.at_ i.ls=some (.list [])
 lc:i.ls≠i.cl
def BS (i:BI) (m:Nat):Prop:=m=i.bu\/m=i.tx\/m=i.cl
section
variable {H H':AH}{S:Nat->Prop}{k:Nat}{Q:KV}{QU:Unit->AH->Prop}{i:BI}{txt:List V}{pt:Int}{pr ov v:V}{gl n:Nat}{zv tk ct x:Int}
theorem rQ (h:H.at_ n=some (dQ i pt zv tk ct pr ov)) (k_:Q (.ref i.tx) H):ok (aV (.ref n) "text") Q H:=Eq.mpr (aW h (by kernel_rfl) (by kernel_rfl)) k_
theorem y4 (h:H.at_ n=some (dQ i pt zv tk ct pr ov)) (k_:Q (.ref i.ma) H):ok (aV (.ref n) "markers") Q H:=Eq.mpr (aW h (by kernel_rfl) (by kernel_rfl)) k_
theorem fq (h:H.at_ n=some (dQ i pt zv tk ct pr ov)) (k_:Q (.int pt) H):ok (aV (.ref n) "point") Q H:=Eq.mpr (aW h (by kernel_rfl) (by kernel_rfl)) k_
theorem y5 (h:H.at_ n=some (dQ i pt zv tk ct pr ov)) (k_:Q (.int 1) H):ok (aV (.ref n) "begv") Q H:=Eq.mpr (aW h (by kernel_rfl) (by kernel_rfl)) k_
theorem AP (h:H.at_ n=some (dQ i pt zv tk ct pr ov)) (k_:Q (.int zv) H):ok (aV (.ref n) "zv") Q H:=Eq.mpr (aW h (by kernel_rfl) (by kernel_rfl)) k_
theorem Jz (h:H.at_ n=some (dQ i pt zv tk ct pr ov)) (k_:Q (.bool false) H):ok (aV (.ref n) "is_read_only") Q H:=Eq.mpr (aW h (by kernel_rfl) (by kernel_rfl)) k_
theorem FG (h:H.at_ n=some (dQ i pt zv tk ct pr ov)) (k_:Q (.ref i.ls) H):ok (aV (.ref n) "listeners") Q H:=Eq.mpr (aW h (by kernel_rfl) (by kernel_rfl)) k_
theorem FF (h:H.at_ n=some (dQ i pt zv tk ct pr ov)) (k_:Q .none H):ok (aV (.ref n) "undo") Q H:=Eq.mpr (aW h (by kernel_rfl) (by kernel_rfl)) k_
theorem dZ (h:H.at_ n=some (dQ i pt zv tk ct pr ov)) (k_:Q pr H):ok (aV (.ref n) "props") Q H:=Eq.mpr (aW h (by kernel_rfl) (by kernel_rfl)) k_
theorem kK (h:H.at_ n=some (dQ i pt zv tk ct pr ov)) (k_:Q ov H):ok (aV (.ref n) "overlays") Q H:=Eq.mpr (aW h (by kernel_rfl) (by kernel_rfl)) k_
theorem uN (h:H.at_ n=some (dQ i pt zv tk ct pr ov)) (k_:Q (.int tk) H):ok (aV (.ref n) "ticks") Q H:=Eq.mpr (aW h (by kernel_rfl) (by kernel_rfl)) k_
theorem uL (h:H.at_ n=some (dQ i pt zv tk ct pr ov)) (k_:QU () (H.put n (dQ i x zv tk ct pr ov))):ok (bZ (.ref n) "point" (.int x)) QU H:=Eq.mpr ((dh h (by kernel_rfl) (by kernel_rfl)).trans (by kernel_rfl)) k_
theorem Jv (h:H.at_ n=some (dQ i pt zv tk ct pr ov)) (k_:QU () (H.put n (dQ i pt x tk ct pr ov))):ok (bZ (.ref n) "zv" (.int x)) QU H:=Eq.mpr ((dh h (by kernel_rfl) (by kernel_rfl)).trans (by kernel_rfl)) k_
theorem Dg (h:H.at_ n=some (dQ i pt zv tk ct pr ov)) (k_:QU () (H.put n (dQ i pt zv x ct pr ov))):ok (bZ (.ref n) "ticks" (.int x)) QU H:=Eq.mpr ((dh h (by kernel_rfl) (by kernel_rfl)).trans (by kernel_rfl)) k_
theorem Jx (h:H.at_ n=some (dQ i pt zv tk ct pr ov)) (k_:QU () (H.put n (dQ i pt zv tk x pr ov))):ok (bZ (.ref n) "codes_ticks" (.int x)) QU H:=Eq.mpr ((dh h (by kernel_rfl) (by kernel_rfl)).trans (by kernel_rfl)) k_
theorem Dh (h:H.at_ n=some (dQ i pt zv tk ct pr ov)) (k_:QU () (H.put n (dQ i pt zv tk ct v ov))):ok (bZ (.ref n) "props" v) QU H:=Eq.mpr ((dh h (by kernel_rfl) (by kernel_rfl)).trans (by kernel_rfl)) k_
theorem Jw (h:H.at_ n=some (dQ i pt zv tk ct pr ov)) (k_:QU () (H.put n (dQ i pt zv tk ct pr v))):ok (bZ (.ref n) "overlays" v) QU H:=Eq.mpr ((dh h (by kernel_rfl) (by kernel_rfl)).trans (by kernel_rfl)) k_
theorem jq {f:Str}{tab:Tab}{A:(List V->AH->Prop)->AH->Prop}(h:H.at_ n=some (dQ i pt zv tk ct pr ov)) (hf:([("number",V.none),("name",.none),("text",.none),("markers",.none),("point",.none),("begv",.none),("zv",.none),("mark",.none),("is_live",.none),("is_read_only",.none),("ticks",.none),("codes_ticks",.none),("saved_ticks",.none),("listeners",.none),("undo",.none),("props",.none),("overlays",.none),("locals",.none),("syntax",.none),("file",.none)]:List (Str×V)).lookup f=none)
  (a:A (λvs H=>ok (bB tab "Buffer" f (.ref n::vs)) Q H) H):aA tab (.ref n) f A Q H:=bJ h (fH (by rfl) hf) a
theorem Bf.up (w:Wf H) (f:Up H H') (h:Bf H i txt pt pr ov gl):Bf H' i txt pt pr ov gl:=by
 obtain⟨⟨tk,ct,a⟩,⟨p,m,q,b,c⟩,d,e,g,j⟩:=h;exact⟨⟨tk,ct,f.at_ w a λq=>q⟩,⟨p,m,q,b.up w f (λq=>q) λq=>q,c⟩,f.at_ w d λq=>q,f.at_ w e λq=>q,f.at_ w g λq=>q,j⟩
theorem Bf.put {pt':Int}{pr' ov':V}{o:O}{tk' ct':Int}(w:Wf H) (h:Bf H i txt pt pr ov gl) (ho:o=dQ i pt' (txt.length+1:Nat) tk' ct' pr' ov'):Bf (H.put i.bu o) i txt pt' pr' ov' gl/\Fm (BS i) H (H.put i.bu o):=by
 subst ho;obtain⟨⟨tk,ct,a⟩,⟨p,m,q,b,c⟩,d,e,g,j⟩:=h;have f:Fm (λm=>m=i.bu) H (H.put i.bu (dQ i pt' (txt.length+1:Nat) tk' ct' pr' ov')):=.put w a rfl;refine⟨⟨⟨tk',ct',cL⟩,⟨p,m,q,b.up w f (λq=>?_) (λq=>?_),c⟩,f.at_ w d λq=>?_,f.at_ w e λq=>?_,f.at_ w g λq=>?_,j⟩,f.aE λm q=>.inl q⟩
 .have:=b.ob;rw[q,a] at this;exact ez a (q▸b.ob) (by kernel_rfl)
 .have:=b.li;rw[q,a] at this;exact nO this rfl
 .exact ez a (q▸d) (by kernel_rfl)
 .have:=e;rw[q,a] at this;exact nO this rfl
 .have:=g;rw[q,a] at this;exact nO this rfl
theorem mZ (h:Bf H i txt pt pr ov gl) (K:Q .none H):ok (ae (aa (k+1)) "need_writable" [.ref i.bu]) Q H:=by
 refine P.pk<|fP h.ob λtk ct a=>?_
 refine Jz a (aj ?_);exact K
theorem zK {p:Nat}(w:Wf H) (h:Bf H i txt pt pr ov gl) (h1:1<=p) (h2:p<=txt.length+1) (K:∀H' x,Up H H'->Q (.ref x) H'):ok (ae (aa (k+1)) "reached" [.ref i.bu,.int p,.int p]) Q H:=by
 refine P.Cn ?_;have e1:ok (cE .min [V.int (p:Int),.int p]) (λx1 H=>ok (cE .max [V.int (p:Int),.int p]) (λx2 H=>ok (ba (.tup [x1,x2])) (λx3 H=>tZ x3 (λu4 u5=>ok (aV (.ref i.bu) "begv") (λx6 H=>ok (bQ .Lt u4 x6) (λb7 H=>cond b7 (False) (ok (aV (.ref i.bu) "zv") (λx8 H=>ok (bQ .Gt u5 x8) (λb9 H=>cond b9 (False) (ok (ba (.tup [u4,u5])) (λx10 H=>Q x10 H) H)) H) H)) H) H) H) H) H) H:=by
  have m1:CJ (p:Int) p=p:=by unfold CJ;simp
  have m2:CM (p:Int) p=p:=by unfold CM;simp
  refine aq<|aq ?_
  refine wr m1 (wr m2 ?_);refine aB (by rfl) ?_;have u1:Up H (H.add (.tup [.int p,.int p])):=.add w;refine eL ar ?_;have h':=h.up w u1;refine fP h'.ob λtk ct a=>?_;refine y5 a (cU ?_);refine aJ (decide_eq_false (by lia)) ?_;refine AP a (bN ?_);refine aJ (decide_eq_false (by lia)) ?_;refine aB (by rfl)<|K _ _ (u1.trans (.add u1.wf))
 exact e1
theorem lZ (h:Bf H i txt pt pr ov gl) (K:Q (.int (txt.length:Nat)) H):ok (bB (aa (k+2)) "Buffer" "size" [.ref i.bu]) Q H:=by
 refine P.tT<|fP h.ob λtk ct a=>eK h.gap λp m q b c d=>rQ a<|jj b (by kernel_rfl) (yO (k:=k) b ?_)
 refine wr c ?_;exact K
theorem vU {g:Nat}(h:Bf H i txt pt pr ov gl) (hb:txt.length+g<=4194304) (K:Q .none H):ok (ae (aa (k+3)) "need_room" [.ref i.bu,.int g]) Q H:=by
 refine P.yk<|fP h.ob λtk ct a=>jq a (by kernel_rfl) (lZ (k:=k) h ?_)
 refine aC (bN ?_);refine aJ (decide_eq_false (by lia)) ?_;exact K
theorem sJ {a b:V}(w:Wf H) (h:Bf H i txt pt pr ov gl) (K:∀H',Up H H'->Q .none H'):ok (ae (aa (k+1)) "tell_ahead" [.ref i.bu,a,b]) Q H:=by
 refine P.uX<|fP h.ob λtk ct a=>FG a (fW h.ls (by simp) ?_)
 have u:Up H (H.add (.list [])):=.add w;refine cz (aD ar)<|lE (by kernel_rfl) (aD ar) (K _ u)
theorem DI (w:Wf H) (h:Bf H i txt pt pr ov gl) (K:∀H',Bf H' i txt pt pr ov gl->Fm (BS i) H H'->Q .none H'):ok (bB (aa (k+1)) "Buffer" "touch" [.ref i.bu,.bool true]) Q H:=by
 refine P.se<|fP h.ob λtk ct a=>uN a (aC (Dg a (aj ?_)))
 refine xA (h.put (tk':=tk+1) (ct':=ct) (pt':=pt) (pr':=pr) (ov':=ov) w rfl) λh1 f1=>?_;have a1:(H.put i.bu (dQ i pt (txt.length+1:Nat) (tk+1) ct pr ov)).at_ i.bu=_:=cL;refine uN a1 (Jx a1 ?_);refine xA (h1.put (tk':=tk+1) (ct':=tk+1) (pt':=pt) (pr':=pr) (ov':=ov) f1.wf rfl) λh2 f2=>K _ h2 (f1.trans f2)
theorem qa {a b c:V}(w:Wf H) (h:Bf H i txt pt pr ov gl) (K:∀H',Bf H' i txt pt pr ov gl->Fm (BS i) H H'->Q .none H'):ok (ae (aa (k+2)) "tell_behind" [.ref i.bu,a,b,c]) Q H:=by
 refine P.sH<|fP h.ob λtk ct ha=>jq ha (by kernel_rfl) (DI (k:=k) w h λH1 h1 f1=>?_)
 refine fP h1.ob λtk1 ct1 a1=>FG a1 (fW h1.ls (by simp) ?_);have u:Up H1 (H1.add (.list [])):=.add f1.wf;refine cz (aD ar)<|lE (by kernel_rfl) (aD ar) (K _ (h1.up f1.wf u) (f1.trans (u.aE λu_ q=>q.elim)))
theorem CN {a b c:V}(w:Wf H) (h:Bf H i txt pt pr ov gl) (K:∀H',Up H H'->Q .none H'):ok (bB (aa (k+2)) "Markers" "inserted" [.ref i.ma,a,b,c]) Q H:=by
 refine P.kQ<|bJ h.ma (by kernel_rfl) (P.mz ?_)
 refine aQ h.ma (by kernel_rfl) (v:=.ref i.rw) (by kernel_rfl)<|ah (dK h.rw ?_)
 refine aY w (by simp) λH1 n f1 g1 u_ u_=>cz (aD g1)<|lE (by kernel_rfl) (aD g1) (K _ f1)
end
end Mi
namespace Mi
open PySem
noncomputable def fL (txt cs:List V) (p:Nat):List V:=txt.take p++cs++txt.drop p
section
variable {H H':AH}{S:Nat->Prop}{k:Nat}{Q:KV}{QU:Unit->AH->Prop}{i:BI}{txt cs:List V}{pt:Int}{pr ov v:V}{gl n nc p:Nat}{zv tk ct x:Int}
theorem nT (h:Bf H i txt pt pr ov gl) (hc:H.at_ nc=some (.list cs)) (ne:i.cl≠nc):¬BS i nc:=λq=>by
 refine fP h.ob λtk ct a=>eZ h.gap λu_ u_ u_ b u_=>?_
 rcases q with q|q|q
 .rw[q,a] at hc;exact nO hc rfl
 .have:=b.ob;rw[<-q,hc] at this;exact nO this rfl
 .exact ne q.symm
theorem ji (hp:p<=txt.length):(fL txt cs p).length=txt.length+cs.length:=by unfold fL;simp;exact KZ hp
theorem zt (w:Wf H) (h:Bf H i txt pt pr ov gl) (hp:p<=txt.length) (hpt:pt=(p+1:Nat)) (hc:H.at_ nc=some (.list cs)) (ne:i.cl≠nc) (hci:∀v∈cs,∃j,v=V.int j) (hb:txt.length+gl+cs.length+8<=900)
  (K:∀H',Bf H' i (fL txt cs p) pt pr ov (gl+8)->Fm (BS i) H H'->Q .none H'):ok (ae (aa (k+3)) "text_in" [.ref i.bu,.int (p+1:Nat),.ref nc]) Q H:=by
 refine P.B3<|fP h.ob λtk ct a=>eK h.gap λga gm gb b e l=>FF a (bF ?_)
 refine rQ a<|jj b (by kernel_rfl)<|aT ?_
 have e1:((p+1:Nat):Int)-1=(p:Nat):=by lia
 refine wr e1 ?_;have lab:ga.length+gb.length=txt.length:=by refine wr (e.symm) ?_;simp
 refine tH (k:=k) w b (by refine wr e ?_;exact hp) hc ne hci (by lia) λH1 a1 m1 b1 g1 e2 l1 f1=>?_;have fo:∀{m:Nat} {o:O},H.at_ m=some o->(∀c gs ge,o≠C5 c gs ge)->(m≠i.cl)->H1.at_ m=some o:=λ{m o} hm h1 h2=>f1.at_ w hm λq=>by
  rcases q with q|q
  .rw[q,b.ob] at hm;obtain rfl:=Option.some.inj hm;exact h1 _ _ _ rfl
  .exact h2 q
 have nb:i.bu≠i.cl:=λq=>by have:=b.li;rw[<-q,a] at this;exact nO this rfl
 have ngap:∀{c:Str} {fs:List (Str×V)} (c' gs ge),(c==("GapText":Str))=false->O.inst c fs≠C5 c' gs ge:=λc' gs ge hc q=>by
  have:=(O.inst.inj q).1;rw[beq_iff_eq.mpr this] at hc;exact tf hc
 have a1':H1.at_ i.bu=some (dQ i pt (txt.length+1:Nat) tk ct pr ov):=fo a (λc gs ge=>ngap c gs ge (by kernel_rfl)) nb;have mc:i.ma≠i.cl:=λq=>by have:=h.ma;rw[q,b.li] at this;exact nO this rfl
 have rc:i.rw≠i.cl:=λq=>by have:=h.rw;rw[q,b.li] at this;exact nO this rfl
 have ma1:=fo h.ma (λc gs ge=>ngap c gs ge (by kernel_rfl)) mc;have rw1:=fo h.rw (λc gs ge q=>by exact w9 q rfl) rc;have ls1:=fo h.ls (λc gs ge q=>by exact w9 q rfl) h.lc;have hc1:=fo hc (λc gs ge q=>by exact w9 q rfl) ne.symm;refine AP a1' (aZ hc1 (aC (Jv a1' ?_)));have e3:((txt.length+1:Nat):Int)+(cs.length:Nat)=((fL txt cs p).length+1:Nat):=by refine wr (ji hp) ?_;lia
 refine wr e3 ?_;have f2:Fm (BS i) H1 (H1.put i.bu (dQ i pt ((fL txt cs p).length+1:Nat) tk ct pr ov)):=.put f1.wf a1' (.inl rfl);have a2:(H1.put i.bu (dQ i pt ((fL txt cs p).length+1:Nat) tk ct pr ov)).at_ i.bu=_:=cL;have bo:∀{m:Nat} {o:O},H1.at_ m=some o->m≠i.bu->(H1.put i.bu (dQ i pt ((fL txt cs p).length+1:Nat) tk ct pr ov)).at_ m=some o:=λhm q=>by refine wr aK (wr (if_neg q) ?_);exact hm
 refine fq a2 (bN ?_);refine aJ (decide_eq_false (by lia)) ?_;have g2:oQ (H1.put i.bu (dQ i pt ((fL txt cs p).length+1:Nat) tk ct pr ov)) i.tx i.cl a1 m1 b1:=⟨bo g1.ob λq=>ez a1' (q▸g1.ob) (by kernel_rfl),bo g1.li nb.symm,g1.bd,g1.it,g1.Kh⟩;refine K _ ⟨⟨tk,ct,a2⟩,⟨a1,m1,b1,g2,?_,by lia⟩,bo ma1 λq=>ez a1' (q▸ma1) (by kernel_rfl),bo rw1 λq=>?_,bo ls1 λq=>?_,h.lc⟩ ((f1.aE λm q=>.inr q).trans f2)
 .refine wr e2 (wr e ?_);rfl
 .rw[q,a1'] at rw1;exact nO rw1 rfl
 .rw[q,a1'] at ls1;exact nO ls1 rfl
theorem Cp (w:Wf H) (h:Bf H i txt pt pr ov gl) (hp:p<=txt.length) (hpt:pt=(p+1:Nat)) (hc:H.at_ nc=some (.list cs)) (ne:i.cl≠nc) (hci:∀v∈cs,∃j,v=V.int j) (hb:txt.length+gl+cs.length+8<=900)
  (K0:cs=[]->∀H',Up H H'->Q .none H')
  (K:cs≠[]->∀H1,Bf H1 i (fL txt cs p) (pt+(cs.length:Nat)) pr ov (gl+8)->Fm (BS i) H H1->ok (ae (aa (k+3)) "hung_in" [.ref i.bu,.int (p+1:Nat),.int (cs.length:Nat),.bool false]) (λu_ H2=>Wf H2/\Bf H2 i (fL txt cs p) (pt+(cs.length:Nat)) pr ov (gl+8)/\H2.at_ nc=some (.list cs)/\∀H3,Bf H3 i (fL txt cs p) (pt+(cs.length:Nat)) pr ov (gl+8)->Fm (BS i) H2 H3->Q .none H3) H1):
  ok (ae (aa (k+4)) "put_in" [.ref i.bu,.int (p+1:Nat),.ref nc,.bool false,.bool true]) Q H:=by
 refine P.Ea<|mZ (k:=k+2) h<|zK (k:=k+2) w h (by exact Nat.succ_pos _) (by lia) λH1 u_ f1=>?_
 have h1:=h.up w f1;have hc1:=f1.at_ w hc λq=>q;refine aZ hc1 (ej ?_)
 by_cases q:cs=[]
 .subst q;exact K0 rfl H1 f1
 .have hl:0<cs.length:=List.length_pos_iff.mpr q;refine aJ (show(((cs.length:Nat):Int)==0)=false from beq_eq_false_iff_ne.mpr (by lia))<|aZ hc1<|vU (k:=k) h1 (by lia)<|sJ (k:=k+2) f1.wf h1 λH2 f2=>?_
  have f12:=f1.trans f2;have h2:=h1.up f1.wf f2;have hc2:=f2.at_ f1.wf hc1 λq=>q;refine zt (k:=k) f2.wf h2 hp hpt hc2 ne hci hb λH3 h3 f3=>?_;have off:=nT h2 hc2 ne;have hc3:=f3.at_ f2.wf hc2 off;have f13:Fm (BS i) H H3:=(f12.aE λu_ q=>q.elim).trans f3;refine aj<|aZ hc3 (aC ?_)
  refine fP h3.ob λtk ct a=>uL a<|xA (h3.put (pt':=pt+(cs.length:Nat)) (tk':=tk) (ct':=ct) (pr':=pr) (ov':=ov) f3.wf rfl) λh4 f4=>?_
  have e1:((p+1:Nat):Int)+(cs.length:Nat)=pt+(cs.length:Nat):=by lia
  refine wr e1 ?_;have hc4:=f4.at_ f3.wf hc3 off;generalize H3.put i.bu (dQ i (pt+(cs.length:Nat)) ((fL txt cs p).length+1:Nat) tk ct pr ov)=H4 at h4 f4 hc4;have f14:=f13.trans f4;refine fP h4.ob λtk4 ct4 a4=>y4 a4<|bJ h4.ma (by kernel_rfl)<|aZ hc4 (aC ?_)
  refine CN (k:=k+1) f4.wf h4 λH5 f5=>?_;have hc5:=f5.at_ f4.wf hc4 λq=>q;refine aZ hc5<|az (K q H5 (h4.up f4.wf f5) (f14.trans (f5.aE λu_ q=>q.elim))) λu_ H6 z=>JX z λw6 h6 hc6 K6=>aZ hc6 (aC ?_)
  exact qa (k:=k+1) w6 h6 K6
theorem gx (w:Wf H) (h:Bf H i txt pt pr ov gl) (hp:p<=txt.length) (hpt:pt=(p+1:Nat)) (hc:H.at_ nc=some (.list cs)) (ne:i.cl≠nc) (hci:∀v∈cs,∃j,v=V.int j) (hb:txt.length+gl+cs.length+8<=900)
  (K0:cs=[]->∀H',Up H H'->Q .none H')
  (K:cs≠[]->∀H1,Bf H1 i (fL txt cs p) (pt+(cs.length:Nat)) pr ov (gl+8)->Fm (BS i) H H1->ok (ae (aa (k+3)) "hung_in" [.ref i.bu,.int (p+1:Nat),.int (cs.length:Nat),.bool false]) (λu_ H2=>Wf H2/\Bf H2 i (fL txt cs p) (pt+(cs.length:Nat)) pr ov (gl+8)/\H2.at_ nc=some (.list cs)/\∀H3,Bf H3 i (fL txt cs p) (pt+(cs.length:Nat)) pr ov (gl+8)->Fm (BS i) H2 H3->Q .none H3) H1):
  ok (ae (aa (k+5)) "insert" [.ref i.bu,.ref nc]) Q H:=by
 refine P.EF<|fP h.ob λtk ct a=>?_
 refine fq a ?_;refine wr hpt ?_;exact Cp (k:=k) w h hp hpt hc ne hci hb K0 K
end
end Mi
namespace Mi
open PySem
section
variable {H H':AH}{S:Nat->Prop}{k:Nat}{Q:KV}{i:BI}{txt cs:List V}{pt:Int}{pv ov v:V}{gl n m nc p:Nat}{D:List Int}{tr pr oh ru:Nat}{L:List E3}{ps:List aO}
theorem fV {c:Str}{fs:List (Str×V)}(h:Bf H i txt pt pv ov gl) (hm:H.at_ m=some (.inst c fs)) (h1:(c==("Buffer":Str))=false) (h2:(c==("GapText":Str))=false):¬BS i m:=λq=>by
 refine fP h.ob λtk ct a=>eZ h.gap λu_ u_ u_ b u_=>?_
 rcases q with q|q|q
 .exact ez (q▸hm) a h1
 .exact ez (q▸hm) b.ob h2
 .rw[q,b.li] at hm;exact nO hm rfl
theorem wR {l:List V}(h:Bf H i txt pt pv ov gl) (hm:H.at_ m=some (.tup l)):¬BS i m:=λq=>by
 refine fP h.ob λtk ct a=>eZ h.gap λu_ u_ u_ b u_=>?_
 rcases q with q|q|q
 .rw[q,a] at hm;exact nO hm rfl
 .rw[q,b.ob] at hm;exact nO hm rfl
 .rw[q,b.li] at hm;exact nO hm rfl
theorem BN {l:List (Int×V)}(h:Bf H i txt pt pv ov gl) (hm:H.at_ m=some (.dict l)):¬BS i m:=λq=>by
 refine fP h.ob λtk ct a=>eZ h.gap λu_ u_ u_ b u_=>?_
 rcases q with q|q|q
 .rw[q,a] at hm;exact nO hm rfl
 .rw[q,b.ob] at hm;exact nO hm rfl
 .rw[q,b.li] at hm;exact nO hm rfl
theorem HN {q:aO}(h:Bf H i txt pt pv ov gl) (hm:PL H m q):¬BS i m:=λe=>by
 refine be hm λvs h1 h2 u_=>fP h.ob λtk ct a=>eZ h.gap λu_ u_ u_ b u_=>?_
 rcases e with e|e|e
 .rw[e,a] at h1;exact nO h1 rfl
 .rw[e,b.ob] at h1;exact nO h1 rfl
 .rw[e,b.li] at h1;obtain rfl:=O.list.inj (Option.some.inj h1)
  rcases q with _|⟨x,q⟩
  .have:=h2.len;exact b.Kh (List.eq_nil_of_length_eq_zero this)
  .have hlen:=h2.len;obtain⟨u,hu⟩:∃u,(_:List V)[0]? =some u:=⟨_,List.getElem?_eq_getElem (i:=0) (by refine wr hlen ?_;simp)⟩;refine eZ (h2.get hu) λm' a' e' e1 u_=>xE (b.it u (List.mem_of_getElem? hu)) λj hj=>?_;rw[hj] at e1;exact JO e1 rfl
theorem KL (h:Bf H i txt pt pv ov gl) (s:Sq H tr L) (hm:TL tr L m):¬BS i m:=by
 rcases hm with hm|hm
 .refine xE s.tree λv e=>wr hm<|fV h e (by kernel_rfl) (by kernel_rfl)
 .refine fM (s.live hm) λu_ u_ u_ u_ u_ e=>fV h e (by kernel_rfl) (by kernel_rfl)
theorem ip {c:Str}{fs:List (Str×V)}(s:Sq H tr L) (hm:H.at_ m=some (.inst c fs)) (h1:(c==("IntervalTree":Str))=false) (h2:(c==("Interval":Str))=false):¬TL tr L m:=λq=>by
 rcases q with q|q
 .refine xE s.tree λv e=>?_;rw[q] at hm;exact ez hm e h1
 .refine fM (s.live q) λu_ u_ u_ u_ u_ e=>ez hm e h2
theorem uV {l:List (Int×V)}(s:Sq H tr L) (hm:H.at_ m=some (.dict l)):¬TL tr L m:=λq=>by
 rcases q with q|q
 .refine xE s.tree λv e=>?_;rw[q,e] at hm;exact nO hm rfl
 .refine fM (s.live q) λu_ u_ u_ u_ u_ e=>?_;rw[e] at hm;exact nO hm rfl
theorem PL.bs {q:aO}(h:Bf H i txt pt pv ov gl) (w:Wf H) (f:Fm (BS i) H H') (x:PL H n q):PL H' n q:=x.keep (.of w f λm l hm q=>wR h hm q) λl e=>f.at_ w e (HN h x)
theorem Tp.bs (h:Bf H i txt pt pv ov gl) (t:Tp H pr tr L ps) (f:Fm (BS i) H H'):Tp H' pr tr L ps:=
 ⟨f.at_ t.sq.wf t.ob (fV h t.ob (by kernel_rfl) (by kernel_rfl)),t.sq.fm f λm hm=>KL h t.sq hm,t.cs.mono λu_ u_ x=>x.bs h t.sq.wf f⟩
theorem Bf.tl (t:Tp H pr tr L ps) (h:Bf H i txt pt pv ov gl) (f:Fm (TL tr L) H H'):Bf H' i txt pt pv ov gl:=by
 obtain⟨⟨tk,ct,a⟩,⟨x,y,z,b,c⟩,d,e,g,j⟩:=h;have w:=t.sq.wf;have li:∀{m:Nat} {l:List V},H.at_ m=some (.list l)->¬TL tr L m:=λhm q=>(du t.sq q).1 _ hm;exact⟨⟨tk,ct,f.at_ w a (ip t.sq a (by kernel_rfl) (by kernel_rfl))⟩,⟨x,y,z,b.up w f (ip t.sq b.ob (by kernel_rfl) (by kernel_rfl)) (li b.li),c⟩,f.at_ w d (ip t.sq d (by kernel_rfl) (by kernel_rfl)),f.at_ w e (uV t.sq e),f.at_ w g (li g),j⟩
theorem Ru.keep {X:Nat->Prop}(w:Wf H) (f:Fm X H H') (h1:∀m c fs,(c=("PropRules":Str)\/c=("PlainLisp":Str))->H.at_ m=some (.inst c fs)->¬X m) (h2:∀m l,H.at_ m=some (.dict l)->¬X m) (h:Ru H ru D):Ru H' ru D:=by
 obtain⟨li,pd,de,a,b,c,d⟩:=h;exact⟨li,pd,de,f.at_ w a (h1 _ _ _ (.inl rfl) a),f.at_ w b (h1 _ _ _ (.inr rfl) b),f.at_ w c (h2 _ _ c),f.at_ w d (h2 _ _ d)⟩
theorem Ru.bs (h:Bf H i txt pt pv ov gl) (w:Wf H) (f:Fm (BS i) H H') (r:Ru H ru D):Ru H' ru D:=r.keep w f (λm c fs hc hm=>by
 rcases hc with rfl|rfl
 .exact fV h hm (by kernel_rfl) (by kernel_rfl)
 .exact fV h hm (by kernel_rfl) (by kernel_rfl)) λm l hm=>BN h hm
theorem Ru.tl (s:Sq H tr L) (f:Fm (TL tr L) H H') (r:Ru H ru D):Ru H' ru D:=r.keep s.wf f (λm c fs hc hm=>by
 rcases hc with rfl|rfl
 .exact ip s hm (by kernel_rfl) (by kernel_rfl)
 .exact ip s hm (by kernel_rfl) (by kernel_rfl)) λm l hm=>uV s hm
theorem zh.bs (h:Bf H i txt pt pv ov gl) (w:Wf H) (f:Fm (BS i) H H') (r:zh H oh ru):zh H' oh ru:=r.keep λm c fs hc hm=>f.at_ w hm (by
 rcases hc with rfl|rfl
 .exact fV h hm (by kernel_rfl) (by kernel_rfl)
 .exact fV h hm (by kernel_rfl) (by kernel_rfl))
theorem zh.tl (s:Sq H tr L) (f:Fm (TL tr L) H H') (r:zh H oh ru):zh H' oh ru:=r.keep λm c fs hc hm=>f.at_ s.wf hm (by
 rcases hc with rfl|rfl
 .exact ip s hm (by kernel_rfl) (by kernel_rfl)
 .exact ip s hm (by kernel_rfl) (by kernel_rfl))
structure Fu (H:AH) (i:BI) (txt:List V) (pt:Int) (gl pr tr oh ru:Nat) (D:List Int) (L:List E3) (ps:List aO):Prop where
 bf:Bf H i txt pt (.ref pr) (.ref oh) gl
 tp:Tp H pr tr L ps
 ov:zh H oh ru
 ru:Ru H ru D
 len:ps.length=txt.length
 good:∀p∈ps,Good p
def FS (i:BI) (tr:Nat) (L:List E3) (m:Nat):Prop:=BS i m\/TL tr L m
theorem Fu.up (h:Fu H i txt pt gl pr tr oh ru D L ps) (f:Up H H'):Fu H' i txt pt gl pr tr oh ru D L ps:=
 ⟨h.bf.up h.tp.sq.wf f,h.tp.up f,h.ov.up h.tp.sq.wf f,h.ru.up h.tp.sq.wf f,h.len,h.good⟩
theorem Fu.pl {q:aO}(h:Fu H i txt pt gl pr tr oh ru D L ps) (f:Fm (FS i tr L) H H') (x:PL H n q):PL H' n q:=by
 have w:=h.tp.sq.wf;refine x.keep (.of w f λm l hm q=>?_) λl e=>f.at_ w e λq=>?_
 .rcases q with q|q
  .exact wR h.bf hm q
  .exact(du h.tp.sq q).2 _ hm
 .rcases q with q|q
  .exact HN h.bf x q
  .exact(du h.tp.sq q).1 _ e
theorem GO (h:Bf H i txt pt (.ref pr) (.ref oh) gl) (t:Tp H pr tr L ps) (o:zh H oh ru) (r:Ru H ru D) (g:∀p∈ps,Good p) (hp:p<=ps.length) (hm:0<m) (hb:L.length+5<=1000)
  (K:∀H' L' ps',Bf H' i txt pt (.ref pr) (.ref oh) gl->Tp H' pr tr L' ps'->zh H' oh ru->Ru H' ru D->FQ H.nx L ps p m [] L' ps'->Fm (TL tr L) H H'->Q .none H'):
  ok (ae (aa (k+10)) "hung_in" [.ref i.bu,.int (p+1:Nat),.int m,.bool false]) Q H:=by
 refine P.uz<|fP h.ob λtk ct a=>?_
 have e1:((p+1:Nat):Int)-1=(p:Nat):=by lia
 refine dZ a (bK ?_);refine dZ a<|bJ t.ob (by kernel_rfl) ?_
 refine aT ?_;refine wr e1 ?_;refine P.iS<|jC t.sq.wf λH0 n0 f0 hn0=>?_
 have t0:=t.up f0;refine mH (k:=k) t0 g hn0 rE hp hm hb λH1 L1 p1 t1 i1 f1=>?_;have f01:Fm (TL tr L) H H1:=(f0.aE λu_ q=>q.elim).trans f1;have b1:=h.tl t f01;have o1:=o.tl t.sq f01;have r1:=r.tl t.sq f01;have nx0:=f0.nx;have i1:FQ H.nx L ps p m [] L1 p1:=⟨i1.same,i1.good,i1.len,λj hj=>(i1.ids j hj).imp_right λx=>by exact Nat.le_trans (by assumption) (by assumption)⟩;refine fP b1.ob λtk1 ct1 a1=>kK a1 (bK ?_);refine kK a1 ?_;obtain⟨ot,od,c1,c2⟩:=id o1;refine bJ c1 (by kernel_rfl) ?_;refine aT ?_;refine wr e1 ?_;have:=zP (k:=k+6) (Q:=λu_ H=>Q .none H) (i:=p) (m:=m) (bm:=.bool false) t1.sq.wf o1 hm λH2 f2=>K H2 L1 p1 (b1.up t1.sq.wf f2) (t1.up f2) (o1.up t1.sq.wf f2) (r1.up t1.sq.wf f2) i1 (f01.trans (f2.aE λu_ q=>q.elim));refine bV this λn ob en eo hK=>?_;obtain rfl:=V.ref.inj en;rw[c1] at eo;obtain rfl:=Option.some.inj eo;exact hK.2
theorem rA (h:Fu H i txt pt gl pr tr oh ru D L ps) (hp:p<=txt.length) (hpt:pt=(p+1:Nat)) (hc:H.at_ nc=some (.list cs)) (ne:i.cl≠nc) (hci:∀v∈cs,∃j,v=V.int j) (hb:txt.length+gl+cs.length+8<=900) (hL:L.length+5<=1000)
  (K0:cs=[]->∀H',Up H H'->Q .none H')
  (K:cs≠[]->∀H' L' ps',Fu H' i (fL txt cs p) (pt+(cs.length:Nat)) (gl+8) pr tr oh ru D L' ps'->FQ H.nx L ps p cs.length [] L' ps'->Fm (FS i tr L) H H'->Q .none H'):
  ok (ae (aa (k+12)) "insert" [.ref i.bu,.ref nc]) Q H:=by
 refine gx (k:=k+7) h.tp.sq.wf h.bf hp hpt hc ne hci hb K0 λq H1 b1 f1=>?_;have t1:=h.tp.bs h.bf f1;have o1:=h.ov.bs h.bf h.tp.sq.wf f1;have r1:=h.ru.bs h.bf h.tp.sq.wf f1;have hl:0<cs.length:=List.length_pos_iff.mpr q;have hc1:=f1.at_ h.tp.sq.wf hc (nT h.bf hc ne);refine GO (k:=k) b1 t1 o1 r1 h.good (by refine wr h.len ?_;exact hp) hl hL λH2 L2 p2 b2 t2 o2 r2 i2 f2=>?_;refine⟨t2.sq.wf,b2,f2.at_ t1.sq.wf hc1 λq=>(du t1.sq q).1 _ hc1,λH3 b3 f3=>?_⟩;have nx1:=f1.nx;refine K q H3 L2 p2 ⟨b3,t2.bs b2 f3,o2.bs b2 t2.sq.wf f3,r2.bs b2 t2.sq.wf f3,?_,i2.good⟩ ⟨i2.same,i2.good,i2.len,λj hj=>(i2.ids j hj).imp_right λx=>by exact Nat.le_trans (by assumption) (by assumption)⟩ ?_
 .have:=i2.same.len;refine wr (this.symm) (wr (ji hp) (wr (h.len.symm) ?_));simp;have:=h.len;exact KZ (by lia)
 .exact((f1.aE λm q=>.inl q).trans (f2.aE λm q=>.inr q)).trans (f3.aE λm q=>.inl q)
end
end Mi
namespace Mi
open PySem
theorem bx.take {a b:List aO}(n:Nat) (h:bx a b):bx (a.take n) (b.take n):=aS.take n h
theorem bx.drop {a b:List aO}(n:Nat) (h:bx a b):bx (a.drop n) (b.drop n):=aS.drop n h
theorem bx.set {ps p1 p2:List aO}{p m:Nat}{q r:aO}(hp:p<=ps.length) (h:bx (ps.take p++(List.replicate m q++ps.drop p)) p1) (h2:bx (p1.take p++(List.replicate m r++p1.drop (p+m))) p2):bx (ps.take p++(List.replicate m r++ps.drop p)) p2:=by
 refine bx.trans (bx.app ?_ (bx.app .refl ?_)) h2
 .have:=h.take p
  rwa [List.take_left' (by simp;lia)] at this
 .have:=h.drop (p+m);rw[<-List.append_assoc,List.drop_left' (by simp;lia)] at this;exact this
section
variable {H H':AH}{S:Nat->Prop}{k:Nat}{Q:KV}{QB:KB}{i:BI}{txt cs:List V}{pt:Int}{pv ov v:V}{gl n m nc p:Nat}{D:List Int}{tr pr oh ru:Nat}{L:List E3}{ps:List aO}
theorem Bf.more {g':Nat}(h:Bf H i txt pt pv ov gl) (hg:gl<=g'):Bf H i txt pt pv ov g':=by
 obtain⟨a,⟨x,y,z,b,c,d⟩,e,f,g,j⟩:=h;exact⟨a,⟨x,y,z,b,c,Nat.le_trans d hg⟩,e,f,g,j⟩
def JK (ps ps':List aO) (p m:Nat) (D:List Int):Prop:=∃r,(∀x,cY x=false->bg r x=jk (cO ps p) (dG ps p) D x (decide (0<p)))/\bx (ps.take p++(List.replicate m r++ps.drop p)) ps'
theorem lR (h:Fu H i txt pt gl pr tr oh ru D L ps)
  (K:∀H' n r,PL H' n r->H.nx<=n->Up H H'->Good r->(∀x,cY x=false->bg r x=jk (cO ps p) (dG ps p) D x (decide (0<p)))->Q (.ref n) H'):
  ok (ae (aa (k+8)) "inherited_here" [.ref i.bu,.int (p+1:Nat)]) Q H:=by
 refine P.nv<|fP h.bf.ob λtk ct a=>?_
 obtain⟨ot,od,c1,c2⟩:=h.ov;refine kK a (aQ c1 (by kernel_rfl) (v:=.ref ru) (by kernel_rfl) (dZ a (aT ?_)));have e1:((p+1:Nat):Int)-1=(p:Nat):=by lia
 refine wr e1<|pn (k:=k) h.tp h.ru h.good K
theorem Aw (h:Fu H i txt pt gl pr tr oh ru D L ps) (hp:p<=txt.length) (hpt:pt=(p+1:Nat)) (hc:H.at_ nc=some (.list cs)) (ne:i.cl≠nc) (hci:∀v∈cs,∃j,v=V.int j) (hb:txt.length+gl+cs.length+8<=900) (hL:L.length+10<=1000)
  (K:∀H' L' ps',Fu H' i (fL txt cs p) (pt+(cs.length:Nat)) (gl+8) pr tr oh ru D L' ps'->JK ps ps' p cs.length D->L'.length<=L.length+4->Fm (FS i tr L) H H'->Q .none H'):
  ok (ae (aa (k+13)) "insert_inheriting" [.ref i.bu,.ref nc]) Q H:=by
 refine P.fO ?_;have w:=h.tp.sq.wf;refine fP h.bf.ob λtk ct a=>fq a<|aY w (by simp) λH0 n0 f0 g0 u_ u_=>?_
 have h0:=h.up f0;have hc0:=f0.at_ w hc λq=>q;refine fP h0.bf.ob λtk0 ct0 a0=>dZ a0 (bK ?_);refine kK a0 (bK ?_);refine wr hpt<|lR (k:=k+4) (p:=p) h0 λH1 n r hn nx f1 gr hv=>?_
 have f01:=f0.trans f1;have h1:=h0.up f1;have hc1:=f1.at_ f0.wf hc0 λq=>q;have w1:=f1.wf;refine rA (k:=k) h1 hp hpt hc1 ne hci hb (by lia) (λq H2 f2=>?_) λq H2 L2 p2 h2 i2 f2=>?_
 .subst q;have h2:=h1.up f2;have f02:=f01.trans f2;have hc2:=f2.at_ w1 hc1 λq=>q;have hn2:=hn.up w1 f2;refine be hn2 λvs v1 v2 v3=>?_;have key:∀H',Up H2 H'->Q .none H':=λH' f=>by
   have e1:fL txt [] p=txt:=by unfold fL;simp
   have h':=h2.up f;refine K H' L ps ⟨?_,h'.tp,h'.ov,h'.ru,?_,h'.good⟩ ⟨r,hv,?_⟩ (by lia) ((f02.trans f).aE λu_ q=>q.elim)
   .refine wr e1 ?_;have:=h'.bf.more (g':=gl+8) (by lia)
    simpa using this
   .refine wr e1 ?_;exact h'.len
   .show bx (ps.take p++([]++ps.drop p)) ps;rw[List.nil_append,List.take_append_drop];exact .refl
  refine aY f2.wf (by simp) λH3 n3 f3 g3 u_ u_=>KY (f3.at_ f2.wf v1 λq=>q) g3 ?_
  rcases vs.isEmpty with _|_
  .dsimp only[cond,Bool.not];refine aZ (f3.at_ f2.wf hc2 λq=>q) (bN ?_);refine wr (decide_eq_false (by simp)) ?_;exact key H3 f3
  .exact key H3 f3
 .have f02:Fm (FS i tr L) H H2:=(f01.aE λu_ q=>q.elim).trans f2;have w2:=f2.wf;have hl:0<cs.length:=List.length_pos_iff.mpr q;have hc2:=f2.at_ w1 hc1 (λe=>by
   rcases e with e|e
   .exact nT h1.bf hc1 ne e
   .exact(du h1.tp.sq e).1 _ hc1)
  have hn2:=h1.pl f2 hn;refine be (id hn2) λvs v1 v2 v3=>?_;have hps:p<=ps.length:=by refine wr h.len ?_;exact hp
  refine aY w2 (by simp) λH3 n3 f3 g3 u_ u_=>?_;have h3:=h2.up f3;have f03:Fm (FS i tr L) H H3:=f02.trans (f3.aE λu_ q=>q.elim);have hc3:=f3.at_ w2 hc2 λq=>q;have hn3:=hn2.up w2 f3;have l2:=i2.len;refine KY (f3.at_ w2 v1 λq=>q) g3 ?_
  rcases hve:vs.isEmpty with _|_
  .dsimp only[cond,Bool.not];refine aZ hc3 (bN ?_);refine aM (decide_eq_true (by exact Int.ofNat_lt.mpr (by assumption))) ?_;refine fP h3.bf.ob λtk3 ct3 a3=>dZ a3<|bJ h3.tp.ob (by kernel_rfl) ?_
   have e1:((p+1:Nat):Int)-1=(p:Nat):=by lia
   refine aT ?_;refine wr e1 ?_;refine aT ?_;refine wr e1 ?_;refine aZ hc3 (aC ?_);have e2:((p:Nat):Int)+(cs.length:Nat)=((p+cs.length:Nat):Int):=by lia
   refine wr e2 ?_;refine aB (by rfl) ?_;have f4:Up H3 (H3.add (.tup [.int p,.int (p+cs.length:Nat),.ref n])):=.add f3.wf;have g4:(H3.add (.tup [.int p,.int (p+cs.length:Nat),.ref n])).at_ H3.nx=some (.tup [.int p,.int (p+cs.length:Nat),.ref n]):=ar;generalize H3.nx=nt at g4;generalize H3.add (.tup [.int p,.int (p+cs.length:Nat),.ref n])=H4 at f4 g4;refine aY f4.wf (by simp) λH5 nr f5 g5 u_ u_=>?_;have f35:=f4.trans f5;have h5:=h3.up f35;have f05:Fm (FS i tr L) H H5:=f03.trans (f35.aE λu_ q=>q.elim);have plen:=h5.len;rw[ji hp] at plen;refine xP (k:=k+1) h5.tp h5.good gr (hn3.up f3.wf f35) (b:=p) (e:=p+cs.length) (by lia) (by lia) (by lia) g5 (f5.at_ f4.wf g4 λq=>q) λH6 c L6 p6 t6 s6 g6 l6 id6 f6=>?_;have es:p+cs.length-p=cs.length:=by lia
   rw[es] at s6;have hs:=bx.set hps i2.same s6;refine K H6 L6 p6 ⟨h5.bf.tl h5.tp f6,t6,h5.ov.tl h5.tp.sq f6,h5.ru.tl h5.tp.sq f6,?_,g6⟩ ⟨r,hv,hs⟩ (by lia) ?_
   .refine wr (ji hp) (wr (hs.len.symm) (wr (h.len.symm) ?_));simp;exact KZ (by assumption)
   .refine f05.bG f6 λm hm e=>?_
    rcases e with e|e
    .exact .inr (.inl e)
    .rcases i2.ids m e with q|q
     .exact .inr (.inr q)
     .have:=f01.nx;lia
  .have hvs:vs=[]:=List.isEmpty_iff.mp hve;subst hvs;have hr:r=[]:=by induction r with|nil=>rfl|cons=>exact v2.elim
   subst hr;exact K H3 L2 p2 h3 ⟨[],hv,i2.same⟩ (by lia) f03
theorem iP (w:Wf H) (h:Bf H i txt pt .none .none gl) (hp:p<=txt.length) (hpt:pt=(p+1:Nat)) (hc:H.at_ nc=some (.list cs)) (ne:i.cl≠nc) (hci:∀v∈cs,∃j,v=V.int j) (hcs:cs≠[]) (hb:txt.length+gl+cs.length+8<=900)
  (K:∀H',Bf H' i (fL txt cs p) (pt+(cs.length:Nat)) .none .none (gl+8)->Fm (BS i) H H'->Q .none H'):ok (ae (aa (k+6)) "insert" [.ref i.bu,.ref nc]) Q H:=by
 refine gx (k:=k+1) w h hp hpt hc ne hci hb (λq=>absurd q hcs) λq H1 h1 f1=>P.uz<|fP h1.ob λtk ct a=>dZ a (bF ?_)
 refine kK a (bF ?_);exact⟨f1.wf,h1,f1.at_ w hc (nT h hc ne),λH3 h3 f3=>K H3 h3 (f1.trans f3)⟩
theorem ny (w:Wf H) (h:Bf H i txt pt .none .none gl) (hp:p<=txt.length) (hpt:pt=(p+1:Nat)) (hc:H.at_ nc=some (.list cs)) (ne:i.cl≠nc) (hci:∀v∈cs,∃j,v=V.int j) (hcs:cs≠[]) (hb:txt.length+gl+cs.length+8<=900)
  (K:∀H',Wf H'->Bf H' i (fL txt cs p) (pt+(cs.length:Nat)) .none .none (gl+8)->Q .none H'):ok (ae (aa (k+7)) "insert_inheriting" [.ref i.bu,.ref nc]) Q H:=by
 refine P.fO<|fP h.ob λtk ct a=>fq a<|aY w (by simp) λH0 n0 f0 g0 hn0 u_=>?_
 have h0:=h.up w f0;have hc0:=f0.at_ w hc λq=>q;refine fP h0.ob λtk0 ct0 a0=>dZ a0 (bF ?_);refine eZ h.gap λx y z gp u_=>?_;have nb:i.cl≠n0:=by refine wr (hn0.symm) ?_;exact fresh_ne w gp.li
 refine iP (k:=k) f0.wf h0 hp hpt hc0 ne hci hcs hb λH1 h1 f1=>?_;have g1:=f1.at_ f0.wf g0 (nT h0 g0 nb);refine aY f1.wf (by simp) λH2 n2 f2 g2 u_ u_=>KY (f2.at_ f1.wf g1 λq=>q) g2<|K H2 f2.wf (h1.up f1.wf f2)
end
end Mi
namespace Mi
open PySem
structure Dk (H:AH) (dk dl:Nat) (cells:List Int) (c:Nat):Prop where
 ob:H.at_ dk=some (.list [.ref dl,.int c])
 li:H.at_ dl=some (.list (cells.map V.int))
 bd:cells.length<=63
section
variable {H H':AH}{S:Nat->Prop}{k:Nat}{Q:KV}{QU:Unit->AH->Prop}{dk dl c:Nat}{cells:List Int}
theorem Dk.ne (h:Dk H dk dl cells c):dl≠dk:=λe=>by
 have h1:=h.ob;have h2:=h.li;rw[e,h1] at h2;have:=O.list.inj (Option.some.inj h2)
 rcases cells with _|⟨x,l⟩
 .cases this
 .exact JO (List.cons.inj this).1 rfl
theorem Dk.keep {X:Nat->Prop}(w:Wf H) (f:Fm X H H') (h:Dk H dk dl cells c) (h1:¬X dk) (h2:¬X dl):Dk H' dk dl cells c:=⟨f.at_ w h.ob h1,f.at_ w h.li h2,h.bd⟩
theorem Dk.up (w:Wf H) (f:Up H H') (h:Dk H dk dl cells c):Dk H' dk dl cells c:=h.keep w f (λq=>q) λq=>q
theorem Ef {x y:Int}(h:0<y) (h2:y<=1000000) (K:Q (.int (x.fmod y)) H):ok (dI .Mod (.int x) (.int y)) Q H:=by
 unfold dI;refine ah (aq (ah (aq ?_)));refine wr (if_pos ⟨h,h2⟩) ?_;exact aq K
theorem It {x y:Int}(h:0<y) (h2:y<=1000000) (h3:x.natAbs<=1000000000) (K:Q (.int (x.fdiv y)) H):ok (dI .FloorDiv (.int x) (.int y)) Q H:=by
 unfold dI;refine ah (aq (ah (aq ?_)));refine wr (if_pos ⟨h,h2,h3⟩) ?_;exact aq K
theorem Ip {x y:Int}(h:x.natAbs<=1000000) (h2:y.natAbs<=1000000):ok (dI .Mult (.int x) (.int y)) Q H=Q (.int (x*y)) H:=by
 refine cA ?_;show(if x.natAbs<=1000000/\y.natAbs<=1000000 then pure (.int (x*y)) else ak:AM V) H=_;refine wr (if_pos ⟨h,h2⟩) ?_;rfl
theorem lD {x y:Int}(h:x.natAbs<=1000000) (h2:y.natAbs<=1000000) (k_:Q (.int (x*y)) H):ok (dI .Mult (.int x) (.int y)) Q H:=(Ip h h2).mpr k_
theorem zS {n i:Nat}{l:List V}{v:V}(h:H.at_ n=some (.list l)) (hi:i<l.length) (hl:l.length<=1000) (K:QU () (H.put n (.list (l.set i v)))):ok (putItem (.ref n) (.int i) v) QU H:=by
 unfold putItem;refine ah (dK h ?_);dsimp only;refine wr (if_pos ⟨by exact Int.natCast_nonneg _,by rw[Int.toNat_natCast];exact hi⟩) (wr (Int.toNat_natCast _) (wr (vK (bp (by rw[List.length_set];exact hl))) ?_));exact K
theorem pP {m:Nat}(w:Wf H) (h:Dk H dk dl cells c) (hm:0<m) (hm2:m<=1000) (hc:c<=900)
  (K:∀(H':AH) (d:Nat),d<m->Dk H' dk dl cells (c+1)->Fm (λx=>x=dk) H H'->Q (.int d) H'):ok (ae (aa (k+1)) "_law_draw" [.ref dk,.int m]) Q H:=by
 refine P.CQ ?_;have bd:=h.bd;refine item_list (i:=1) h.ob (by decide) rfl<|aC<|zS (i:=1) h.ob (by simp) (by simp) ?_
 have e1:([V.ref dl,V.int (c:Nat)].set 1 (V.int ((c:Nat)+1)))=[.ref dl,.int ((c+1:Nat):Int)]:=by show[V.ref dl,V.int ((c:Nat)+1)]=_;congr 2
 refine wr e1 ?_;have f1:Fm (λx=>x=dk) H (H.put dk (.list [.ref dl,.int ((c+1:Nat):Int)])):=.put w h.ob rfl;have h1:Dk (H.put dk (.list [.ref dl,.int ((c+1:Nat):Int)])) dk dl cells (c+1):=⟨cL,by refine wr aK (wr (if_neg h.ne) ?_);exact h.li,h.bd⟩;generalize H.put dk (.list [.ref dl,.int ((c+1:Nat):Int)])=H1 at f1 h1;have fin_:∀x:Int,Q (.int (x.fmod m)) H1:=λx=>by
  have a:=Int.fmod_nonneg_of_pos x (b:=m) (by exact Int.ofNat_lt.mpr (by assumption));have b:=Int.fmod_lt_of_pos x (b:=m) (by exact Int.ofNat_lt.mpr (by assumption));refine wr ((Int.toNat_of_nonneg a).symm)<|K H1 _ ((Int.toNat_lt a).mpr b) h1 f1
 refine item_list (i:=1) h1.ob (by decide) rfl<|item_list (i:=0) h1.ob (by decide) rfl ?_
 refine aZ h1.li (kn ?_);refine wr (List.length_map _) ?_
 by_cases q:((c+1:Nat):Int)<=(cells.length:Nat)
 .refine aM (decide_eq_true q)<|item_list (i:=0) h1.ob (by decide) rfl<|item_list (i:=1) h1.ob (by decide) rfl<|aT ?_
  have e2:((c+1:Nat):Int)-1=(c:Nat):=by lia
  refine wr e2 ?_;refine item_list (v:=.int (cells[c]'(by exact Int.ofNat_lt.mp (by assumption)))) h1.li (by lia) (by refine wr (Int.toNat_natCast _) (wr (List.getElem?_map) (wr (List.getElem?_eq_getElem (by exact Int.ofNat_lt.mp (by assumption))) ?_));rfl) ?_;exact Ef (by exact Int.ofNat_lt.mpr (by assumption)) (by lia) (fin_ _)
 .refine aJ (decide_eq_false q)<|item_list (i:=1) h1.ob (by decide) rfl<|item_list (i:=1) h1.ob (by decide) rfl ?_
  have cc:(c+1)*(c+1)<=901*901:=Nat.mul_le_mul (by lia) (by lia);have e3:((c+1:Nat):Int)*((c+1:Nat):Int)=(((c+1)*(c+1):Nat):Int):=wr (Int.natCast_mul _ _) rfl;have s1:(c+1)<=1000000:=by lia
  refine lD s1 s1 ?_;refine wr e3 ?_;refine lD (Nat.le_trans cc (by decide)) (by decide) ?_;refine item_list (i:=1) h1.ob (by decide) rfl<|lD (by decide) s1 (aC ?_)
  refine item_list (i:=0) h1.ob (by decide) rfl ?_;have lc:cells.length<=1000:=Nat.le_trans (by assumption) (by decide);refine aZ h1.li (lD (by decide) (by refine wr (List.length_map _) ?_;exact Nat.le_trans lc (by decide)) (aC ?_));refine wr (List.length_map _) ?_;have s2:(c+1)*(c+1)*43+17*(c+1)+3*cells.length<=1000000000:=by lia
  refine It (by decide) (by decide) s2<|Ef (by exact Int.ofNat_lt.mpr (by assumption)) (by lia) (fin_ _)
end
end Mi
namespace Mi
open PySem
def w8 (ks:List Int) (p:aO):Prop:=(p.map (·.1)).Sublist ks/\∀e∈p,cY e.1=true->oG e.2
theorem w8.skip {ks:List Int}{p:aO}{x:Int}(h:w8 ks p):w8 (ks++[x]) p:=⟨h.1.trans (List.sublist_append_left _ _),h.2⟩
theorem w8.add {ks:List Int}{p:aO}{x:Int}{y:PV}(h:w8 ks p) (hy:cY x=true->oG y):w8 (ks++[x]) (p++[(x,y)]):=by
 refine⟨by refine wr List.map_append ?_;exact h.1.append (List.Sublist.refl _),λe he ho=>?_⟩
 rcases List.mem_append.mp he with he|he
 .exact h.2 e he ho
 .simp at he;rw[he] at ho⊢;exact hy ho
theorem w8.good {p:aO}(h:w8 [1,2,3,101,102] p):Good p:=by
 refine⟨(by decide:([1,2,3,101,102]:List Int).Nodup).sublist h.1,λe he=>?_,h.2⟩;have:=h.1.subset (List.mem_map_of_mem (f:=(·.1)) he);simp at this;exact this
section
variable {H H':AH}{S:Nat->Prop}{k:Nat}{Q:KV}{QU:Unit->AH->Prop}{dk dl c n:Nat}{cells:List Int}{p:aO}{ks:List Int}
theorem PL.LX (h:Dk H dk dl cells c) (x:PL H n p):n≠dk:=λe=>by
 refine be x λvs h1 h2 u_=>?_;rw[e,h.ob] at h1;obtain rfl:=O.list.inj (Option.some.inj h1);have hl:=h2.len
 rcases p with _|⟨a,p⟩
 .simp at hl
 .refine eZ (h2.get (i:=1) (v:=.int c) rfl) λm a' e' e1 u_=>JO e1 rfl
theorem A3 (w:Wf H) (h:Dk H dk dl cells c) (f:Fm (λx=>x=dk) H H'):TK H H':=.of w f λm l hm q=>by rw[q,h.ob] at hm;exact nO hm rfl
theorem PL.G8 (w:Wf H) (h:Dk H dk dl cells c) (f:Fm (λx=>x=dk) H H') (x:PL H n p):PL H' n p:=x.keep (A3 w h f) λl e=>f.at_ w e (x.LX h)
theorem Cz {m:Nat}{x:Int}{a:V}{y:PV}(w:Wf H) (h:PL H n p) (hm:H.at_ m=some (.tup [.int x,a])) (ha:VP H a y) (hb:p.length+1<=100) (K:∀H',PL H' n (p++[(x,y)])->Fm (λz=>z=n) H H'->Q .none H'):
  ∃o',H.at_ n=some o'/\ok (jm .append n o' [.ref m]) Q H:=by
 refine be h λvs h1 h2 h3=>⟨_,h1,?_⟩;show ok (do eB n (.list (vs++[.ref m]));pure V.none) Q H;have hl:=h2.len;refine ah ?_;refine eO (bp (by simp;exact Nat.le_trans (Nat.le_of_eq (by assumption)) (Nat.le_trans (by assumption) (by decide)))) ?_;refine aq ?_;have f:Fm (λz=>z=n) H (H.put n (.list (vs++[.ref m]))):=.put w h1 rfl;have t:TK H (H.put n (.list (vs++[.ref m]))):=.of w f λm' l hm' q=>by rw[q,h1] at hm';exact nO hm' rfl
 exact K _ ⟨_,cL,(h2.tk t).app ⟨⟨m,a,rfl,t _ _ hm,ha.tk t⟩,trivial⟩,by simp;exact Nat.le_trans (Nat.le_of_lt_succ (by assumption)) (by decide)⟩ f
noncomputable def pV (dk:Nat) (f:Int) (n:Nat) (o1 o2 o3:Option V):ao:=[("deck",some (.ref dk)),("first",some (.int f)),("plist",some (.ref n)),("number",o1),("way",o2),("some",o3)]
structure PI (H0 H:AH) (dk dl n:Nat) (cells:List Int) (c0 cm:Nat) (ks:List Int) (p:aO):Prop where
 ex:∃c,Dk H dk dl cells c/\c<=c0+cm
 pl:PL H n p
 hf:w8 ks p
 fm:Fm (λx=>x=dk) H0 H
 lt:dl<H0.nx
theorem PI.dr {H0:AH}{c0 cm m:Nat}(h:PI H0 H dk dl n cells c0 cm ks p) (hm:0<m) (hm2:m<=1000) (hc:c0+cm<=900) (K:∀(H':AH) (d:Nat),d<m->PI H0 H' dk dl n cells c0 (cm+1) ks p->H.nx<=H'.nx->(∀x l,H.at_ x=some (.tup l)->H'.at_ x=some (.tup l))->Q (.int d) H'):ok (ae (aa (k+1)) "_law_draw" [.ref dk,.int m]) Q H:=by
 obtain⟨⟨c,d1,d2⟩,d3,d4,d5,d6⟩:=h;refine pP (k:=k) d5.wf d1 hm hm2 (by exact Nat.le_trans (by assumption) (by assumption)) λH1 d hd h1 f1=>K H1 d hd ⟨⟨_,h1,by lia⟩,d3.G8 d5.wf d1 f1,d4,d5.trans f1,d6⟩ f1.nx (A3 d5.wf d1 f1)
theorem PI.up {H0:AH}{c0 cm:Nat}(h:PI H0 H dk dl n cells c0 cm ks p) (f:Up H H'):PI H0 H' dk dl n cells c0 cm ks p:=by
 obtain⟨⟨c,d1,d2⟩,d3,d4,d5,d6⟩:=h;exact⟨⟨c,d1.up d5.wf f,d2⟩,d3.up d5.wf f,d4,d5.trans (f.aE λu_ q=>q.elim),d6⟩
theorem PI.ap {H0:AH}{c0 cm m:Nat}{x:Int}{a:V}{y:PV}(h:PI H0 H dk dl n cells c0 cm ks p) (hn:H0.nx<=n) (hm:H.at_ m=some (.tup [.int x,a])) (ha:VP H a y) (hb:p.length+1<=100) (hy:cY x=true->oG y)
  (K:∀H',PI H0 H' dk dl n cells c0 cm (ks++[x]) (p++[(x,y)])->TK H H'->Q .none H'):∃o',H.at_ n=some o'/\ok (jm .append n o' [.ref m]) Q H:=by
 obtain⟨⟨c,d1,d2⟩,d3,d4,d5,d6⟩:=h;refine Cz d5.wf d3 hm ha hb λH1 p1 f1=>K H1 ⟨⟨c,d1.keep d5.wf f1 (d3.LX d1).symm λq=>by lia,d2⟩,p1,d4.add hy,d5.bG f1 λm hm q=>by subst q;lia,d6⟩ (.of d5.wf f1 λm l hm q=>by refine bW d3 λvs h1 u_=>?_;rw[q,h1] at hm;exact nO hm rfl)
def IA (H0:AH) (dk dl n vs c0:Nat) (f:Int) (cells:List Int) (j:Nat) (ρ:ao) (H2:AH):Prop:=∃p o1 o2 o3,ρ=pV dk f n o1 o2 o3/\PI H0 H2 dk dl n cells c0 j (([1,2,3]:List Int).take j) p/\H2.at_ vs=some (.tup [.int 1,.int 2,.int 3])
theorem Im {H0:AH}{c0:Nat}{f:Int}(w:Wf H0) (hD:Dk H0 dk dl cells c0) (hc:c0+11<=900) {vs:Nat}(ht:H.at_ vs=some (.tup [.int 1,.int 2,.int 3])) (hn:H0.nx<=n) (h:PI H0 H dk dl n cells c0 0 [] [])
  {Q:Fl×ao->AH->Prop} (K:∀H' p o1 o2 o3,PI H0 H' dk dl n cells c0 3 [1,2,3] p->Q (.next,pV dk f n o1 o2 o3) H'):
  ok (d9 (aa (k+1)) (fD "_law_plist") 7 [1] (.ref vs) (1,[.int 1,.int 2,.int 3]) (pV dk f n none none none)) Q H:=by
 refine dJ (I:=IA H0 dk dl n vs c0 f cells) ⟨[],_,_,_,rfl,h,ht⟩ ?_ ?_ (by kernel_rfl) ?_ ?_
 .intro v hv;simp at hv;rcases hv with rfl|rfl|rfl<;>rfl
 .rintro j ρ H2 ⟨p,o1,o2,o3,-,-,h2⟩;exact dB h2
 .rintro j ρ H2 u hu ⟨p,o1,o2,o3,rfl,h2,t2⟩
  unfold pV;refine P.yt ?_;obtain⟨x,hx,ex,eo⟩:∃x:Int,u=.int x/\([1,2,3]:List Int).take (j+1)=([1,2,3]:List Int).take j++[x]/\cY x=false/\j<3:=by
   match j,hu with
   |0,hu=>obtain rfl:=Option.some.inj hu;exact⟨1,rfl,rfl,by decide,by exact Nat.succ_pos _⟩
   |1,hu=>obtain rfl:=Option.some.inj hu;exact⟨2,rfl,rfl,by decide,by decide⟩
   |2,hu=>obtain rfl:=Option.some.inj hu;exact⟨3,rfl,rfl,by decide,by exact Nat.le_refl _⟩
   |j+3,hu=>simp at hu
  subst hx;refine h2.dr (k:=k) (m:=4) (by exact Nat.succ_pos _) (by decide) (by lia) λH3 d hd h3 nx3 tp3=>?_;have t3:=tp3 _ _ t2;refine bN ?_
  by_cases q:((d:Nat):Int)>0
  .refine aM (decide_eq_true q)<|be (id h3.pl) λws w1 w2 w3=>dA (m:=.append) w1 (by kernel_rfl) rfl<|aC<|aY h3.fm.wf (by simp) λH4 n4 f4 g4 u_ u_=>?_
   have h4:=h3.up f4;refine aT ?_;obtain⟨v,y,hv,hy⟩:∃v y,([V.none,.int 0,.int (f+x)])[((d:Int)-1).toNat]? =some v/\∀H,VP H v y:=by
    have:d=1\/d=2\/d=3:=by lia
    rcases this with rfl|rfl|rfl
    .exact⟨.none,.none,rfl,λu_=>trivial⟩
    .exact⟨.int 0,.int 0,rfl,λu_=>rfl⟩
    .exact⟨.int (f+x),.int (f+x),rfl,λu_=>rfl⟩
   refine item_list g4 (by lia) hv<|aB (by rfl) ?_
   have f5:Up H4 (H4.add (.tup [.int x,v])):=.add h4.fm.wf;have g5:(H4.add (.tup [.int x,v])).at_ H4.nx=some (.tup [.int x,v]):=ar;have h5:=h4.up f5;have t5:=f5.at_ h4.fm.wf (f4.at_ h3.fm.wf t3 λq=>q) λq=>q;generalize H4.nx=n5 at g5;generalize H4.add (.tup [.int x,v])=H5 at f5 g5 h5 t5;have hlen:p.length<=j:=by have:=h2.hf.1.length_le;simp at this;lia
   refine h5.ap hn g5 (hy _) (by lia) (λq=>by rw[eo.1] at q;exact nb q) λH6 h6 tk6=>?_;exact⟨_,_,_,_,rfl,by refine wr ex ?_;exact h6,tk6 _ _ t5⟩
  .refine aJ (decide_eq_false q)<|⟨p,_,_,_,rfl,?_,t3⟩
   obtain⟨a,b,c,e,l⟩:=h3;exact⟨a,b,by refine wr ex ?_;exact c.skip,e,l⟩
 .rintro ρ H2 ⟨p,o1,o2,o3,rfl,h2,-⟩
  exact K H2 p o1 o2 o3 h2
end
end Mi
namespace Mi
open PySem
section
variable {H H':AH}{S:Nat->Prop}{k:Nat}{Q:KV}{dk dl c n:Nat}{cells:List Int}{p:aO}{ks:List Int}
theorem DM {tab:Tab}{nx:Nat}{X:List Int}{x:Int}{f:Int}{o1 o2:V}{Kc:V->AH->Prop}(w:Wf H) (hx:H.at_ nx=some (.list (X.map V.int))) (hX:X.length<=100)
  (K:∀H' m a,Up H H'->H'.at_ m=some (.tup [.int x,a])->VP H' a (.lst X)->Kc (.ref m) H'):
  ok (ba (.tup [(V.str "list")])) (λx10 H=>ok (aF (.ref nx)) (λl11 H=>ok (dC tab (fD "_law_plist") 19 [2,0,2,0,1] 0 [("deck",some (.ref dk)),("first",some (.int f)),("plist",some (.ref n)),("number",some o1),("way",some o2),("some",some (.ref nx))] (.ref nx) l11) (λout12 H=>ok (ba (.list out12)) (λx13 H=>ok (cE .tuple [x13]) (λx14 H=>ok (dI .Add x10 x14) (λx15 H=>ok (ba (.tup [.int x,x15])) Kc H) H) H) H) H) H) H:=by
 refine aB (by kernel_rfl) ?_;have f1:Up H (H.add (.tup [.str "list"])):=.add w;have g1:(H.add (.tup [.str "list"])).at_ H.nx=some (.tup [.str "list"]):=ar;have x1:=f1.at_ w hx λq=>q;generalize H.nx=n1 at g1;generalize H.add (.tup [.str "list"])=H1 at f1 g1 x1;refine cz (aD x1)<|ee (I:=λj acc ρ H2=>Up H1 H2/\(∃oc,ρ=(([(".0",none),("own",oc)]:ao)++([("deck",some (.ref dk)),("first",some (.int f)),("plist",some (.ref n)),("number",some o1),("way",some o2),("some",some (.ref nx))]:ao)))/\gF H2 acc (X.take j)) ⟨.refl f1.wf,⟨_,P.vW _ _ _ _ _ _⟩,trivial⟩ ?_ ?_ (by kernel_rfl) ?_ ?_
 .intro u hu;obtain⟨y,-,rfl⟩:=List.mem_map.mp hu;rfl
 .rintro j acc ρ H2 ⟨f,-⟩
  exact aD (f.at_ f1.wf x1 λq=>q)
 .rintro j acc ρ H2 u hu ⟨f,⟨oc,rfl⟩,h0⟩
  obtain⟨y,hy,rfl⟩:∃y,X[j]? =some y/\u=.int y:=by
   have hu:(X.map V.int)[j]? =some u:=hu;rw[List.getElem?_map] at hu;revert hu;generalize X[j]? =o_;rcases o_ with _|y
   .intro hu;exact ns hu
   .intro hu;obtain rfl:=Option.some.inj hu;exact⟨y,rfl,rfl⟩
  refine wr (P.yy _ _ _ _ _ _ _ _ _ _ _) ?_;refine aB (by kernel_rfl) ?_;have f2:Up H2 (H2.add (.tup [.str "symbol",.int y])):=.add f.wf;refine⟨f.trans f2,⟨_,rfl⟩,?_⟩;refine wr List.take_add_one (wr hy ?_);exact(h0.tk (Up.tk f.wf f2)).app ⟨⟨_,rfl,ar⟩,trivial⟩
 .rintro acc ρ H2 ⟨f,-,h0⟩
  have e:((0,X.map V.int):Nat×List V).2.length=X.length:=List.length_map _;rw[e,List.take_length] at h0;have hl:=h0.len;have u2:=f1.trans f;have g2:=f.at_ f1.wf g1 λq=>q;refine aY f.wf (by exact Nat.le_trans (Nat.le_of_eq (by assumption)) (Nat.le_trans (by assumption) (by decide))) λH3 n3 f3 g3 u_ u_=>yc g3 (by exact Nat.le_trans (Nat.le_of_eq (by assumption)) (Nat.le_trans (by assumption) (by decide))) ?_;have f4:Up H3 (H3.add (.tup acc)):=.add f3.wf;have g4:(H3.add (.tup acc)).at_ H3.nx=some (.tup acc):=ar;have f24:=f3.trans f4;have g2':=f24.at_ f.wf g2 λq=>q;have h4:=h0.tk (Up.tk f.wf f24);have u4:=u2.trans f24;generalize H3.nx=n4 at g4;generalize H3.add (.tup acc)=H4 at f4 g4 f24 g2' h4 u4;have done_:∀{H5:AH} {a:V},Up H4 H5->VP H5 a (.lst X)->ok (ba (.tup [.int x,a])) Kc H5:=λ{H5 a} f5 hv=>by
   refine aB (by rfl) ?_;have f6:Up H5 (H5.add (.tup [.int x,a])):=.add f5.wf;exact K _ _ a ((u4.trans f5).trans f6) ar (hv.up f5.wf f6)
  rcases acc with _|⟨v,vs⟩
  .have hX0:X=[]:=by induction X with|nil=>rfl|cons=>exact h4.elim
   subst hX0;have e2:ok (dI .Add (.ref n1) (.ref n4)) (λx15 H=>ok (ba (.tup [.int x,x15])) Kc H) H4:=by
    unfold dI;refine ah (dK g2' (ah (dK g4 ?_)));exact aq (done_ (.refl u4.wf) ⟨[],g2',trivial,by simp⟩)
   exact e2
  .refine qW (vs:=[]) g2' g4 (by simp at hl⊢;lia) ?_;have f5:Up H4 (H4.add (.tup ([.str "list"]++v::vs))):=.add u4.wf;exact done_ f5 ⟨v::vs,by refine wr ar ?_;rfl,h4.tk (Up.tk u4.wf f5),hX⟩
theorem PI.more {H0:AH}{c0 cm cm':Nat}(h:PI H0 H dk dl n cells c0 cm ks p) (hc:cm<=cm'):PI H0 H dk dl n cells c0 cm' ks p:=by
 obtain⟨⟨c,d1,d2⟩,d3,d4,d5,d6⟩:=h;exact⟨⟨c,d1,by lia⟩,d3,d4,d5,d6⟩
theorem Cb {H0:AH}{c0 cm:Nat}{f:Int}{o1 o2:V}{o3:Option V}{vs:Nat}{Q:List V->AH->Prop}(hc:c0+cm+3<=900) (h:PI H0 H dk dl n cells c0 cm ks p) (ht:H.at_ vs=some (.tup [.int 1,.int 2,.int 3]))
  (K:∀(H':AH) (X:List Int),PI H0 H' dk dl n cells c0 (cm+3) ks p->X.length<=3->(∀x l,H.at_ x=some (.tup l)->H'.at_ x=some (.tup l))->Q (X.map V.int) H'):
  ok (dC (aa (k+1)) (fD "_law_plist") 24 [2,0,2,0,0] 0 [("deck",some (.ref dk)),("first",some (.int f)),("plist",some (.ref n)),("number",some o1),("way",some o2),("some",o3)] (.ref vs) (1,[.int 1,.int 2,.int 3])) Q H:=by
 refine ee (I:=λj acc ρ H2=>(∃oc,ρ=(([(".0",none),("own",oc)]:ao)++([("deck",some (.ref dk)),("first",some (.int f)),("plist",some (.ref n)),("number",some o1),("way",some o2),("some",o3)]:ao)))/\(∃X:List Int,acc=X.map V.int/\X.length<=j)/\PI H0 H2 dk dl n cells c0 (cm+j) ks p/\∀x l,H.at_ x=some (.tup l)->H2.at_ x=some (.tup l)) ⟨⟨_,P.vX _ _ _ _ _ _⟩,⟨[],rfl,Nat.le_refl _⟩,h,λu_ u_ e=>e⟩ ?_ ?_ (by kernel_rfl) ?_ ?_
 .intro v hv;simp at hv;rcases hv with rfl|rfl|rfl<;>rfl
 .rintro j acc ρ H2 ⟨-,-,-,tk⟩;exact dB (tk _ _ ht)
 .rintro j acc ρ H2 u hu ⟨⟨oc,rfl⟩,⟨X,rfl,hX⟩,h2,tk⟩
  refine wr (P.yz _ _ _ _ _ _ _ _ _ _ _) ?_;obtain⟨x,rfl,hj⟩:∃x:Int,u=.int x/\j<3:=by
   match j,hu with
   |0,hu=>obtain rfl:=Option.some.inj hu;exact⟨1,rfl,by exact Nat.succ_pos _⟩
   |1,hu=>obtain rfl:=Option.some.inj hu;exact⟨2,rfl,by decide⟩
   |2,hu=>obtain rfl:=Option.some.inj hu;exact⟨3,rfl,by exact Nat.le_refl _⟩
   |j+3,hu=>simp at hu
  refine h2.dr (k:=k) (m:=2) (by exact Nat.succ_pos _) (by decide) (by lia) λH3 d hd h3 nx3 tp3=>ej ?_
  by_cases q:((d:Nat):Int)=1
  .refine aM (show(((d:Nat):Int)==1)=true from beq_iff_eq.mpr q) ?_;exact⟨⟨_,rfl⟩,⟨X++[x],by simp,by simp;assumption⟩,h3,λx l e=>tp3 _ _ (tk _ _ e)⟩
  .refine aJ (show(((d:Nat):Int)==1)=false from beq_eq_false_iff_ne.mpr q)<|⟨⟨_,rfl⟩,⟨X,by simp,by exact Nat.le_add_right_of_le (by assumption)⟩,h3,λx l e=>tp3 _ _ (tk _ _ e)⟩
 .rintro acc ρ H2 ⟨-,⟨X,rfl,hX⟩,h2,tk⟩
  exact K H2 X h2 hX tk
end
end Mi
namespace Mi
open PySem
section
variable {H H':AH}{S:Nat->Prop}{k:Nat}{Q:KV}{dk dl c n:Nat}{cells:List Int}{p:aO}{ks:List Int}
theorem take2 {j:Nat}{u:V}(hu:([V.int 101,.int 102])[j]? =some u):∃x:Int,u=.int x/\([101,102]:List Int).take (j+1)=([101,102]:List Int).take j++[x]/\j<2:=by
 match j,hu with
 |0,hu=>obtain rfl:=Option.some.inj hu;exact⟨101,rfl,rfl,by exact Nat.succ_pos _⟩
 |1,hu=>obtain rfl:=Option.some.inj hu;exact⟨102,rfl,rfl,by exact Nat.le_refl _⟩
 |j+2,hu=>simp at hu
def IB (H0:AH) (dk dl n vs c0:Nat) (f:Int) (cells:List Int) (j:Nat) (ρ:ao) (H2:AH):Prop:=∃p o1 o2 o3,ρ=pV dk f n o1 o2 o3/\PI H0 H2 dk dl n cells c0 (3+4*j) ([1,2,3]++([101,102]:List Int).take j) p/\H2.at_ vs=some (.tup [.int 101,.int 102])
theorem Il {H0:AH}{c0:Nat}{f:Int}{vs:Nat}{o1 o2 o3:Option V}(hc:c0+11<=900) (ht:H.at_ vs=some (.tup [.int 101,.int 102])) (hn:H0.nx<=n) (h:PI H0 H dk dl n cells c0 3 [1,2,3] p)
  {Q:Fl×ao->AH->Prop} (K:∀H' p o1 o2 o3,PI H0 H' dk dl n cells c0 11 [1,2,3,101,102] p->Q (.next,pV dk f n o1 o2 o3) H'):
  ok (d9 (aa (k+1)) (fD "_law_plist") 7 [2] (.ref vs) (1,[.int 101,.int 102]) (pV dk f n o1 o2 o3)) Q H:=by
 refine dJ (I:=IB H0 dk dl n vs c0 f cells) ⟨p,_,_,_,rfl,h,ht⟩ ?_ ?_ (by kernel_rfl) ?_ ?_
 .intro v hv;simp at hv;rcases hv with rfl|rfl<;>rfl
 .rintro j ρ H2 ⟨p,o1,o2,o3,-,-,h2⟩;exact dB h2
 .rintro j ρ H2 u hu ⟨p,o1,o2,o3,rfl,h2,t2⟩
  unfold pV;refine P.yr<|be (take2 hu) λx hx ex hj=>?_
  subst hx;have hlen:p.length<=3+j:=by have:=h2.hf.1.length_le;simp at this;lia
  have exx:([1,2,3]++([101,102]:List Int).take j)++[x]=[1,2,3]++([101,102]:List Int).take (j+1):=wr ex (wr (List.append_assoc _ _ _) rfl);refine h2.dr (k:=k) (m:=5) (by exact Nat.succ_pos _) (by decide) (by lia) λH3 d hd h3 nx3 tp3=>?_;have t3:=tp3 _ _ t2;refine ej ?_
  by_cases q:((d:Nat):Int)=1
  .refine aM (show(((d:Nat):Int)==1)=true from beq_iff_eq.mpr q)<|be (id h3.pl) λws w1 w2 w3=>dA (m:=.append) w1 (by kernel_rfl) rfl<|aB (by rfl) ?_
   have f5:Up H3 (H3.add (.tup [.int x,.bool true])):=.add h3.fm.wf;have g5:(H3.add (.tup [.int x,.bool true])).at_ H3.nx=some (.tup [.int x,.bool true]):=ar;have h5:=h3.up f5;have t5:=f5.at_ h3.fm.wf t3 λq=>q;generalize H3.nx=n5 at g5;generalize H3.add (.tup [.int x,.bool true])=H5 at f5 g5 h5 t5;refine h5.ap (y:=.tt) hn g5 rfl (by lia) (λu_=>trivial) λH6 h6 tk6=>?_;refine bN ?_;refine aJ (decide_eq_false (by lia)) ?_;exact⟨_,_,_,_,rfl,by refine wr (exx.symm) ?_;exact h6.more (by lia),tk6 _ _ t5⟩
  .refine aJ (show(((d:Nat):Int)==1)=false from beq_eq_false_iff_ne.mpr q)<|bN ?_
   by_cases q2:((d:Nat):Int)>2
   .refine aM (decide_eq_true q2)<|aB (by rfl) ?_
    have f4:Up H3 (H3.add (.tup [.int 1,.int 2,.int 3])):=.add h3.fm.wf;have g4:(H3.add (.tup [.int 1,.int 2,.int 3])).at_ H3.nx=some (.tup [.int 1,.int 2,.int 3]):=ar;have h4:=h3.up f4;have t4:=f4.at_ h3.fm.wf t3 λq=>q;generalize H3.nx=n4 at g4;generalize H3.add (.tup [.int 1,.int 2,.int 3])=H4 at f4 g4 h4 t4;refine cz (dB g4)<|Cb (k:=k) (by lia) h4 g4 λH5 X h5 hX tk5=>?_
    have t5:=tk5 _ _ t4;refine aY h5.fm.wf (by simp;exact Nat.le_add_left_of_le (by assumption)) λH6 n6 f6 g6 u_ u_=>?_;have h6:=h5.up f6;have t6:=f6.at_ h5.fm.wf t5 λq=>q;refine be (id h6.pl) λws w1 w2 w3=>dA (m:=.append) w1 (by kernel_rfl) rfl<|DM h6.fm.wf g6 (by exact Nat.le_trans (by assumption) (by decide)) λH7 m a f7 g7 hv=>?_
    have h7:=h6.up f7;have t7:=f7.at_ h6.fm.wf t6 λq=>q;refine h7.ap (y:=.lst X) hn g7 hv (by lia) (λu_=>trivial) λH8 h8 tk8=>?_;exact⟨_,_,_,_,rfl,by refine wr (exx.symm) ?_;exact h8.more (by exact Nat.le_refl _),tk8 _ _ t7⟩
   .refine aJ (decide_eq_false q2)<|⟨p,_,_,_,rfl,?_,t3⟩
    obtain⟨a,b,c,e,l⟩:=h3.more (cm':=3+4*(j+1)) (by lia);exact⟨a,b,by refine wr (exx.symm) ?_;exact c.skip,e,l⟩
 .rintro ρ H2 ⟨p,o1,o2,o3,rfl,h2,-⟩
  exact K H2 p o1 o2 o3 h2
theorem wa {f:Int}(w:Wf H) (h:Dk H dk dl cells c) (hc:c+11<=900)
  (K:∀H' n p c',PL H' n p->Good p->Dk H' dk dl cells c'->c'<=c+11->H.nx<=n->Fm (λx=>x=dk) H H'->Q (.ref n) H'):ok (ae (aa (k+2)) "_law_plist" [.ref dk,.int f]) Q H:=by
 refine P.Ag<|aY w (by simp) λH1 n f1 g1 hn1 u_=>?_
 have h1:=h.up w f1;have ltl:dl<H.nx:=w.lt h.li;refine aB (by rfl) ?_;have f2:Up H1 (H1.add (.tup [.int 1,.int 2,.int 3])):=.add f1.wf;have g2:(H1.add (.tup [.int 1,.int 2,.int 3])).at_ H1.nx=some (.tup [.int 1,.int 2,.int 3]):=ar;have l2:=f2.at_ f1.wf g1 λq=>q;have h2:=h1.up f1.wf f2;generalize H1.nx=n2 at g2;generalize H1.add (.tup [.int 1,.int 2,.int 3])=H2 at f2 g2 l2 h2;refine cz (dB g2) ?_;have p2:PI H H2 dk dl n cells c 0 [] []:=⟨⟨c,h2,Nat.le_refl _⟩,⟨[],l2,trivial,by simp⟩,⟨by simp,λu_ h=>(nomatch h)⟩,(f1.trans f2).aE λu_ q=>q.elim,ltl⟩;have hn:H.nx<=n:=by lia
 refine Im (k:=k) w h hc g2 hn p2 λH3 p o1 o2 o3 p3=>?_;unfold pV;refine P.yB ?_;refine aB (by rfl) ?_;have f4:Up H3 (H3.add (.tup [.int 101,.int 102])):=.add p3.fm.wf;have g4:(H3.add (.tup [.int 101,.int 102])).at_ H3.nx=some (.tup [.int 101,.int 102]):=ar;have p4:=p3.up f4;generalize H3.nx=n4 at g4;generalize H3.add (.tup [.int 101,.int 102])=H4 at f4 g4 p4;refine cz (dB g4)<|Il (k:=k) hc g4 hn p4 λH5 p' o1 o2 o3 p5=>?_
 unfold pV;refine P.yA ?_;obtain⟨⟨c',d1,d2⟩,d3,d4,d5,d6⟩:=p5;exact K H5 n p' c' d3 d4.good d1 d2 hn d5
end
end Mi
namespace Mi
open PySem
section
variable {H H' Hb:AH}{S:Nat->Prop}{k:Nat}{Q:KV}{QU:Unit->AH->Prop}{n:Nat}{c:Str}
theorem eM {fs:List (Str×V)}{f:Str}{v:V}(x:Fm (λm=>m=n) Hb H) (g:H.at_ n=some (.inst c fs)) (hf:fld c f=true) (hl:Nat.ble (dM fs f v).length 100=true)
  (K:∀H',Fm (λm=>m=n) Hb H'->H'.at_ n=some (.inst c (dM fs f v))->QU () H'):ok (bZ (.ref n) f v) QU H:=by
 refine eP g hf hl<|K _ (x.trans (.put x.wf g rfl)) cL
theorem zW {nc:Nat}(w:Wf H) (hc:H.at_ nc=some (.list [])) (K:∀H' g c,oQ H' g c [] (rep [V.int 0] 8) []->Up H H'->H.nx<=g->H.nx<=c->Q (.ref g) H'):ok (ae (aa (k+1)) "GapText" [.ref nc,.int 8]) Q H:=by
 refine P.Dv (dO (P.r9 ?_));have f1:Up H (H.add (.inst "GapText" [])):=.add w;have g1:(H.add (.inst "GapText" [])).at_ H.nx=some (.inst "GapText" []):=ar;have c1:=f1.at_ w hc λq=>q;generalize H.add (.inst "GapText" [])=H1 at f1 g1 c1;refine eM (.refl f1.wf) g1 (by kernel_rfl) (by kernel_rfl) λH2 f2 g2=>?_;have n1:nc≠H.nx:=fresh_ne w hc;have c2:=f2.at_ f1.wf c1 n1;refine fW c2 (by simp) ?_;have f3:Up H2 (H2.add (.list [])):=.add f2.wf;have g3:(H2.add (.list [])).at_ H2.nx=some (.list []):=ar;generalize H2.nx=a3 at g3;generalize H2.add (.list [])=H3 at f3 g3;refine aB (by rfl) ?_;have f4:Up H3 (H3.add (.list [.int 0])):=.add f3.wf;have g4:(H3.add (.list [.int 0])).at_ H3.nx=some (.list [.int 0]):=ar;have g34:=f4.at_ f3.wf g3 λq=>q;generalize H3.nx=a4 at g4;generalize H3.add (.list [.int 0])=H4 at f4 g4 g34;refine vL (n:=8) g4 (by decide) (by simp) ?_;have f5:Up H4 (H4.add (.list (rep [.int 0] 8))):=.add f4.wf;have g5:(H4.add (.list (rep [.int 0] 8))).at_ H4.nx=some (.list (rep [.int 0] 8)):=ar;have g35:=f5.at_ f4.wf g34 λq=>q;generalize H4.nx=a5 at g5;generalize H4.add (.list (rep [.int 0] 8))=H5 at f5 g5 g35;refine jB g35 g5 (by refine wr (List.nil_append _) (wr lC ?_);simp) ?_;have f6:Up H5 (H5.add (.list ([]++rep [.int 0] 8))):=.add f5.wf;have g6:(H5.add (.list ([]++rep [.int 0] 8))).at_ H5.nx=some (.list ([]++rep [.int 0] 8)):=ar;have f36:=f3.trans (f4.trans (f5.trans f6));have b6:H2.nx<=H5.nx:=(f3.trans (f4.trans f5)).nx;generalize H5.nx=cl at g6 b6;generalize H5.add (.list ([]++rep [.int 0] 8))=H6 at f6 g6 f36;have f26:Fm (λm=>m=H.nx) H1 H6:=f2.trans (f36.aE λu_ q=>q.elim);have g26:=f36.at_ f2.wf g2 λq=>q;have b0:H.nx<cl:=by have:=f2.wf.lt g2;exact Nat.le_trans (by assumption) (by assumption)
 refine eM (.refl f6.wf) g26 (by kernel_rfl) (by kernel_rfl) λH7 f7 g7=>?_;have c6:=f26.at_ f1.wf c1 n1;refine aZ (f7.at_ f6.wf c6 n1)<|eM f7 g7 (by kernel_rfl) (by kernel_rfl) λH8 f8 g8=>aZ (f8.at_ f6.wf c6 n1) (aC ?_)
 refine eM f8 g8 (by kernel_rfl) (by kernel_rfl) λH9 f9 g9=>?_;refine⟨rfl,K H9 H.nx cl ⟨g9.trans (congrArg some (by kernel_rfl)),f9.at_ f6.wf g6 (by exact Nat.ne_of_gt (by assumption)),by refine wr lC ?_;simp,λv hv=>?_,by simp[rep]⟩ ?_ (Nat.le_refl _) (by exact Nat.le_of_lt (by assumption))⟩
 .exact⟨0,by simpa [rep] using hv⟩
 .exact f1.bG (f26.trans f9) λm hm q=>by lia
theorem vS (w:Wf H) (K:∀H' m r,H'.at_ m=some (Kj r)->H'.at_ r=some (.dict [])->Up H H'->H.nx<=m->H.nx<=r->Q (.ref m) H'):ok (ae (aa (k+1)) "Markers" []) Q H:=by
 refine P.Du (dO (P.rW ?_));have f1:Up H (H.add (.inst "Markers" [])):=.add w;have g1:(H.add (.inst "Markers" [])).at_ H.nx=some (.inst "Markers" []):=ar;generalize H.add (.inst "Markers" [])=H1 at f1 g1;refine aB (by rfl) ?_;have f2:Up H1 (H1.add (.dict [])):=.add f1.wf;have g2:(H1.add (.dict [])).at_ H1.nx=some (.dict []):=ar;have g12:=f2.at_ f1.wf g1 λq=>q;have b:=f1.wf.lt g1;generalize H1.nx=d at g2 b;generalize H1.add (.dict [])=H2 at f2 g2 g12;refine eM (.refl f2.wf) g12 (by kernel_rfl) (by kernel_rfl) λH3 f3 g3=>⟨rfl,K H3 H.nx d (g3.trans (congrArg some (by kernel_rfl))) (f3.at_ f2.wf g2 (by exact Nat.ne_of_gt (by assumption))) ((f1.trans f2).bG f3 λm hm q=>by lia) (Nat.le_refl _) (by exact Nat.le_of_lt (by assumption))⟩
theorem j8 {a b:V}(w:Wf H) (K:∀H' i,Bf H' i [] 1 .none .none 8->Up H H'->H.nx<=i.bu->H.nx<=i.cl->H.nx<=i.ls->Q (.ref i.bu) H'):ok (ae (aa (k+2)) "Buffer" [a,b]) Q H:=by
 refine P.FW (dO (P.tU ?_));have f1:Up H (H.add (.inst "Buffer" [])):=.add w;have g1:(H.add (.inst "Buffer" [])).at_ H.nx=some (.inst "Buffer" []):=ar;have b1:=f1.wf.lt g1;generalize H.add (.inst "Buffer" [])=H1 at f1 g1 b1;refine eM (.refl f1.wf) g1 (by kernel_rfl) (by kernel_rfl) λH2 f2 g2=>eM f2 g2 (by kernel_rfl) (by kernel_rfl) λH2 f2 g2=>aY f2.wf (by simp) λH3 n3 f3 g3 u_ u_=>zW (k:=k) f3.wf g3 λH4 tx cl x4 f4 bt bc=>?_;have f24:=f3.trans f4;have n2:=f2.nx;have n3:=f3.nx;refine eM (.refl f4.wf) (f24.at_ f2.wf g2 λq=>q) (by kernel_rfl) (by kernel_rfl) λH5 f5 g5=>vS (k:=k) f5.wf λH6 ma rw_ m6 r6 f6 bm br=>?_;have f46:=f5.trans (f6.aE λu_ q=>q.elim);have n4:=f46.nx;have n5:=f5.nx;have n4':=f4.nx;refine eM (.refl f6.wf) (f6.at_ f5.wf g5 λq=>q) (by kernel_rfl) (by kernel_rfl) λH7 f7 g7=>?_
 iterate 9 refine eM f7 g7 (by kernel_rfl) (by kernel_rfl) λH7 f7 g7=>?_
 refine aY f7.wf (by simp) λH8 ls f8 g8 hls u_=>?_;have n7:=f7.nx;refine eM (.refl f8.wf) (f8.at_ f7.wf g7 λq=>q) (by kernel_rfl) (by kernel_rfl) λH9 f9 g9=>?_
 iterate 6 refine eM f9 g9 (by kernel_rfl) (by kernel_rfl) λH9 f9 g9=>?_
 have f69:=f7.trans ((f8.aE λu_ q=>q.elim).trans f9);have f49:=f46.trans f69;have e1:tx≠H.nx:=by lia
 have e2:cl≠H.nx:=by lia
 have e3:ma≠H.nx:=by lia
 have e4:rw_≠H.nx:=by lia
 have e5:ls≠H.nx:=by lia
 refine⟨rfl,K H9 ⟨H.nx,tx,cl,ma,rw_,ls,a,b⟩ ⟨⟨1,1,g9.trans (congrArg some (by kernel_rfl))⟩,⟨_,_,_,x4.up f4.wf f49 e1 e2,rfl,by refine wr lC ?_;simp⟩,f69.at_ f6.wf m6 e3,f69.at_ f6.wf r6 e4,f9.at_ f8.wf g8 e5,?_⟩ ?_ (Nat.le_refl _) ?_ ?_⟩
 .have:=f4.wf.lt x4.li;show ls≠cl;lia
 .exact f1.bG (f2.trans ((f24.aE λu_ q=>q.elim).trans f49)) λm hm q=>by lia
 .show H.nx<=cl;lia
 .show H.nx<=ls;lia
theorem yg (w:Wf H) (K:∀H' li pd,H'.at_ li=some (gN pd)->H'.at_ pd=some (.dict [])->Up H H'->H.nx<=li->H.nx<=pd->Q (.ref li) H'):ok (ae (aa (k+1)) "PlainLisp" [.int 100]) Q H:=by
 refine P.zg (dO (P.oi ?_));have f1:Up H (H.add (.inst "PlainLisp" [])):=.add w;have g1:(H.add (.inst "PlainLisp" [])).at_ H.nx=some (.inst "PlainLisp" []):=ar;have b1:=f1.wf.lt g1;generalize H.add (.inst "PlainLisp" [])=H1 at f1 g1 b1;refine eM (.refl f1.wf) g1 (by kernel_rfl) (by kernel_rfl) λH2 f2 g2=>?_
 iterate 2 refine eM f2 g2 (by kernel_rfl) (by kernel_rfl) λH2 f2 g2=>?_
 refine aB (by rfl) ?_;have n2:=f2.nx;have f3:Up H2 (H2.add (.dict [])):=.add f2.wf;have g3:(H2.add (.dict [])).at_ H2.nx=some (.dict []):=ar;have n3:H.nx<H2.nx:=Nat.le_trans (by assumption) (by assumption);generalize H2.nx=pd at g3 n3;generalize H2.add (.dict [])=H3 at f3 g3;refine eM (.refl f3.wf) (f3.at_ f2.wf g2 λq=>q) (by kernel_rfl) (by kernel_rfl) λH4 f4 g4=>⟨rfl,K H4 H.nx pd (g4.trans (congrArg some (by kernel_rfl))) (f4.at_ f3.wf g3 (by exact Nat.ne_of_gt (by assumption))) (f1.bG (f2.trans ((f3.aE λu_ q=>q.elim).trans f4)) λm hm q=>by lia) (Nat.le_refl _) (by exact Nat.le_of_lt (by assumption))⟩
theorem hU {li pd:Nat}{s:Str}{x:Int}(h:H.at_ li=some (gN pd)) (hs:eC [.str s]=pure (.int x)) (K:Q (.int (100+x)) H):ok (bB (aa (k+1)) "PlainLisp" "number" [.ref li,.str s]) Q H:=by
 refine P.kN ?_;refine aQ h (by kernel_rfl) (v:=.int 100) (by kernel_rfl) ?_;refine wr hs ?_;refine aq ?_;refine aC ?_;exact K
theorem vR {li pd:Nat}(w:Wf H) (h:H.at_ li=some (gN pd)) (hp:H.at_ pd=some (.dict [])) (K:∀H' ru de,H'.at_ ru=some (zI li de)->H'.at_ li=some (gN pd)->H'.at_ pd=some (.dict [])->H'.at_ de=some (.dict [])->Up H H'->H.nx<=de->Q (.ref ru) H'):ok (ae (aa (k+2)) "PropRules" [.ref li]) Q H:=by
 refine P.ze (dO (P.og ?_));have f1:Up H (H.add (.inst "PropRules" [])):=.add w;have g1:(H.add (.inst "PropRules" [])).at_ H.nx=some (.inst "PropRules" []):=ar;have b1:=f1.wf.lt g1;have ne:=fresh_ne w h;have ne2:=fresh_ne w hp;have h1:=f1.at_ w h λq=>q;have hp1:=f1.at_ w hp λq=>q;generalize H.add (.inst "PropRules" [])=H1 at f1 g1 b1 h1 hp1;refine eM (.refl f1.wf) g1 (by kernel_rfl) (by kernel_rfl) λH2 f2 g2=>aQ (f2.at_ f1.wf h1 ne) (by kernel_rfl) (v:=.none) (by kernel_rfl)<|eM f2 g2 (by kernel_rfl) (by kernel_rfl) λH2 f2 g2=>aQ (f2.at_ f1.wf h1 ne) (by kernel_rfl) (v:=.bool true) (by kernel_rfl)<|eM f2 g2 (by kernel_rfl) (by kernel_rfl) λH2 f2 g2=>?_
 have l2:=f2.at_ f1.wf h1 ne;refine bJ l2 (by kernel_rfl) (hU (k:=k) (x:=0) l2 (by kernel_rfl) ?_);refine eM f2 g2 (by kernel_rfl) (by kernel_rfl) λH2 f2 g2=>?_;have l2:=f2.at_ f1.wf h1 ne;refine bJ l2 (by kernel_rfl) (hU (k:=k) (x:=1) l2 (by kernel_rfl) ?_);refine eM f2 g2 (by kernel_rfl) (by kernel_rfl) λH2 f2 g2=>?_;have l2:=f2.at_ f1.wf h1 ne;refine bJ l2 (by kernel_rfl) (hU (k:=k) (x:=2) l2 (by kernel_rfl) ?_);refine eM f2 g2 (by kernel_rfl) (by kernel_rfl) λH2 f2 g2=>?_;have l2:=f2.at_ f1.wf h1 ne;refine bJ l2 (by kernel_rfl) (hU (k:=k) (x:=3) l2 (by kernel_rfl) ?_);refine eM f2 g2 (by kernel_rfl) (by kernel_rfl) λH2 f2 g2=>?_;have l2:=f2.at_ f1.wf h1 ne;refine bJ l2 (by kernel_rfl) (hU (k:=k) (x:=4) l2 (by kernel_rfl) ?_);refine eM f2 g2 (by kernel_rfl) (by kernel_rfl) λH2 f2 g2=>aB (by rfl) ?_;have n2:=f2.nx;have f3:Up H2 (H2.add (.dict [])):=.add f2.wf;have g3:(H2.add (.dict [])).at_ H2.nx=some (.dict []):=ar;have n3:H.nx<H2.nx:=Nat.le_trans (by assumption) (by assumption);generalize H2.nx=de at g3 n3;generalize H2.add (.dict [])=H3 at f3 g3;refine eM (.refl f3.wf) (f3.at_ f2.wf g2 λq=>q) (by kernel_rfl) (by kernel_rfl) λH4 f4 g4=>?_;have f14:=f2.trans ((f3.aE λu_ q=>q.elim).trans f4);exact⟨rfl,K H4 H.nx de (g4.trans (congrArg some (by kernel_rfl))) (f14.at_ f1.wf h1 ne) (f14.at_ f1.wf hp1 ne2) (f4.at_ f3.wf g3 (by exact Nat.ne_of_gt (by assumption))) (f1.bG f14 λm hm q=>by lia) (by exact Nat.le_of_lt (by assumption))⟩
theorem yh {ru:Nat}(w:Wf H) (K:∀H' oh,zh H' oh ru->Up H H'->H.nx<=oh->Q (.ref oh) H'):ok (ae (aa (k+2)) "OverlayHome" [.ref ru]) Q H:=by
 refine P.tS (dO (P.kP ?_));have f1:Up H (H.add (.inst "OverlayHome" [])):=.add w;have g1:(H.add (.inst "OverlayHome" [])).at_ H.nx=some (.inst "OverlayHome" []):=ar;have b1:=f1.wf.lt g1;generalize H.add (.inst "OverlayHome" [])=H1 at f1 g1 b1;refine P.tR (dO (P.kO ?_));have f2:Up H1 (H1.add (.inst "OverlayTree" [])):=.add f1.wf;have g2:(H1.add (.inst "OverlayTree" [])).at_ H1.nx=some (.inst "OverlayTree" []):=ar;have g12:=f2.at_ f1.wf g1 λq=>q;generalize H1.nx=ot at g2 b1;generalize H1.add (.inst "OverlayTree" [])=H2 at f2 g2 g12;refine eM (.refl f2.wf) g2 (by kernel_rfl) (by kernel_rfl) λH3 f3 g3=>eM f3 g3 (by kernel_rfl) (by kernel_rfl) λH3 f3 g3=>⟨rfl,?_⟩;refine eM (.refl f3.wf) (f3.at_ f2.wf g12 (by exact Nat.ne_of_lt (by assumption))) (by kernel_rfl) (by kernel_rfl) λH4 f4 g4=>aB (by rfl) ?_;have f5:Up H4 (H4.add (.dict [])):=.add f4.wf;refine eM (.refl f5.wf) (f5.at_ f4.wf g4 λq=>q) (by kernel_rfl) (by kernel_rfl) λH6 f6 g6=>eM f6 g6 (by kernel_rfl) (by kernel_rfl) λH6 f6 g6=>?_;have f36:=f4.trans ((f5.aE λu_ q=>q.elim).trans f6);have g3':=f36.at_ f3.wf g3 (by exact Nat.ne_of_gt (by assumption));refine⟨rfl,K H6 H.nx ⟨ot,H4.nx,g6.trans (congrArg some (by kernel_rfl)),g3'.trans (congrArg some (by kernel_rfl))⟩ ?_ (Nat.le_refl _)⟩;exact((f1.trans f2).bG f3 λm hm q=>by lia).bG f36 λm hm q=>by lia
end
end Mi
namespace Mi
open PySem
theorem vp {a:V}:∀{n:Nat},Mi.rep [a] n=List.replicate n a
 |0=>rfl
 |n+1=>by show[a]++Mi.rep [a] n=_;refine wr vp ?_;rfl
section
variable {H H':AH}{S:Nat->Prop}{k:Nat}{Q:KV}{QB:KB}{b b':Nat}
theorem y9 {β:Type}{R R':V->β->Prop}{f:V->V->Option Bool}(h:∀v w x,R v x->R' w x->f v w=some true) {l m:List V}{xs:List β}(p:aS R l xs) (q:aS R' m xs):ax f l m=some true:=aS.ind (P:=λl xs=>∀m,aS R' m xs->ax f l m=some true) p (λm q=>by induction m with|nil=>rfl|cons=>exact q.elim) (λv x l xs r u_ i m q=>by
 induction m with
 |nil=>exact q.elim
 |cons w m=>
  show(match f v w,ax f l m with|some x,some y=>some (x&&y)|_,_=>none)=_;refine wr (h _ _ _ r q.1) (wr (i m q.2) ?_);rfl) m q
theorem ni {n x y:Nat}{l m:List V}(h1:H.at_ x=some (.list l)) (h2:H.at_ y=some (.list m)) (hl:l.length=m.length) (h:ax (eT n H) l m=some true):eT (n+1) H (.ref x) (.ref y)=some true:=by
 show(match H.at_ x,H.at_ y with
  |some (.list l),some (.list m)=>if l.length=m.length then ax (eT n H) l m else some false
  |some (.tup l),some (.tup m)=>match ax (eT n H) l m with
   |some r=>some (r&&decide (l.length=m.length))
   |none=>none
  |_,_=>none)=_
 refine wr h1 (wr h2 ?_);show(if l.length=m.length then ax (eT n H) l m else some false)=_;refine wr (if_pos hl) ?_;exact h
theorem F6 {n:Nat}{v w:V}{x:PV}(h1:VP H v x) (h2:VP H w x):eT (n+4) H v w=some true:=by
 induction x<;>induction v<;>try exact h1.elim
 .induction w<;>try exact h2.elim
  rfl
 .induction w<;>try exact h2.elim
  have h1:_=true:=h1;have h2:_=true:=h2;subst h1;subst h2;rfl
 .induction w<;>try exact h2.elim
  have h1:_=_:=h1;have h2:_=_:=h2;subst h1;subst h2;exact congrArg some (beq_self_eq_true _)
 .obtain⟨vs,e1,e2,-⟩:=h1
  induction w<;>try exact h2.elim
  obtain⟨ws,e3,e4,-⟩:=h2;rename_i l m m';obtain⟨r,e5,e6⟩:=BA (n:=n+1) e2 e4;have el:vs.length=ws.length:=e2.len.trans e4.len.symm;have er:r=true:=by simp[el] at e6;exact e6
  subst er;have e7:ax (eT (n+3) H) (.str "list"::vs) (.str "list"::ws)=some true:=by
   show(match some ((("list":Str)==("list":Str))),ax (eT (n+3) H) vs ws with|some x,some y=>some (x&&y)|_,_=>none)=_;refine wr (show(("list":Str)==("list":Str))=true from by kernel_rfl) (wr e5 ?_);rfl
  show(match H.at_ m,H.at_ m' with
   |some (.list l),some (.list m)=>if l.length=m.length then ax (eT (n+3) H) l m else some false
   |some (.tup l),some (.tup m)=>match ax (eT (n+3) H) l m with
    |some r=>some (r&&decide (l.length=m.length))
    |none=>none
   |_,_=>none)=_
  refine wr e1 (wr e3 ?_);show(match ax (eT (n+3) H) (.str "list"::vs) (.str "list"::ws) with|some r=>some (r&&decide ((V.str "list"::vs).length=(V.str "list"::ws).length))|none=>none)=_;refine wr e7 ?_;show some (true&&decide _)=_;refine wr (decide_eq_true (by simp[el])) ?_;rfl
def mi (b:Nat) (H:AH) (u:V) (xs:List PV):Prop:=∃m vs,u=.ref m/\b<=m/\H.at_ m=some (.list vs)/\aS (VP H) vs xs
theorem D9 {n:Nat}{u w:V}{xs:List PV}(h1:mi b H u xs) (h2:mi b' H w xs):eT (n+5) H u w=some true:=by
 refine pY h1 λm vs z1 u_ e1 e2=>?_;subst z1;refine pY h2 λm' ws z2 u_ e3 e4=>?_;subst z2;exact ni e1 e3 (e2.len.trans e4.len.symm) (y9 (R:=VP H) (R':=VP H) (f:=eT (n+4) H) (λu_ u_ u_ p q=>F6 p q) e2 e4)
theorem mi.keep {u:V}{xs:List PV}(t:TK H H') (h:∀m l,b<=m->H.at_ m=some (.list l)->H'.at_ m=some (.list l)) (x:mi b H u xs):mi b H' u xs:=by
 refine pY x λm vs e e0 e1 e2=>⟨m,vs,e,e0,h _ _ e0 e1,e2.mono λu_ u_ q=>q.tk t⟩
def BX (b:Nat) (H:AH) (n:Nat) (X:List (List PV)):Prop:=b<=n/\∃us,H.at_ n=some (.list us)/\aS (mi b H) us X
theorem BX.keep {n:Nat}{X:List (List PV)}(t:TK H H') (h:∀m l,b<=m->H.at_ m=some (.list l)->H'.at_ m=some (.list l)) (x:BX b H n X):BX b H' n X:=by
 refine pZ x λe0 us e1 e2=>⟨e0,us,h _ _ e0 e1,e2.mono λu_ u_ q=>q.keep t h⟩
theorem BX.up {n:Nat}{X:List (List PV)}(w:Wf H) (f:Up H H') (x:BX b H n X):BX b H' n X:=x.keep (f.tk w) λu_ u_ u_ e=>f.at_ w e λq=>q
theorem DL {x y:Nat}{X:List (List PV)}(h1:BX b H x X) (h2:BX b' H y X):eT 8 H (.ref x) (.ref y)=some true:=by
 refine pZ h1 λu_ us e1 e2=>pZ h2 λu_ ws e3 e4=>ni e1 e3 (e2.len.trans e4.len.symm) (y9 (R:=mi b H) (R':=mi b' H) (f:=eT 7 H) (λu_ u_ u_ p q=>D9 (n:=2) p q) e2 e4)
theorem ux {x y:Nat}{l:List V}(h1:H.at_ x=some (.list l)) (h2:H.at_ y=some (.list l)) (hl:∀v∈l,∃j,v=V.int j):eT 8 H (.ref x) (.ref y)=some true:=by
 refine ni h1 h2 rfl ?_
 clear h1 h2
 induction l with
 |nil=>rfl
 |cons v l ih=>
  refine xE (hl v (List.mem_cons_self ..)) λj z3=>?_;subst z3;show(match some (j==j),ax (eT 7 H) l l with|some x,some y=>some (x&&y)|_,_=>none)=_;rw[ih λu hu=>hl u (List.mem_cons_of_mem _ hu),beq_self_eq_true];rfl
theorem Be {a b:V}{r:Bool}(h:eT 8 H a b=some r) (K:QB (!r) H):ok (bQ .NotEq a b) QB H:=
 ah ⟨r,H,by show(match eT 8 H a b with|some r=>some (r,H)|none=>none)=_;exact wr h rfl,aq K⟩
end
end Mi
namespace Mi
open PySem
section
variable {H H':AH}{S:Nat->Prop}{k:Nat}{Q:KV}{QB:KB}{b b':Nat}{i:BI}{txt cs:List V}{pt:Int}{gl pr tr oh ru n nc p m:Nat}{D:List Int}{L:List E3}{ps:List aO}
noncomputable def row (p:aO):List PV:=[1,2,3].map (bg p)
theorem take3 {j:Nat}{u:V}(hu:([V.int 1,.int 2,.int 3])[j]? =some u):∃x:Int,u=.int x/\([1,2,3]:List Int).take (j+1)=([1,2,3]:List Int).take j++[x]/\x≠100:=by
 match j,hu with
 |0,hu=>obtain rfl:=Option.some.inj hu;exact⟨1,rfl,rfl,by decide⟩
 |1,hu=>obtain rfl:=Option.some.inj hu;exact⟨2,rfl,rfl,by decide⟩
 |2,hu=>obtain rfl:=Option.some.inj hu;exact⟨3,rfl,rfl,by decide⟩
 |j+3,hu=>simp at hu
theorem zV:∀v∈([V.int 1,.int 2,.int 3]:List V),rg v=true:=λv hv=>by
 simp at hv;rcases hv with rfl|rfl|rfl<;>rfl
theorem D4 {q vs nf:Nat}{v_at:V}{r:aO}{K:List V->AH->Prop}(h:Fu H i txt pt gl pr tr oh ru D L ps) (hq:PL H q r) (g:Good r) (ht:H.at_ vs=some (.tup [.int 1,.int 2,.int 3]))
  (hk:∀H' l,Up H H'->aS (VP H') l (row r)->K l H'):
  ok (dC (aa (k+3)) (fD "_law_seen") 22 [1,0,1] 0 [("buffer",some (.ref i.bu)),("found",some (.ref nf)),("at",some v_at),("plist",some (.ref q))] (.ref vs) (1,[.int 1,.int 2,.int 3])) K H:=by
 refine ee (I:=λj acc ρ H2=>(∃oc,ρ=(([(".0",none),("number",oc)]:ao)++([("buffer",some (.ref i.bu)),("found",some (.ref nf)),("at",some v_at),("plist",some (.ref q))]:ao)))/\Up H H2/\aS (VP H2) acc ((([1,2,3]:List Int).take j).map (bg r))) ⟨⟨_,P.yq _ _ _ _⟩,.refl h.tp.sq.wf,trivial⟩ zV ?_ (by kernel_rfl) ?_ ?_
 .rintro j acc ρ H2 ⟨-,f,-⟩;exact dB (f.at_ h.tp.sq.wf ht λq=>q)
 .rintro j acc ρ H2 u hu ⟨⟨oc,rfl⟩,f,a⟩
  refine wr (P.Ae _ _ _ _ _ _ _ _ _)<|be (take3 hu) λx hx ex nx=>?_
  subst hx;have h2:=h.up f;refine fP h2.bf.ob λtk ct hb=>?_;obtain⟨ot,od,c1,c2⟩:=h2.ov;refine kK hb (aQ c1 (by kernel_rfl) (v:=.ref ru) (by kernel_rfl) ?_);refine fB (k:=k) f.wf h2.ru (hq.up h.tp.sq.wf f) g.yf λH3 a3 f3 v3=>⟨⟨_,rfl⟩,f.trans f3,?_⟩;refine wr ex (wr List.map_append ?_);exact aS.app (a.mono λu_ u_ q=>q.up f.wf f3) ⟨v3,trivial⟩
 .rintro acc ρ H2 ⟨-,f,a⟩
  exact hk H2 acc f a
def IN (H:AH) (bu n r N:Nat) (ps:List aO) (j:Nat) (ρ:ao) (H3:AH):Prop:=(∃o1 o2,ρ=([("buffer",some (.ref bu)),("found",some (.ref n)),("at",o1),("plist",o2)]:ao))/\Up H H3/\n<H3.nx/\H3.at_ r=some (.rng (N:Nat))/\∃us,H3.at_ n=some (.list us)/\aS (mi (n+1) H3) us ((ps.take j).map row)
theorem A6 (h:Fu H i txt pt gl pr tr oh ru D L ps) (hl:ps.length<=100) (K:∀H' n,BX H.nx H' n (ps.map row)->Up H H'->Q (.ref n) H'):ok (ae (aa (k+5)) "_law_seen" [.ref i.bu]) Q H:=by
 refine P.CP ?_;have w:=h.tp.sq.wf;refine aY w (by simp) λH1 n f1 g1 hn u_=>?_;have h1:=h.up f1;refine fP h1.bf.ob λtk ct hb=>jq hb (by kernel_rfl) (lZ (k:=k+2) h1.bf ?_);have hlen:=h.len;refine hQ (by lia) ?_;have f2:Up H1 (H1.add (.rng (txt.length:Nat))):=.add f1.wf;have r2:(H1.add (.rng (txt.length:Nat))).at_ H1.nx=some (.rng (txt.length:Nat)):=ar;have g2:=f2.at_ f1.wf g1 λq=>q;have nr:=fresh_ne f1.wf g1;generalize H1.nx=r at r2 nr;generalize H1.add (.rng (txt.length:Nat))=H2 at f2 r2 g2;refine cz (fK r2)<|dJ (I:=IN H i.bu n r txt.length ps) ⟨⟨_,_,rfl⟩,f1.trans f2,f2.wf.lt g2,r2,[],g2,trivial⟩ ?_ ?_ (by kernel_rfl) ?_ ?_
 .intro v hv;refine bW (List.mem_map.mp hv) λj u_ z1=>?_;subst z1;rfl
 .rintro j ρ H3 ⟨-,-,-,r3,-⟩;exact fK r3
 .rintro j ρ H3 u hu ⟨⟨o1,o2,rfl⟩,f3,n3,r3,us,g3,a3⟩
  refine P.Ab ?_;obtain⟨hj,hx⟩:=List.getElem?_eq_some_iff.mp hu;simp at hj hx;subst hx;have h3:=h.up f3;refine fP h3.bf.ob λtk ct hb=>dZ hb<|cw (k:=k) h3.tp λH4 q f4 q4=>?_
  rw[if_neg (by lia),Int.toNat_natCast,List.getElem?_eq_getElem (by lia)] at q4;have gp:=h.good _ (List.getElem_mem (h:=show j<ps.length by lia));have ep:ps.take (j+1)=ps.take j++[ps[j]'(by lia)]:=by refine wr List.take_add_one (wr (List.getElem?_eq_getElem (by lia)) ?_);rfl
  generalize ps[j]'(by lia)=p at q4 gp ep;have g4:=f4.at_ f3.wf g3 λq=>q;have r4:=f4.at_ f3.wf r3 λq=>q;refine dA (m:=.append) g4 (by kernel_rfl) rfl<|aB (by rfl) ?_
  have f5:Up H4 (H4.add (.tup [.int 1,.int 2,.int 3])):=.add f4.wf;have t5:(H4.add (.tup [.int 1,.int 2,.int 3])).at_ H4.nx=some (.tup [.int 1,.int 2,.int 3]):=ar;generalize H4.nx=vs at t5;generalize H4.add (.tup [.int 1,.int 2,.int 3])=H5 at f5 t5;refine cz (dB t5) ?_;have f45:=f4.trans f5;refine D4 (k:=k+1) (h3.up f45) (q4.up f4.wf f5) gp t5 λH6 l f6 a6=>?_;have ll:=a6.len;refine aY f6.wf (by refine wr ll ?_;show 3<=1000;decide) λH7 m f7 g7 hm u_=>?_;have f57:=f6.trans f7;have f37:=f45.trans f57;have g7n:=f37.at_ f3.wf g3 λq=>q;refine⟨_,g7n,?_⟩;show ok (do eB n (.list (us++[.ref m]));pure V.none) _ H7;have la:=a3.len;simp at la;refine ah ?_;refine eO (bp (by simp;lia)) ?_;refine aq ?_;have f8:Fm (λz=>z=n) H7 (H7.put n (.list (us++[.ref m]))):=.put f7.wf g7n rfl;have nx3:H3.nx<=m:=by have:=f45.nx;have:=f6.nx;lia
  have up8:Up H (H7.put n (.list (us++[.ref m]))):=(f3.trans f37).bG f8 λz hz q=>by lia
  have tk8:TK H7 (H7.put n (.list (us++[.ref m]))):=.of f7.wf f8 λz l hz q=>by rw[q,g7n] at hz;exact nO hz rfl
  have l8:∀z l,n+1<=z->H7.at_ z=some (.list l)->(H7.put n (.list (us++[.ref m]))).at_ z=some (.list l):=λz l hz e=>f8.at_ f7.wf e (by exact Nat.ne_of_gt (by assumption));refine⟨⟨_,_,rfl⟩,up8,?_,f8.at_ f7.wf (f57.at_ f5.wf (f5.at_ f4.wf r4 λq=>q) λq=>q) (λq=>nr q.symm),us++[.ref m],cL,?_⟩
  .have:=f37.nx;show n<H7.nx;exact Nat.le_trans (by assumption) (by assumption)
  .refine wr ep (wr List.map_append ?_);exact aS.app (a3.mono λu_ u_ q=>(q.keep (Up.tk f3.wf f37) λu_ u_ u_ e=>f37.at_ f3.wf e λq=>q).keep tk8 l8) ⟨⟨m,l,rfl,by exact Nat.le_trans (by assumption) (by assumption),l8 _ _ (by exact Nat.le_trans (by assumption) (by assumption)) g7,a6.mono λu_ u_ q=>(q.up f6.wf f7).tk tk8⟩,trivial⟩
 .rintro ρ H3 ⟨⟨o1,o2,rfl⟩,f3,n3,r3,us,g3,a3⟩
  refine P.Af<|K H3 n ⟨by lia,us,g3,?_⟩ f3
  rw[show((2,(List.range txt.length).map λ(i:Nat)=>V.int (Int.ofNat i)):Nat×List V).2.length=ps.length by simp;lia,List.take_length] at a3;exact a3.mono λu_ u_ z=>pY z λm vs e e0 e1 e2=>⟨m,vs,e,by lia,e1,e2⟩
end
end Mi
namespace Mi
open PySem
section
variable {H H':AH}{S:Nat->Prop}{k:Nat}{Q:KV}{QB:KB}{b b':Nat}{i:BI}{txt cs:List V}{pt:Int}{pv ov:V}{gl pr tr oh ru n nc p m:Nat}{D:List Int}{L:List E3}{ps:List aO}
theorem uO {e:Int}(w:Wf H) (h:Bf H i txt pt pv ov gl) (he:e=(txt.length+1:Nat)) (K:∀H' r,H'.at_ r=some (.list txt)->H.nx<=r->Up H H'->Q (.ref r) H'):ok (bB (aa (k+2)) "Buffer" "codes" [.ref i.bu,.int 1,.int e]) Q H:=by
 refine P.sC<|fP h.ob λtk ct hb=>eK h.gap λx y z g e1 u_=>rQ hb<|jj g (by kernel_rfl)<|aT (aT ?_)
 have e2:e-1=(txt.length:Nat):=by lia
 refine wr e2<|wC (k:=k) w g (by exact wr e1 rfl) λH1 r h1 n1 f1=>?_
 rw[e1] at h1;exact K H1 r h1 n1 f1
theorem GQ {x:Int}(w:Wf H) (h:Bf H i txt pt pv ov gl) (h1:1<=x) (h2:x<=(txt.length+1:Nat)) (K:∀H',Bf H' i txt x pv ov gl->Fm (BS i) H H'->Q (.int x) H'):ok (bB (aa (k+1)) "Buffer" "goto" [.ref i.bu,.int x]) Q H:=by
 refine P.tW<|fP h.ob λtk ct hb=>y5 hb ?_
 have m1:CM x 1=x:=by unfold CM;split<;>lia
 have m2:CJ x (txt.length+1:Nat)=x:=by unfold CJ;split<;>lia
 refine aq ?_;refine wr m1 ?_;refine AP hb ?_;refine aq ?_;refine wr m2 ?_;refine uL hb ?_;refine xA (h.put (pt':=x) (tk':=tk) (ct':=ct) (pr':=pv) (ov':=ov) w rfl) λb1 f1=>fq (cL (H:=H) (n:=i.bu))<|K _ b1 f1
theorem Fu.bs {pt':Int}{gl':Nat}(h:Fu H i txt pt gl pr tr oh ru D L ps) (hb:Bf H' i txt pt' (.ref pr) (.ref oh) gl') (f:Fm (BS i) H H'):Fu H' i txt pt' gl' pr tr oh ru D L ps:=
 ⟨hb,h.tp.bs h.bf f,h.ov.bs h.bf h.tp.sq.wf f,h.ru.bs h.bf h.tp.sq.wf f,h.len,h.good⟩
theorem zC {p q:aO}{x:Int}{pos:Bool}:side p q D x pos=0\/side p q D x pos=1\/(side p q D x pos= -1/\pos=true):=by
 unfold side
 induction pos
 .simp only[Bool.false_and,if_neg Bool.false_ne_true]
  by_cases c:sF x (bg q 101)=true
  .refine wr (if_pos c) ?_;exact .inr (.inl rfl)
  .refine wr (if_neg c) ?_;exact .inl rfl
 .split
  .split
   .exact .inr (.inl rfl)
   .exact .inr (.inr ⟨rfl,rfl⟩)
  .split
   .exact .inr (.inl rfl)
   .exact .inl rfl
theorem A4 {ns j:Nat}{r:aO}{e:Int}(t:BX b H ns (ps.map row)) (he:e=(m:Nat)) (hm:ps[m]? =some r) (hj:j<3) (K:∀a,VP H a (bg r (j+1:Nat))->Q a H):
  ok (gn (.ref ns) (.int e)) (λx H=>ok (dI .Sub (.int (j+1:Nat)) (.int 1)) (λy H=>ok (gn x y) (λz H=>Q z H) H) H) H:=by
 subst he;refine pZ t λu_ us e1 a1=>?_;obtain⟨u,hu,n',vs,rfl,-,e2,a2⟩:=a1.get (i:=m) (b:=row r) (by refine wr (List.getElem?_map) (wr hm ?_);rfl);refine item_list e1 (by lia) (by refine wr (Int.toNat_natCast _) ?_;exact hu) ?_;refine aT ?_;obtain⟨a,ha,va⟩:=a2.get (i:=j) (b:=bg r (j+1:Nat)) (by
  match j,hj with
  |0,_=>rfl
  |1,_=>rfl
  |2,_=>rfl)
 have e3:((j+1:Nat):Int)-1=(j:Nat):=by lia
 refine wr e3 ?_;exact item_list e2 (by lia) (by refine wr (Int.toNat_natCast _) ?_;exact ha) (K a va)
theorem AR {ns j:Nat}(h:Fu H i txt pt gl pr tr oh ru D L ps) (hp:p<=ps.length) (t:BX b H ns (ps.map row)) (hj:j<3)
  (K:∀H' a,Up H H'->VP H' a (jk (cO ps p) (dG ps p) D (j+1:Nat) (decide (0<p)))->Q a H'):ok (ae (aa (k+7)) "_law_at_side" [.ref i.bu,.int p,.int (j+1:Nat),.ref ns]) Q H:=by
 refine P.vY ?_;have w:=h.tp.sq.wf;refine fP h.bf.ob λtk ct hb=>?_;obtain⟨ot,od,c1,c2⟩:=h.ov;refine kK hb (aQ c1 (by kernel_rfl) (v:=.ref ru) (by kernel_rfl) (dZ hb ?_));refine qf (k:=k) h.tp h.ru (λr hr=>(h.good r hr).yf) λH1 f1=>?_;have t1:=t.up w f1;refine pZ (id t1) λu_ us e1 a1=>?_;have ll:=a1.len;rw[List.length_map] at ll;have K1:=λa q=>K H1 a f1 q;unfold jk at K1;have ss:=zC (p:=cO ps p) (q:=dG ps p) (D:=D) (x:=((j+1:Nat):Int)) (pos:=decide (0<p));generalize side (cO ps p) (dG ps p) D ((j+1:Nat):Int) (decide (0<p))=s at K1 ss;refine ej ?_
 rcases ss with rfl|rfl|⟨rfl,pos⟩
 .exact K1 .none (by refine wr (if_pos rfl) ?_;trivial)
 .rw[if_neg (by decide),if_pos (by exact Int.natCast_nonneg _)] at K1;refine aJ (show((1:Int)==0)=false from rfl) ?_;refine bN ?_;refine aM (decide_eq_true (by exact Int.natCast_nonneg _)) ?_;refine aZ e1 (ej ?_);refine wr ll ?_;unfold dG at K1
  by_cases q:(p:Int)=(ps.length:Nat)
  .refine aM (show((p:Int)==(ps.length:Nat))=true from beq_iff_eq.mpr q)<|K1 .none<|wr (List.getElem?_eq_none (by lia)) ?_
   trivial
  .refine aJ (show((p:Int)==(ps.length:Nat))=false from beq_eq_false_iff_ne.mpr q) ?_;refine cU ?_;refine aJ (decide_eq_false (by decide)) ?_;have hm:=List.getElem?_eq_getElem (show p<ps.length by lia);rw[hm] at K1;exact A4 t1 rfl hm hj K1
 .rw[if_neg (by decide),if_neg (by decide)] at K1;have pos:=of_decide_eq_true pos;refine aJ (show((-1:Int)==0)=false from rfl) ?_;refine bN ?_;refine aJ (decide_eq_false (by decide)) ?_;refine cU ?_;refine aM (decide_eq_true (by exact Int.natCast_nonneg _)) ?_;refine aT ?_;unfold cO at K1;rw[if_pos pos] at K1;have hm:=List.getElem?_eq_getElem (show p-1<ps.length by lia);rw[hm] at K1;exact A4 t1 (by exact(Int.natCast_sub (by assumption)).symm) hm hj K1
end
end Mi
namespace Mi
open PySem
section
variable {H H':AH}{S:Nat->Prop}{k:Nat}{Q Kc:KV}{QB:KB}{b b':Nat}{i:BI}{txt cs:List V}{pt:Int}{pv ov:V}{gl pr tr oh ru n nc p m:Nat}{D:List Int}{L:List E3}{ps:List aO}{dk dl c:Nat}{cells:List Int}
theorem fU {a:Nat}{x:Str}{fs:List (Str×V)}(d:Dk H dk dl cells c) (h:H.at_ a=some (.inst x fs)):a≠dk:=λe=>by rw[e,d.ob] at h;exact nO h rfl
theorem wK {a:Nat}{x:List (Int×V)}(d:Dk H dk dl cells c) (h:H.at_ a=some (.dict x)):a≠dk:=λe=>by rw[e,d.ob] at h;exact nO h rfl
theorem Bf.jI (w:Wf H) (h:Bf H i txt pt pv ov gl) (d:Dk H dk dl cells c) (ne:i.cl≠dk) (f:Fm (λx=>x=dk) H H'):Bf H' i txt pt pv ov gl:=by
 obtain⟨⟨tk,ct,a⟩,⟨x,y,z,g,e⟩,m,r,l,lc⟩:=h;exact⟨⟨tk,ct,f.at_ w a (fU d a)⟩,⟨x,y,z,g.up w f (fU d g.ob) ne,e⟩,f.at_ w m (fU d m),f.at_ w r (wK d r),f.at_ w l (λe=>by rw[e,d.ob] at l;cases l),lc⟩
theorem J2 (d:Dk H dk dl cells c) (s:Sq H tr L) (q:TL tr L n):n≠dk:=λe=>(du s q).1 _ (e▸d.ob)
theorem Fu.jI (h:Fu H i txt pt gl pr tr oh ru D L ps) (d:Dk H dk dl cells c) (ne:i.cl≠dk) (f:Fm (λx=>x=dk) H H'):Fu H' i txt pt gl pr tr oh ru D L ps:=by
 have w:=h.tp.sq.wf;refine⟨h.bf.jI w d ne f,⟨f.at_ w h.tp.ob (fU d h.tp.ob),h.tp.sq.fm f λm hm=>J2 d h.tp.sq hm,h.tp.cs.mono λu_ u_ x=>x.G8 w d f⟩,h.ov.keep λm c fs u_ e=>f.at_ w e (fU d e),h.ru.keep w f (λm c fs u_ e=>fU d e) λm l e=>wK d e,h.len,h.good⟩
theorem yX (h:Bf H i txt pt pv ov gl) (d:Dk H dk dl cells c) (n1:i.cl≠dk) (n2:i.cl≠dl):¬BS i dk/\¬BS i dl:=by
 refine fP h.ob λtk ct a=>eZ h.gap λu_ u_ u_ g u_=>⟨λq=>?_,λq=>?_⟩
 .rcases q with q|q|q
  .exact fU d a q.symm
  .exact fU d g.ob q.symm
  .exact n1 q.symm
 .have li:=d.li
  rcases q with q|q|q
  .rw[q,a] at li;exact nO li rfl
  .rw[q,g.ob] at li;exact nO li rfl
  .exact n2 q.symm
theorem Dk.fs (h:Fu H i txt pt gl pr tr oh ru D L ps) (d:Dk H dk dl cells c) (n1:i.cl≠dk) (n2:i.cl≠dl) (f:Fm (FS i tr L) H H'):Dk H' dk dl cells c:=by
 refine xA (yX h.bf d n1 n2) λx y=>d.keep h.tp.sq.wf f (λq=>?_) λq=>?_
 .rcases q with q|q
  .exact x q
  .exact(du h.tp.sq q).1 _ d.ob
 .rcases q with q|q
  .exact y q
  .exact(du h.tp.sq q).1 _ d.li
def RK (H H':AH):Prop:=∀m x,H.at_ m=some (.rng x)->H'.at_ m=some (.rng x)
theorem RK.of (w:Wf H) (f:Fm S H H') (hs:∀m x,H.at_ m=some (.rng x)->¬S m):RK H H':=λm x h=>f.at_ w h (hs m x h)
theorem RK.up (w:Wf H) (f:Up H H'):RK H H':=.of w f λu_ u_ u_ q=>q
theorem RK.trans {H'':AH}(x:RK H H') (y:RK H' H''):RK H H'':=λm a h=>y m a (x m a h)
theorem Fz {x:Int}(h:Bf H i txt pt pv ov gl) (hm:H.at_ m=some (.rng x)):¬BS i m:=λq=>by
 refine fP h.ob λtk ct a=>eZ h.gap λu_ u_ u_ b u_=>?_
 rcases q with q|q|q
 .rw[q,a] at hm;exact nO hm rfl
 .rw[q,b.ob] at hm;exact nO hm rfl
 .rw[q,b.li] at hm;exact nO hm rfl
theorem HR {x:Int}(s:Sq H tr L) (hm:H.at_ m=some (.rng x)):¬TL tr L m:=λq=>by
 rcases q with q|q
 .refine xE s.tree λv e=>?_;rw[q,e] at hm;exact nO hm rfl
 .refine fM (s.live q) λu_ u_ u_ u_ u_ e=>?_;rw[e] at hm;exact nO hm rfl
theorem RK.fs (h:Fu H i txt pt gl pr tr oh ru D L ps) (f:Fm (FS i tr L) H H'):RK H H':=.of h.tp.sq.wf f λm x e q=>q.elim (Fz h.bf e) (HR h.tp.sq e)
theorem TK.fs (h:Fu H i txt pt gl pr tr oh ru D L ps) (f:Fm (FS i tr L) H H'):TK H H':=.of h.tp.sq.wf f λm x e q=>q.elim (wR h.bf e) λq=>(du h.tp.sq q).2 _ e
theorem Bw {l:List V}(h:Fu H i txt pt gl pr tr oh ru D L ps) (hm:H.at_ m=some (.list l)) (ne:m≠i.cl):¬FS i tr L m:=λq=>by
 refine fP h.bf.ob λtk ct a=>eZ h.bf.gap λu_ u_ u_ b u_=>?_
 rcases q with(q|q|q)|q
 .rw[q,a] at hm;exact nO hm rfl
 .rw[q,b.ob] at hm;exact nO hm rfl
 .exact ne q
 .exact(du h.tp.sq q).1 _ hm
theorem Bf.ints (h:Bf H i txt pt pv ov gl):∀v∈txt,∃j,v=V.int j:=λv hv=>by
 refine eK h.gap λx y z g e u_=>g.it v ?_;rw[<-e] at hv
 rcases List.mem_append.mp hv with q|q
 .exact List.mem_append_left _ q
 .exact List.mem_append_right _ (List.mem_append_right _ q)
theorem Bf.lt (w:Wf H) (h:Bf H i txt pt pv ov gl):i.cl<H.nx:=by
 refine eZ h.gap λx y z g u_=>w.lt g.li
structure Wd (H:AH) (i:BI) (dk dl:Nat) (cells:List Int) (c:Nat) (txt:List V) (pt:Int) (gl pr tr oh ru:Nat) (D:List Int) (L:List E3) (ps:List aO):Prop where
 fu:Fu H i txt pt gl pr tr oh ru D L ps
 lW:Dk H dk dl cells c
 n1:i.cl≠dk
 n2:i.cl≠dl
theorem Wd.wf (h:Wd H i dk dl cells c txt pt gl pr tr oh ru D L ps):Wf H:=h.fu.tp.sq.wf
theorem Wd.up (h:Wd H i dk dl cells c txt pt gl pr tr oh ru D L ps) (f:Up H H'):Wd H' i dk dl cells c txt pt gl pr tr oh ru D L ps:=⟨h.fu.up f,h.lW.up h.wf f,h.n1,h.n2⟩
theorem Wd.draw {m:Nat}(h:Wd H i dk dl cells c txt pt gl pr tr oh ru D L ps) (hm:0<m) (hm2:m<=1000) (hc:c<=900)
  (K:∀(H':AH) (d:Nat),d<m->Wd H' i dk dl cells (c+1) txt pt gl pr tr oh ru D L ps->Fm (λx=>x=dk) H H'->Q (.int d) H'):ok (ae (aa (k+1)) "_law_draw" [.ref dk,.int m]) Q H:=
 pP (k:=k) h.wf h.lW hm hm2 hc λH1 d hd h1 f1=>K H1 d hd ⟨h.fu.jI h.lW h.n1 f1,h1,h.n1,h.n2⟩ f1
theorem EM (h:Wd H i dk dl cells c txt pt gl pr tr oh ru D L ps) (hc:c<=900) (ht:txt.length<=100)
  (K:∀H' p,p<=txt.length->Wd H' i dk dl cells (c+1) txt (p+1:Nat) gl pr tr oh ru D L ps->RK H H'->Kc (.int (p+1:Nat)) H'):
  aA (aa (k+2)) (.ref i.bu) "goto" (λA H=>aA (aa (k+2)) (.ref i.bu) "size" (λA H=>A [] H) (λx1 H=>ok (dI .Add x1 (V.int 1)) (λx2 H=>ok (ae (aa (k+2)) "_law_draw" [.ref dk,x2]) (λx3 H=>ok (dI .Add (V.int 1) x3) (λx4 H=>A [x4] H) H) H) H) H) Kc H:=by
 refine fP h.fu.bf.ob λtk ct hb=>jq hb (by kernel_rfl) (jq hb (by kernel_rfl) (lZ (k:=k) h.fu.bf ?_));refine aC ?_;have e1:((txt.length:Nat):Int)+1=(txt.length+1:Nat):=by lia
 refine wr e1<|h.draw (k:=k+1) (by exact Nat.succ_pos _) (by lia) hc λH1 p hp h1 f1=>aC ?_
 have e2:(1:Int)+(p:Nat)=(p+1:Nat):=by lia
 refine wr e2<|GQ (k:=k+1) h1.wf h1.fu.bf (by lia) (by exact Int.ofNat_lt.mpr (by assumption)) λH2 b2 f2=>?_
 refine K H2 p (by lia) ⟨h1.fu.bs b2 f2,?_,h1.n1,h1.n2⟩ ((RK.of h.wf f1 λm x e q=>by rw[q,h.lW.ob] at e;exact nO e rfl).trans (.of h1.wf f2 λm x e=>Fz h1.fu.bf e));refine xA (yX h1.fu.bf h1.lW h1.n1 h1.n2) λx y=>h1.lW.keep h1.wf f2 x y
theorem Df {z:Int}(h:Wd H i dk dl cells c txt pt gl pr tr oh ru D L ps) (hc:c<=900)
  (K:∀H' nc m,m<=2->Wd H' i dk dl cells (c+1) txt pt gl pr tr oh ru D L ps->H'.at_ nc=some (.list (List.replicate m (.int z)))->H.nx<=nc->RK H H'->Kc (.ref nc) H'):
  ok (ba (.list [.int z])) (λx8 H=>ok (ae (aa (k+1)) "_law_draw" [.ref dk,(V.int 3)]) (λx9 H=>ok (dI .Mult x8 x9) Kc H) H) H:=by
 refine aY h.wf (by simp) λH1 n1 f1 g1 hn1 u_=>(h.up f1).draw (k:=k) (m:=3) (by exact Nat.succ_pos _) (by decide) hc λH2 m hm h2 f2=>?_;have g2:=f2.at_ f1.wf g1 λe=>by have:=h.wf.lt h.lW.ob;lia
 refine vL (n:=m) g2 (by exact Nat.le_trans (Nat.le_of_lt_succ (by assumption)) (by decide)) (by simp;exact Nat.le_trans (Nat.le_of_lt_succ (by assumption)) (by decide)) ?_;refine wr vp ?_;have f3:Up H2 (H2.add (.list (List.replicate m (V.int z)))):=.add f2.wf;refine K _ H2.nx m (by exact Nat.le_trans (Nat.le_of_lt_succ (by assumption)) (by decide)) (h2.up f3) ar ?_ (((RK.up h.wf f1).trans (.of f1.wf f2 λm x e q=>by rw[q,(h.up f1).lW.ob] at e;exact nO e rfl)).trans (.up f2.wf f3));have:=f1.nx;have:=f2.nx;exact Nat.le_trans (by assumption) (by assumption)
theorem ug (w:Wf H) (h:Bf H i txt pt pv ov gl) (K:∀H' r,H'.at_ r=some (.list txt)->H.nx<=r->Up H H'->Kc (.ref r) H'):
  aA (aa (k+2)) (.ref i.bu) "codes" (λA H=>aA (aa (k+2)) (.ref i.bu) "size" (λA H=>A [] H) (λx15 H=>ok (dI .Add x15 (V.int 1)) (λx16 H=>A [(V.int 1),x16] H) H) H) Kc H:=by
 refine fP h.ob λtk ct hb=>jq hb (by kernel_rfl) (jq hb (by kernel_rfl) (lZ (k:=k) h ?_));refine aC<|uO (k:=k) w h (by lia) K
theorem DJ {x17 x25 u13:Nat}(w:Wf H) (h17:H.at_ x17=some (.list txt)) (hcs:H.at_ u13=some (.list cs)) (h25:H.at_ x25=some (.list (fL txt cs p))) (hp:p<=txt.length) (hb:txt.length+cs.length<=500) (hi:∀v∈fL txt cs p,∃j,v=V.int j)
  {Kc:KB} (K:∀H',Up H H'->Kc false H'):
  ok (aR (.int p)) (λi26 H=>ok (bH (.ref x17) none (some i26)) (λx27 H=>ok (dI .Add x27 (.ref u13)) (λx28 H=>ok (aR (.int p)) (λi29 H=>ok (bH (.ref x17) (some i29) none) (λx30 H=>ok (dI .Add x28 x30) (λx31 H=>ok (bQ .NotEq (.ref x25) x31) Kc H) H) H) H) H) H) H:=by
 refine aP<|fR h17 (yY hp) (by lia)<|wr List.drop_zero ?_
 have f1:Up H (H.add (.list (txt.take p))):=.add w;have g1:(H.add (.list (txt.take p))).at_ H.nx=some (.list (txt.take p)):=ar;have c1:=f1.at_ w hcs λq=>q;generalize H.nx=a1 at g1;generalize H.add (.list (txt.take p))=H1 at f1 g1 c1;refine jB g1 c1 (by simp;exact LY (by assumption)) ?_;have f2:Up H1 (H1.add (.list (txt.take p++cs))):=.add f1.wf;have g2:(H1.add (.list (txt.take p++cs))).at_ H1.nx=some (.list (txt.take p++cs)):=ar;have f02:=f1.trans f2;have t2:=f02.at_ w h17 λq=>q;generalize H1.nx=a2 at g2;generalize H1.add (.list (txt.take p++cs))=H2 at f2 g2 t2 f02;refine aP<|fR t2 (yZ hp) (by lia)<|wr List.take_length ?_
 have f3:Up H2 (H2.add (.list (txt.drop p))):=.add f2.wf;have g3:(H2.add (.list (txt.drop p))).at_ H2.nx=some (.list (txt.drop p)):=ar;have g23:=f3.at_ f2.wf g2 λq=>q;have f03:=f02.trans f3;generalize H2.nx=a3 at g3;generalize H2.add (.list (txt.drop p))=H3 at f3 g3 g23 f03;refine jB g23 g3 (by simp;exact LZ (by assumption) (by assumption)) ?_;have f4:Up H3 (H3.add (.list (txt.take p++cs++txt.drop p))):=.add f3.wf;have f04:=f03.trans f4;exact Be (ux (f04.at_ w h25 λq=>q) ar hi) (K _ f04)
end
end Mi
namespace Mi
open PySem
section
variable {H H':AH}{S:Nat->Prop}{k:Nat}{Q Kc:KV}{QB:KB}{b b':Nat}{i:BI}{txt cs:List V}{pt:Int}{pv ov:V}{gl pr tr oh ru n nc p m:Nat}{D:List Int}{L:List E3}{ps ps':List aO}{dk dl c:Nat}{cells:List Int}
noncomputable def lV (sc:V) (dk bu ru li:Nat) (o1 o2 o3 o4 o5 o6 o7 o8:Option V):ao:=[("script",some sc),("deck",some (.ref dk)),("buffer",some (.ref bu)),("rules",some (.ref ru)),("beat",o1),("lines",some (.ref li)),("number",o2),("at",o3),("codes",o4),("seen",o5),("signs",o6),("came",o7),("bare",o8)]
theorem HU {j:Nat}{u:V}(hu:([V.int 1,.int 2,.int 3])[j]? =some u):u=.int (j+1:Nat)/\([1,2,3]:List Int).take (j+1)=([1,2,3]:List Int).take j++[((j+1:Nat):Int)]/\j<3:=by
 match j,hu with
 |0,hu=>obtain rfl:=Option.some.inj hu;exact⟨rfl,rfl,by exact Nat.succ_pos _⟩
 |1,hu=>obtain rfl:=Option.some.inj hu;exact⟨rfl,rfl,by decide⟩
 |2,hu=>obtain rfl:=Option.some.inj hu;exact⟨rfl,rfl,by exact Nat.le_refl _⟩
 |j+3,hu=>simp at hu
noncomputable def BL (ps:List aO) (p:Nat) (D:List Int):List PV:=[1,2,3].map λx=>jk (cO ps p) (dG ps p) D x (decide (0<p))
theorem Fo {sc:V}{ns li:Nat}{vb vc vs:V}{o2 o7 o8:Option V}(h:Fu H i txt pt gl pr tr oh ru D L ps) (hp:p<=ps.length) (t:BX b H ns (ps.map row))
  (K:∀H' nr,mi H.nx H' (.ref nr) (BL ps p D)->Up H H'->Kc (.ref nr) H'):
  ok (ba (.tup [(V.int 1),(V.int 2),(V.int 3)])) (λx18 H=>ok (aF x18) (λl19 H=>ok (dC (aa (k+7)) (fD "law") 24 [6,0,3] 0 (lV sc dk i.bu ru li (some vb) o2 (some (.int p)) (some vc) (some (.ref ns)) (some vs) o7 o8) x18 l19) (λout20 H=>ok (ba (.list out20)) Kc H) H) H) H:=by
 have w:=h.tp.sq.wf;refine aB (by rfl) ?_;have f1:Up H (H.add (.tup [.int 1,.int 2,.int 3])):=.add w;have g1:(H.add (.tup [.int 1,.int 2,.int 3])).at_ H.nx=some (.tup [.int 1,.int 2,.int 3]):=ar;generalize H.nx=n1 at g1;generalize H.add (.tup [.int 1,.int 2,.int 3])=H1 at f1 g1;refine cz (dB g1)<|ee (I:=λj acc ρ H2=>(∃oc,ρ=(([(".0",none),("number",oc)]:ao)++lV sc dk i.bu ru li (some vb) o2 (some (.int p)) (some vc) (some (.ref ns)) (some vs) o7 o8))/\Up H1 H2/\aS (VP H2) acc ((([1,2,3]:List Int).take j).map λx=>jk (cO ps p) (dG ps p) D x (decide (0<p)))) ⟨⟨_,P.GH _ _ _ _ _ _ _ _ _ _ _ _ _⟩,.refl f1.wf,trivial⟩ zV ?_ (by kernel_rfl) ?_ ?_
 .rintro j acc ρ H2 ⟨-,f,-⟩;exact dB (f.at_ f1.wf g1 λq=>q)
 .rintro j acc ρ H2 u hu ⟨⟨oc,rfl⟩,f,a⟩
  unfold lV;refine wr (P.IX _ _ _ _ _ _ _ _ _ _ _ _ _ _ _ _ _ _)<|mE (HU hu) λhx ex hj=>?_
  subst hx;have f2:=f1.trans f;refine AR (k:=k) (h.up f2) hp (t.up w f2) hj λH3 a3 f3 v3=>⟨⟨_,rfl⟩,f.trans f3,?_⟩;refine wr ex (wr List.map_append ?_);exact aS.app (a.mono λu_ u_ q=>q.up f.wf f3) ⟨v3,trivial⟩
 .rintro acc ρ H2 ⟨-,f,a⟩
  have ll:=a.len;refine aY f.wf (by refine wr ll ?_;show 3<=1000;decide) λH3 m f3 g3 hm u_=>?_;have n1:=f1.nx;have n2:=f.nx;exact K H3 m ⟨m,acc,rfl,by lia,g3,a.mono λu_ u_ q=>q.up f.wf f3⟩ ((f1.trans f).trans f3)
theorem B4 {ns nr n38:Nat}{X:List (List PV)}{xs:List PV}(w:Wf H) (t:BX b H ns X) (r:mi b H (.ref nr) xs) (hc:H.at_ nc=some (.list cs)) (t2:BX b' H n38 (X.take p++(List.replicate cs.length xs++X.drop p))) (hp:p<=X.length) (hb:X.length+cs.length<=500)
  {Kc:KB} (K:∀H',Up H H'->Kc false H'):
  ok (aR (.int p)) (λi39 H=>ok (bH (.ref ns) none (some i39)) (λx40 H=>ok (ba (.list [.ref nr])) (λx41 H=>ok (cE .len [.ref nc]) (λx42 H=>ok (dI .Mult x41 x42) (λx43 H=>ok (dI .Add x40 x43) (λx44 H=>ok (aR (.int p)) (λi45 H=>ok (bH (.ref ns) (some i45) none) (λx46 H=>ok (dI .Add x44 x46) (λx47 H=>ok (bQ .NotEq (.ref n38) x47) Kc H) H) H) H) H) H) H) H) H) H:=by
 refine pZ (id t) λe0 us e1 a1=>?_;have ll:=a1.len;refine aP<|fR e1 (yY (by lia)) (by lia)<|wr List.drop_zero ?_
 have f1:Up H (H.add (.list (us.take p))):=.add w;have g1:(H.add (.list (us.take p))).at_ H.nx=some (.list (us.take p)):=ar;generalize H.nx=a1' at g1;generalize H.add (.list (us.take p))=H1 at f1 g1;refine aY f1.wf (by simp) λH2 n2 f2 g2 u_ u_=>?_;have f02:=f1.trans f2;refine aZ (f02.at_ w hc λq=>q) ?_;refine vL (n:=cs.length) g2 (by lia) (by simp;lia) ?_;refine wr vp ?_;have f3:Up H2 (H2.add (.list (List.replicate cs.length (V.ref nr)))):=.add f2.wf;have g3:(H2.add (.list (List.replicate cs.length (V.ref nr)))).at_ H2.nx=some (.list (List.replicate cs.length (V.ref nr))):=ar;have f03:=f02.trans f3;have g13:=(f2.trans f3).at_ f1.wf g1 λq=>q;generalize H2.nx=a3 at g3;generalize H2.add (.list (List.replicate cs.length (V.ref nr)))=H3 at f3 g3 f03 g13;refine jB g13 g3 (by simp;exact LY (by lia)) ?_;have f4:Up H3 (H3.add (.list (us.take p++List.replicate cs.length (V.ref nr)))):=.add f3.wf;have g4:(H3.add (.list (us.take p++List.replicate cs.length (V.ref nr)))).at_ H3.nx=some (.list (us.take p++List.replicate cs.length (V.ref nr))):=ar;have f04:=f03.trans f4;generalize H3.nx=a4 at g4;generalize H3.add (.list (us.take p++List.replicate cs.length (V.ref nr)))=H4 at f4 g4 f04;refine aP<|fR (f04.at_ w e1 λq=>q) (yZ (by lia)) (by lia)<|wr List.take_length ?_
 have f5:Up H4 (H4.add (.list (us.drop p))):=.add f4.wf;have g5:(H4.add (.list (us.drop p))).at_ H4.nx=some (.list (us.drop p)):=ar;have g45:=f5.at_ f4.wf g4 λq=>q;have f05:=f04.trans f5;generalize H4.nx=a5 at g5;generalize H4.add (.list (us.drop p))=H5 at f5 g5 g45 f05;refine jB g45 g5 (by simp;exact LZ (by lia) (by lia)) ?_;have f6:Up H5 (H5.add (.list (us.take p++List.replicate cs.length (V.ref nr)++us.drop p))):=.add f5.wf;have g6:(H5.add (.list (us.take p++List.replicate cs.length (V.ref nr)++us.drop p))).at_ H5.nx=some (.list (us.take p++List.replicate cs.length (V.ref nr)++us.drop p)):=ar;generalize H5.nx=a6 at g6;generalize H5.add (.list (us.take p++List.replicate cs.length (V.ref nr)++us.drop p))=H6 at f6 g6;have f06:=f05.trans f6;have keep:∀m l,b<=m->H.at_ m=some (.list l)->H6.at_ m=some (.list l):=λm l u_ e=>f06.at_ w e λq=>q;have tt:aS (mi b H6) (us.take p++List.replicate cs.length (V.ref nr)++us.drop p) (X.take p++(List.replicate cs.length xs++X.drop p)):=by
  refine wr (List.append_assoc _ _ _) ?_;have a6:aS (mi b H6) us X:=a1.mono λu_ u_ q=>q.keep (Up.tk w f06) keep;exact(a6.take p).app (aS.app (.rep (r.keep (Up.tk w f06) keep)) (a6.drop p))
 exact Be (DL (b':=0) (t2.up w f06) ⟨Nat.zero_le _,_,g6,tt.mono λu_ u_ z=>bV z λm vs q1 q2 q3=>⟨m,vs,q1,Nat.zero_le _,q3⟩⟩) (K _ f06)
theorem bx.rows {ps ps':List aO}(h:bx ps ps'):ps.map row=ps'.map row:=aS.ind (P:=λa b=>a.map row=b.map row) h rfl λa b u_ u_ r u_ i=>by
 refine wr List.map_cons (wr List.map_cons (wr i ?_))
 congr 1
 show[bg a 1,bg a 2,bg a 3]=[bg b 1,bg b 2,bg b 3];unfold bg;exact wr (r _) (wr (r _) (wr (r _) rfl))
theorem JK.rows (h:JK ps ps' p m D):ps'.map row=(ps.map row).take p++(List.replicate m (BL ps p D)++(ps.map row).drop p):=by
 refine bW h λr h1 h2=>wr (h2.rows.symm) (wr List.map_append (wr List.map_append (wr List.map_take (wr List.map_drop (wr List.map_replicate ?_)))));have:row r=BL ps p D:=by
  show[bg r 1,bg r 2,bg r 3]=_;refine wr (h1 1 rfl) (wr (h1 2 rfl) (wr (h1 3 rfl) ?_));rfl
 exact wr this rfl
end
end Mi
namespace Mi
open PySem
section
variable {H H':AH}{S:Nat->Prop}{k:Nat}{Q Kc:KV}{QB:KB}{b b':Nat}{i:BI}{txt cs:List V}{pt:Int}{pv ov:V}{gl pr tr oh ru n nc p m:Nat}{D:List Int}{L:List E3}{ps ps':List aO}{dk dl c:Nat}{cells:List Int}
theorem Hf {sc:V}{li:Nat}{z:Int}{o1 o2 o3 o4 o5 o6 o7 o8:Option V}{Kf:KF}(h:Wd H i dk dl cells c txt pt gl pr tr oh ru D L ps) (hc:c+2<=900) (ht:txt.length<=90) (hg:gl<=100) (hL:L.length<=100)
  (K:∀H' txt' pt' L' ps' o3 o4 o5 o6 o7,Wd H' i dk dl cells (c+2) txt' pt' (gl+8) pr tr oh ru D L' ps'->txt'.length<=txt.length+2->L'.length<=L.length+4->RK H H'->Kf .next (lV sc dk i.bu ru li (some (.int z)) o2 o3 o4 o5 o6 o7 o8) H'):
  fC (aa (k+13)) (fD "law") 7 [6] (lV sc dk i.bu ru li o1 o2 o3 o4 o5 o6 o7 o8) (.int z) Kf H:=by
 unfold lV;refine P.IC<|EM (k:=k+11) h (by exact Nat.le_trans (Nat.le_add_right _ _) (by assumption)) (by exact Nat.le_trans (by assumption) (by decide)) λH1 p hp h1 r1=>?_
 refine aT ?_;refine wr (show((p+1:Nat):Int)-1=(p:Nat) by lia) ?_;refine aC ?_;refine Df (k:=k+12) h1 (by exact Nat.le_of_lt (by assumption)) λH2 nc m hm h2 c2 b2 r2=>?_;have len2:=h2.fu.len;refine A6 (k:=k+8) h2.fu (by exact Nat.le_trans (Nat.le_of_eq (by assumption)) (Nat.le_trans (by assumption) (by decide))) λH3 ns t3 f3=>?_;have lcl:=h2.fu.bf.lt h2.wf;have ncl:nc≠i.cl:=by have:=h1.fu.bf.lt h1.wf;exact Nat.ne_of_gt (Nat.lt_of_lt_of_le (by assumption) (by assumption))
 refine aB (by rfl) ?_;have f4:Up H3 (H3.add (.tup [.ref nc,.ref ns])):=.add f3.wf;refine eL ar ?_;have t4:=t3.up f3.wf f4;have f24:=f3.trans f4;generalize H3.add (.tup [.ref nc,.ref ns])=H4 at f4 t4 f24;have h4:=h2.up f24;refine ug (k:=k+11) h4.wf h4.fu.bf λH5 sg g5 b5 f5=>?_;have t5:=t4.up f4.wf f5;have f25:=f24.trans f5;have h5:=h4.up f5;refine Fo (k:=k+6) h5.fu (by lia) t5 λH6 nr r6 f6=>?_;have h6:=h5.up f6;have t6:=t5.up f5.wf f6;have f26:=f25.trans f6;have c6:=f26.at_ h2.wf c2 λq=>q;have g6:=f6.at_ f5.wf g5 λq=>q;have b26:=f24.nx;have b25:=f25.nx;have lc:(List.replicate m (V.int (50+z))).length=m:=List.length_replicate;have ci:∀v∈List.replicate m (V.int (50+z)),∃j,v=V.int j:=λv hv=>⟨_,(List.mem_replicate.mp hv).2⟩;refine Aw (k:=k) h6.fu hp rfl c6 ncl.symm ci (by lia) (by lia) λH7 L7 ps7 fu7 ca7 len7 f7=>?_;have h7:Wd H7 i dk dl cells (c+1+1) _ _ _ pr tr oh ru D L7 ps7:=⟨fu7,h6.lW.fs h6.fu h6.n1 h6.n2 f7,h6.n1,h6.n2⟩;have w6:=h6.wf;have keep:∀x l,H2.nx<=x->H6.at_ x=some (.list l)->H7.at_ x=some (.list l):=λx l hx e=>f7.at_ w6 e (Bw h6.fu e (by exact Nat.ne_of_gt (Nat.lt_of_lt_of_le (by assumption) (by assumption))));have t7:=t6.keep (TK.fs h6.fu f7) keep;have n7:=r6.keep (TK.fs h6.fu f7) λx l hx=>keep x l (by exact Nat.le_trans (by assumption) (by assumption));have n7:mi H2.nx H7 (.ref nr) (BL ps p D):=by
  refine bV n7 λx vs q1 q2 q3=>⟨x,vs,q1,by exact Nat.le_trans (by assumption) (by assumption),q3⟩
 have g7:=keep _ _ (by lia) g6;have c7:=f7.at_ w6 c6 (Bw h6.fu c6 ncl);have rk7:RK H H7:=r1.trans (r2.trans ((RK.up h2.wf f26).trans (.fs h6.fu f7)));have in7:=fu7.bf.ints;generalize hcs:List.replicate m (V.int (50+z))=cs at*;refine ug (k:=k+11) h7.wf h7.fu.bf λH8 s8 g8 b8 f8=>?_;have w7:=h7.wf;refine DJ f8.wf (f8.at_ w7 g7 λq=>q) (f8.at_ w7 c7 λq=>q) g8 hp (by lia) in7 λH9 f9=>?_;have f79:=f8.trans f9;have h9:=h7.up f79;refine fP h9.fu.bf.ob λtk ct hb9=>?_;have c9:=f79.at_ w7 c7 λq=>q;refine fq hb9 (aC (aZ c9 (aC (pK ?_))));refine iI (show((((p+1:Nat):Int)+(cs.length:Nat))==((p:Int)+1+(cs.length:Nat)))=true from beq_iff_eq.mpr (by lia)) ?_;have l9:=h9.fu.len;have li9:(fL txt cs p).length=txt.length+cs.length:=ji (by assumption);refine A6 (k:=k+8) h9.fu (by lia) λH10 n10 t10 f10=>?_;have f70:=f79.trans f10;have t7':=t7.up w7 f70;have len6:=h6.fu.len;refine B4 f10.wf t7' (n7.keep (Up.tk w7 f70) λu_ u_ u_ e=>f70.at_ w7 e λq=>q) (f70.at_ w7 c7 λq=>q) (by refine wr (ca7.rows.symm) ?_;exact t10) (by refine wr (List.length_map _) ?_;lia) (by refine wr (List.length_map _) ?_;lia) λH11 f11=>?_;exact K H11 _ _ L7 ps7 _ _ _ _ _ (h7.up (f70.trans f11)) (by lia) (by assumption) (rk7.trans (.up w7 (f70.trans f11)))
end
end Mi
namespace Mi
open PySem
section
variable {H H':AH}{S:Nat->Prop}{k:Nat}{Q Kc:KV}{QB:KB}{i:BI}{txt cs:List V}{pt:Int}{pv ov:V}{gl pr tr oh ru n nc p m:Nat}{D:List Int}{L:List E3}{ps ps':List aO}{dk dl c:Nat}{cells:List Int}{tab:Tab}
noncomputable def lO (sc:V) (a b c d:Option V):ao:=[("script",some sc),("deck",a),("buffer",b),("rules",c),("beat",none),("lines",d),("number",none),("at",none),("codes",none),("seen",none),("signs",none),("came",none),("bare",none)]
theorem Fc {script:List Int}(w:Wf H) (K:∀H' dk dl cells,Dk H' dk dl cells 0->Wf H'->Kc (.ref dk) H'):
  ok (aR (V.int 63)) (λi1 H=>ok (bH (.ext script) none (some i1)) (λx2 H=>ok (aF x2) (λl3 H=>ok (dC tab (fD "law") 21 [0] 0 (lO (.ext script) none none none none) x2 l3) (λout4 H=>ok (ba (.list out4)) (λx5 H=>ok (ba (.list [x5,(V.int 0)])) Kc H) H) H) H) H) H:=by
 refine aP ?_;have lt:(script.take (63:Int).toNat).length<=63:=by refine wr List.length_take ?_;exact Nat.min_le_left _ _
 have e1:bH (.ext script) none (some 63)=ba (.list ((script.take (63:Int).toNat).map V.int)):=by
  unfold bH;dsimp only;exact wr (if_pos (by exact Int.natCast_nonneg _)) rfl
 refine wr e1 ?_;generalize script.take (63:Int).toNat=s at lt;refine aY w (by refine wr (List.length_map _) ?_;exact Nat.le_add_left_of_le (by assumption)) λH1 n1 f1 g1 u_ u_=>?_;refine cz (aD g1)<|ee (I:=λj acc ρ H2=>(∃oc,ρ=(([(".0",none),("cell",oc)]:ao)++lO (.ext script) none none none none))/\H2=H1/\acc=((s.take j).map nZ).map V.int) ⟨⟨_,P.GK _ _ _ _ _ _ _ _ _ _ _ _ _⟩,rfl,rfl⟩ ?_ ?_ (by kernel_rfl) ?_ ?_
 .intro u hu;refine bW (List.mem_map.mp hu) λy u_ z1=>?_;subst z1;rfl
 .rintro j acc ρ H2 ⟨-,rfl,-⟩;exact aD g1
 .rintro j acc ρ H2 u hu ⟨⟨oc,rfl⟩,rfl,rfl⟩
  unfold lO;refine wr (P.I0 _ _ _ _ _ _ _ _ _ _ _ _ _ _ _ _ _ _) ?_;have hu:(s.map V.int)[j]? =some u:=hu;rw[List.getElem?_map] at hu;refine bW (Option.map_eq_some_iff.mp hu) λy hy z2=>?_;subst z2;refine aq<|⟨⟨_,rfl⟩,rfl,?_⟩
  refine wr List.take_add_one (wr hy ?_);simp
 .rintro acc ρ H2 ⟨-,rfl,rfl⟩
  have hl:((s.map V.int).length)=s.length:=List.length_map ..;refine wr (show((0,s.map V.int):Nat×List V).2.length=s.length from hl) (wr List.take_length ?_);refine aY f1.wf (by simp;exact Nat.le_trans (by assumption) (by decide)) λH3 dl f3 g3 h3 u_=>?_;refine aY f3.wf (by simp) λH4 dk f4 g4 h4 u_=>?_;exact K H4 dk dl (s.map nZ) ⟨g4,f4.at_ f3.wf g3 λq=>q,by simp;assumption⟩ f4.wf
theorem Rows.fm {X:Nat->Prop}(t:TK H H') (hp:∀n p,PL H n p->PL H' n p) {vs:List V}{rs:List (Nat×aO)}(x:Rows H vs rs):Rows H' vs rs:=aS.mono (λu_ u_ q=>q.imp λu_ q=>q.imp λu_ q=>⟨q.1,t _ _ q.2.1,hp _ _ q.2.2⟩) x
theorem Rows.G8 {vs:List V}{rs:List (Nat×aO)}(w:Wf H) (h:Dk H dk dl cells c) (f:Fm (λx=>x=dk) H H') (x:Rows H vs rs):Rows H' vs rs:=x.fm (X:=λu_=>True) (A3 w h f) λu_ u_ q=>q.G8 w h f
theorem HA (w:Wf H) (h:Dk H dk dl cells c) (f:Fm (λx=>x=dk) H H'):RK H H':=.of w f λm x e q=>by rw[q,h.ob] at e;exact nO e rfl
theorem CU {sc:V}{vb vr:V}(w:Wf H) (h:Dk H dk dl cells c) (hc:c<=100)
  (K:∀H' nl vs rs c',H'.at_ nl=some (.list vs)->Rows H' vs rs->(∀r∈rs,0<r.1/\Good r.2)->(∀r∈rs,r.1<=3)->rs.length<=2->Dk H' dk dl cells c'->c'<=c+25->Fm (λx=>x=dk) H H'->H.nx<=nl->Kc (.ref nl) H'):
  ok (ae (aa (k+2)) "_law_draw" [.ref dk,(V.int 3)]) (λx13 H=>ok (cE .range [x13]) (λx14 H=>ok (aF x14) (λl15 H=>ok (dC (aa (k+2)) (fD "law") 24 [2] 0 (lO sc (some (.ref dk)) (some vb) (some vr) none) x14 l15) (λout16 H=>ok (ba (.list out16)) Kc H) H) H) H) H:=by
 refine pP (k:=k+1) (m:=3) w h (by exact Nat.succ_pos _) (by decide) (by exact Nat.le_add_left_of_le (by assumption)) λH1 N hN h1 f1=>hQ (by exact Nat.le_trans (Nat.le_of_lt_succ (by assumption)) (by decide)) ?_;have f2:Up H1 (H1.add (.rng (N:Nat))):=.add f1.wf;have r2:(H1.add (.rng (N:Nat))).at_ H1.nx=some (.rng (N:Nat)):=ar;generalize H1.nx=r at r2;generalize H1.add (.rng (N:Nat))=H2 at f2 r2;refine cz (fK r2) ?_;have d2:=h1.up f1.wf f2;have f02:=f1.trans (f2.aE λu_ q=>q.elim);refine ee (I:=λj acc ρ H3=>(∃oc,ρ=(([(".0",none),("beat",oc)]:ao)++lO sc (some (.ref dk)) (some vb) (some vr) none))/\Fm (λx=>x=dk) H H3/\H3.at_ r=some (.rng (N:Nat))/\(∃c',Dk H3 dk dl cells c'/\c'<=c+1+12*j)/\∃rs,Rows H3 acc rs/\(∀r∈rs,0<r.1/\Good r.2)/\(∀r∈rs,r.1<=3)/\rs.length=j) ⟨⟨_,P.GJ _ _ _ _ _ _ _ _ _ _ _ _ _⟩,f02,r2,⟨_,d2,by exact Nat.le_refl _⟩,[],trivial,λu_ h=>(nomatch h),λu_ h=>(nomatch h),rfl⟩ ?_ ?_ (by kernel_rfl) ?_ ?_
 .intro v hv;refine bW (List.mem_map.mp hv) λj u_ z3=>?_;subst z3;rfl
 .rintro j acc ρ H3 ⟨-,-,r3,-⟩;exact fK r3
 .rintro j acc ρ H3 u hu ⟨⟨oc,rfl⟩,f3,r3,⟨c3,d3,hc3⟩,rs,a3,g3,b3,l3⟩
  unfold lO;refine wr (P.IZ _ _ _ _ _ _ _ _ _ _ _ _ _ _ _ _ _ _) ?_;obtain⟨hj,hx⟩:=List.getElem?_eq_some_iff.mp hu;simp at hj hx;subst hx;refine pP (k:=k+1) (m:=3) f3.wf d3 (by exact Nat.succ_pos _) (by decide) (by lia) λH4 d hd d4 f4=>?_;have a4:=a3.G8 f3.wf d3 f4;refine aC (lD (by decide) (by lia) ?_);have r4:=HA f3.wf d3 f4 _ _ r3;refine wa (k:=k) f4.wf d4 (by lia) λH5 n p c5 pl5 g5 d5 hc5 hn5 f5=>?_;have a5:=a4.G8 f4.wf d4 f5;have r5:=HA f4.wf d4 f5 _ _ r4;refine aB (by rfl) ?_;have e1:(1:Int)+(d:Nat)=((d+1:Nat):Int):=by lia
  refine wr e1 ?_;have f6:Up H5 (H5.add (.tup [.int (d+1:Nat),.ref n])):=.add f5.wf;refine⟨⟨_,rfl⟩,(f3.trans (f4.trans f5)).trans (f6.aE λu_ q=>q.elim),f6.at_ f5.wf r5 λq=>q,⟨c5,d5.up f5.wf f6,by lia⟩,rs++[(d+1,p)],(a5.up f5.wf f6).app ⟨⟨_,n,rfl,ar,pl5.up f5.wf f6⟩,trivial⟩,?_,?_,by simp;assumption⟩
  .intro x hx
   rcases List.mem_append.mp hx with q|q
   .exact g3 x q
   .simp at q;subst q;exact⟨Nat.succ_pos _,g5⟩
  .intro x hx
   rcases List.mem_append.mp hx with q|q
   .exact b3 x q
   .simp at q;subst q;show d+1<=3;assumption
 .rintro acc ρ H3 ⟨-,f3,r3,⟨c3,d3,hc3⟩,rs,a3,g3,b3,l3⟩
  have ll:=a3.len;have e2:((2,(List.range N).map λ(i:Nat)=>V.int (Int.ofNat i)):Nat×List V).2.length=N:=by simp
  have l4:rs.length=N:=l3.trans e2;have hc4:c3<=c+1+12*N:=by refine wr (e2.symm) ?_;exact hc3
  refine aY f3.wf (by lia) λH4 nl f4 g4 hn u_=>?_;have:=f3.nx;exact K H4 nl acc rs c3 g4 (a3.up f3.wf f4) g3 b3 (by lia) (d3.up f3.wf f4) (by lia) (f3.trans (f4.aE λu_ q=>q.elim)) (by lia)
end
end Mi
namespace Mi
open PySem
section
variable {H H':AH}{S:Nat->Prop}{k:Nat}{Q Kc:KV}{QB:KB}{QU:Unit->AH->Prop}{i:BI}{txt cs:List V}{pt:Int}{pv ov:V}{gl pr tr oh ru n nc p m:Nat}{D:List Int}{L:List E3}{ps ps':List aO}{dk dl c:Nat}{cells:List Int}{tab:Tab}{rs:List (Nat×aO)}
theorem DO:∀{rs:List (Nat×aO)},(∀r∈rs,r.1<=3)->sumInts (rs.map λr=>V.int r.1)=some ((flat rs).length:Nat)
 |[],_=>rfl
 |r::rs,h=>by
  have h1:=h r (List.mem_cons_self ..);show(if((r.1:Nat):Int).natAbs<=1000000 then(sumInts (rs.map λr=>V.int r.1)).map ((r.1:Int)+·) else none)=_;refine wr (if_pos (by exact Nat.le_add_left_of_le (by assumption))) (wr (DO λx hx=>h x (List.mem_cons_of_mem _ hx)) ?_);show some ((r.1:Int)+((flat rs).length:Nat))=some (((List.replicate r.1 r.2++flat rs).length:Nat):Int);refine wr List.length_append (wr List.length_replicate ?_);congr 1
theorem rG:∀{rs:List (Nat×aO)},(∀r∈rs,r.1<=3)->(flat rs).length<=3*rs.length
 |[],_=>Nat.le_refl _
 |r::rs,h=>by
  have h1:=h r (List.mem_cons_self ..);have h2:=rG λx hx=>h x (List.mem_cons_of_mem _ hx);show(List.replicate r.1 r.2++flat rs).length<=_;refine wr List.length_append (wr List.length_replicate (wr List.length_cons ?_));lia
theorem Es {sc vd vb vr:V}{nl:Nat}{vs:List V}(w:Wf H) (hn:H.at_ nl=some (.list vs)) (hr:Rows H vs rs) (h3:∀r∈rs,r.1<=3) (hl:rs.length<=2)
  (K:∀H' nc,H'.at_ nc=some (.list ((List.range (flat rs).length).map λi=>.int (Int.ofNat i)))->Up H H'->H.nx<=nc->Kc (.ref nc) H'):
  ok (aF (.ref nl)) (λl18 H=>ok (dC tab (fD "law") 19 [3] 0 (lO sc (some vd) (some vb) (some vr) (some (.ref nl))) (.ref nl) l18) (λout19 H=>ok (ba (.list out19)) (λx20 H=>ok (cE .sum [x20]) (λx21 H=>ok (cE .range [x21]) (λx22 H=>ok (cE .list [x22]) Kc H) H) H) H) H) H:=by
 refine cz (aD hn)<|ee (I:=λj acc ρ H2=>(∃o1 o2,ρ=(([(".0",none),("many",o1),("plist",o2)]:ao)++lO sc (some vd) (some vb) (some vr) (some (.ref nl))))/\H2=H/\acc=(rs.take j).map λr=>V.int r.1) ⟨⟨_,_,P.GI _ _ _ _ _ _ _ _ _ _ _ _ _⟩,rfl,rfl⟩ ?_ ?_ (by kernel_rfl) ?_ ?_
 .intro u hu;obtain⟨j,hj,rfl⟩:=List.mem_iff_getElem.mp hu;refine eK (hr.get (List.getElem?_eq_getElem hj)) λr m n u_ e u_=>?_;refine wr e ?_;rfl
 .rintro j acc ρ H2 ⟨-,rfl,-⟩;exact aD hn
 .rintro j acc ρ H2 u hu ⟨⟨o1,o2,rfl⟩,rfl,rfl⟩
  unfold lO;refine wr (P.IY _ _ _ _ _ _ _ _ _ _ _ _ _ _ _ _ _ _ _) ?_;refine eg (hr.get hu) λr m n er z2 hm u_=>?_;subst z2;refine eL hm ⟨⟨_,_,rfl⟩,rfl,?_⟩;refine wr List.take_add_one (wr er ?_);simp
 .rintro acc ρ H2 ⟨-,rfl,rfl⟩
  have ll:=hr.len;refine wr (show((0,vs):Nat×List V).2.length=rs.length from ll) (wr List.take_length ?_);refine aY w (by simp;exact Nat.le_add_left_of_le (by assumption)) λH3 n f3 g3 u_ u_=>?_;have fl:=rG h3;refine ah ⟨(n,rs.map λr=>V.int r.1),H3,?_,?_⟩
  .show(look n H3>>=λp=>(match p.1 with|.list l=>pure (n,l)|_=>ak:AM (Nat×List V)) p.2)=_;have h2:look n H3=some (.list (rs.map λr=>V.int r.1),H3):=by unfold look;exact wr g3 rfl
   refine wr h2 ?_;rfl
  show ok (match sumInts (rs.map λr=>V.int r.1) with|some i=>pure (V.int i)|none=>ak) _ H3;refine wr (DO h3)<|aq<|hQ (by lia) ?_
  have f4:Up H3 (H3.add (.rng ((flat rs).length:Nat))):=.add f3.wf;have r4:(H3.add (.rng ((flat rs).length:Nat))).at_ H3.nx=some (.rng ((flat rs).length:Nat)):=ar;have n3:=f3.nx;generalize H3.nx=r at r4 n3;generalize H3.add (.rng ((flat rs).length:Nat))=H4 at f4 r4;refine ah ⟨(List.range (flat rs).length).map λ(i:Nat)=>V.int (Int.ofNat i),H4,?_,?_⟩
  .show(look r H4>>=λp=>(match p.1 with
    |.list l=>pure l
    |.tup l=>pure l
    |.rng k=>pure ((List.range k.toNat).map λ(i:Nat)=>V.int (Int.ofNat i))
    |_=>ak:AM (List V)) p.2)=_
   have h2:look r H4=some (.rng ((flat rs).length:Nat),H4):=by unfold look;exact wr r4 rfl
   refine wr h2 ?_;rfl
  .refine aY f4.wf (by simp;lia) λH5 m f5 g5 hm u_=>?_;have:=f3.nx;have:=f4.nx;exact K H5 m g5 ((f3.trans f4).trans f5) (by lia)
theorem AB (w:Wf H) (h:Bf H i [] 1 .none .none 8) (hc:H.at_ nc=some (.list cs)) (ne:i.cl≠nc) (hci:∀v∈cs,∃j,v=V.int j) (hb:cs.length<=100)
  (K:∀H' gl pt,Bf H' i cs pt .none .none gl->gl<=16->Fm (BS i) H H'->Q .none H'):ok (ae (aa (k+6)) "insert" [.ref i.bu,.ref nc]) Q H:=by
 by_cases q:cs=[]
 .subst q;exact gx (p:=0) (k:=k+1) w h (Nat.zero_le _) rfl hc ne hci (by simp) (λu_ H1 f1=>K H1 8 1 (h.up w f1) (by decide) (f1.aE λu_ q=>q.elim)) λq=>absurd rfl q
 .refine iP (k:=k) (p:=0) w h (Nat.zero_le _) rfl hc ne hci q (by simp;lia) λH1 h1 f1=>?_;refine K H1 (8+8) (1+(cs.length:Nat)) ?_ (by exact Nat.le_refl _) f1;have:fL [] cs 0=cs:=by unfold fL;simp
  rwa [this] at h1
structure uR (H:AH) (ru:Nat) (D:List Int) (de rw:Nat):Prop where
 ex:∃li pd,H.at_ ru=some (zI li de)/\H.at_ li=some (gN pd)/\H.at_ pd=some (.dict [])/\pd≠de
 dd:H.at_ de=some (.dict (loose D))
 ne:rw≠de
theorem uR.J1 {de r:Nat}(h:uR H ru D de r):Ru H ru D:=by
 obtain⟨⟨li,pd,a,b,c,-⟩,d,-⟩:=h;exact⟨li,pd,de,a,b,c,d⟩
theorem uR.keep {X:Nat->Prop}{de r:Nat}(w:Wf H) (f:Fm X H H') (h1:∀m c fs,(c=("PropRules":Str)\/c=("PlainLisp":Str))->H.at_ m=some (.inst c fs)->¬X m) (h2:∀m l,H.at_ m=some (.dict l)->¬X m) (h:uR H ru D de r):uR H' ru D de r:=by
 obtain⟨⟨li,pd,a,b,c,e⟩,d,g⟩:=h;exact⟨⟨li,pd,f.at_ w a (h1 _ _ _ (.inl rfl) a),f.at_ w b (h1 _ _ _ (.inr rfl) b),f.at_ w c (h2 _ _ c),e⟩,f.at_ w d (h2 _ _ d),g⟩
theorem uR.up {de r:Nat}(w:Wf H) (f:Up H H') (h:uR H ru D de r):uR H' ru D de r:=h.keep w f (λu_ u_ u_ u_ u_ q=>q) λu_ u_ u_ q=>q
theorem uR.bs {de r:Nat}(h:Bf H i txt pt pv ov gl) (w:Wf H) (f:Fm (BS i) H H') (x:uR H ru D de r):uR H' ru D de r:=x.keep w f (λm c fs hc hm=>by
 rcases hc with rfl|rfl
 .exact fV h hm (by kernel_rfl) (by kernel_rfl)
 .exact fV h hm (by kernel_rfl) (by kernel_rfl)) λm l hm=>BN h hm
theorem uR.G8 {de r:Nat}(w:Wf H) (h:Dk H dk dl cells c) (f:Fm (λx=>x=dk) H H') (x:uR H ru D de r):uR H' ru D de r:=x.keep w f (λm c fs u_ hm=>fU h hm) λm l hm=>wK h hm
theorem CR {x:Int}{de:Nat}(h:Wd H i dk dl cells c txt pt gl pr tr oh ru D L ps) (r:uR H ru D de i.rw) (nd:D.Nodup) (hD:D.length<=100) (hx:x∉D)
  (K:∀H',Wd H' i dk dl cells c txt pt gl pr tr oh ru (D++[x]) L ps->uR H' ru (D++[x]) de i.rw->TK H H'->RK H H'->QU () H'):
  ok (aV (.ref ru) "defaults") (λx3 H=>ok (putItem x3 (.int x) (V.int 1)) QU H) H:=by
 obtain⟨⟨li,pd,a,b,e,ne⟩,d,g⟩:=id r;refine aQ a (by kernel_rfl) (v:=.ref de) (by kernel_rfl) ?_;unfold putItem;refine ah (dK d ?_);have w:=h.wf;have e1:(loose D).map (·.1)=D:=by unfold loose;refine wr List.map_map ?_;exact List.map_id' D
 show ok (if(dictFind x (loose D)).isNone/\((loose D).map (·.1)).Nodup then eB de (.dict (loose D++[(x,.int 1)])) else ak) QU H;refine wr gh (wr (if_neg hx) (wr e1 (wr (if_pos ⟨rfl,nd⟩) ?_)));have e2:loose D++[(x,V.int 1)]=loose (D++[x]):=by unfold loose;refine wr List.map_append ?_;rfl
 have ft:fits (.dict (loose (D++[x])))=true:=Nat.ble_eq_true_of_le (by show(loose (D++[x])).length<=1000;unfold loose;simp;exact Nat.le_add_left_of_le (by assumption));refine wr e2 ?_;refine eO ft ?_;have f:Fm (λm=>m=de) H (H.put de (.dict (loose (D++[x])))):=.put w d rfl;have di:∀{m c fs},H.at_ m=some (.inst c fs)->m≠de:=λe q=>by rw[q,d] at e;exact nO e rfl
 have dL:∀{m l},H.at_ m=some (.list l)->m≠de:=λe q=>by rw[q,d] at e;exact nO e rfl
 have dt:TK H (H.put de (.dict (loose (D++[x])))):=.of w f λm l e q=>by rw[q,d] at e;exact nO e rfl
 have rd:uR (H.put de (.dict (loose (D++[x])))) ru (D++[x]) de i.rw:=⟨⟨li,pd,f.at_ w a (di a),f.at_ w b (di b),f.at_ w e ne,ne⟩,cL,g⟩;refine K _ ⟨⟨?_,⟨f.at_ w h.fu.tp.ob (di h.fu.tp.ob),h.fu.tp.sq.fm f λm hm=>?_,h.fu.tp.cs.mono λu_ u_ x=>x.keep dt λl e=>f.at_ w e (dL e)⟩,h.fu.ov.keep λm c fs u_ e=>f.at_ w e (di e),rd.J1,h.fu.len,h.fu.good⟩,h.lW.keep w f (λq=>dL h.lW.ob q) λq=>dL h.lW.li q,h.n1,h.n2⟩ rd dt (.of w f λm x e q=>by rw[q,d] at e;exact nO e rfl)
 .obtain⟨⟨tk,ct,q1⟩,⟨x1,y,z,q2,q3⟩,q4,q5,q6,q7⟩:=h.fu.bf;exact⟨⟨tk,ct,f.at_ w q1 (di q1)⟩,⟨x1,y,z,q2.up w f (di q2.ob) (dL q2.li),q3⟩,f.at_ w q4 (di q4),f.at_ w q5 g,f.at_ w q6 (dL q6),q7⟩
 .intro q;subst q;exact uV h.fu.tp.sq d hm
end
end Mi
namespace Mi
open PySem
section
variable {H H':AH}{S:Nat->Prop}{k:Nat}{Q Kc:KV}{QB:KB}{QU:Unit->AH->Prop}{i:BI}{txt cs:List V}{pt:Int}{pv ov:V}{gl pr tr oh ru n nc p m li de:Nat}{D:List Int}{L:List E3}{ps ps':List aO}{dk dl c:Nat}{cells:List Int}{tab:Tab}{rs:List (Nat×aO)}{sc:V}
theorem HT {j:Nat}{u:V}(hu:([V.int 1,.int 2,.int 3])[j]? =some u):∃x:Int,u=.int x/\x∉([1,2,3]:List Int).take j/\([1,2,3]:List Int).take (j+1)=([1,2,3]:List Int).take j++[x]/\j<3:=by
 match j,hu with
 |0,hu=>obtain rfl:=Option.some.inj hu;exact⟨1,rfl,by simp,rfl,by exact Nat.succ_pos _⟩
 |1,hu=>obtain rfl:=Option.some.inj hu;exact⟨2,rfl,by simp,rfl,by decide⟩
 |2,hu=>obtain rfl:=Option.some.inj hu;exact⟨3,rfl,by simp,rfl,by exact Nat.le_refl _⟩
 |j+3,hu=>simp at hu
def ID (i:BI) (dk dl c ru li n1 gl pr tr oh de:Nat) (cells:List Int) (txt:List V) (pt:Int) (L:List E3) (ps:List aO) (sc:V) (j:Nat) (ρ:ao) (H2:AH):Prop:=∃D2 o2,ρ=lV sc dk i.bu ru li none o2 none none none none none none/\Wd H2 i dk dl cells (c+j) txt pt gl pr tr oh ru D2 L ps/\uR H2 ru D2 de i.rw/\D2.Sublist (([1,2,3]:List Int).take j)/\H2.at_ n1=some (.tup [.int 1,.int 2,.int 3])
theorem wL {Kr:Fl×ao->AH->Prop}(h:Wd H i dk dl cells c txt pt gl pr tr oh ru [] L ps) (r:uR H ru [] de i.rw) (hc:c<=800)
  (K:∀H' D' o2,Wd H' i dk dl cells (c+3) txt pt gl pr tr oh ru D' L ps->Kr (.next,lV sc dk i.bu ru li none o2 none none none none none none) H'):
  ok (ba (.tup [(V.int 1),(V.int 2),(V.int 3)])) (λx31 H=>ok (aF x31) (λl32 H=>ok (d9 (aa (k+1)) (fD "law") 7 [5] x31 l32 (lV sc dk i.bu ru li none none none none none none none none)) Kr H) H) H:=by
 have w:=h.wf;refine aB (by rfl) ?_;have f1:Up H (H.add (.tup [.int 1,.int 2,.int 3])):=.add w;have g1:(H.add (.tup [.int 1,.int 2,.int 3])).at_ H.nx=some (.tup [.int 1,.int 2,.int 3]):=ar;generalize H.nx=n1 at g1;generalize H.add (.tup [.int 1,.int 2,.int 3])=H1 at f1 g1;refine cz (dB g1)<|dJ (I:=ID i dk dl c ru li n1 gl pr tr oh de cells txt pt L ps sc) ⟨[],none,rfl,h.up f1,r.up w f1,.slnil,g1⟩ zV ?_ (by kernel_rfl) ?_ ?_
 .rintro j ρ H2 ⟨D2,o2,-,-,-,-,g2⟩;exact dB g2
 .rintro j ρ H2 u hu ⟨D2,o2,rfl,h2,r2,s2,g2⟩
  refine tY (HT hu) λx hx nx ex hj=>?_;subst hx;have hD:=s2.length_le;have lj:(([1,2,3]:List Int).take j).length<=3:=by simp;lia
  have nD:=(show([1,2,3]:List Int).Nodup by decide).sublist (s2.trans (List.take_sublist _ _));unfold lV;refine P.IF<|h2.draw (k:=k) (m:=4) (by exact Nat.succ_pos _) (by decide) (by lia) λH3 d hd h3 f3=>?_
  have r3:=r2.G8 h2.wf h2.lW f3;have g3:=A3 h2.wf h2.lW f3 _ _ g2;refine ej ?_
  by_cases q:((d:Nat):Int)=3
  .refine aM (show(((d:Nat):Int)==3)=true from beq_iff_eq.mpr q)<|CR h3 r3 nD (by lia) (λe=>nx (s2.subset e)) λH4 h4 r4 t4 k4=>?_
   exact⟨_,_,rfl,h4,r4,by refine wr ex ?_;exact s2.append (List.Sublist.refl _),t4 _ _ g3⟩
  .refine aJ (show(((d:Nat):Int)==3)=false from beq_eq_false_iff_ne.mpr q) ?_;exact⟨_,_,rfl,h3,r3,by refine wr ex ?_;exact s2.trans (List.sublist_append_left _ _),g3⟩
 .rintro ρ H2 ⟨D2,o2,rfl,h2,-⟩
  exact K H2 D2 o2 h2
def IE (i:BI) (dk dl c ru li gl pr tr oh d r:Nat) (cells:List Int) (D:List Int) (sc:V) (o2:Option V) (j:Nat) (ρ:ao) (H2:AH):Prop:=∃o1 o3 o4 o5 o6 o7,ρ=lV sc dk i.bu ru li o1 o2 o3 o4 o5 o6 o7 none/\(∃txt pt L ps,Wd H2 i dk dl cells (c+1+2*j) txt pt (gl+8*j) pr tr oh ru D L ps/\txt.length<=6+2*j/\L.length<=4+4*j)/\H2.at_ r=some (.rng (d+1:Nat))
theorem Dn {o2:Option V}{Kr:Fl×ao->AH->Prop}(h:Wd H i dk dl cells c txt pt gl pr tr oh ru D L ps) (hc:c<=800) (ht:txt.length<=6) (hg:gl<=16) (hL:L.length<=4)
  (K:∀H' o1 o3 o4 o5 o6 o7,Wf H'->Kr (.next,lV sc dk i.bu ru li o1 o2 o3 o4 o5 o6 o7 none) H'):
  ok (ae (aa (k+13)) "_law_draw" [.ref dk,(V.int 4)]) (λx2 H=>ok (dI .Add (V.int 1) x2) (λx3 H=>ok (cE .range [x3]) (λx4 H=>ok (aF x4) (λl5 H=>ok (d9 (aa (k+13)) (fD "law") 7 [6] x4 l5 (lV sc dk i.bu ru li none o2 none none none none none none)) Kr H) H) H) H) H:=by
 refine h.draw (k:=k+12) (m:=4) (by exact Nat.succ_pos _) (by decide) (by exact Nat.le_trans (by assumption) (by decide)) λH1 d hd h1 f1=>?_;refine aC ?_;refine wr (show(1:Int)+(d:Nat)=((d+1:Nat):Int) by lia) ?_;refine hQ (by exact Nat.le_add_left_of_le (by assumption)) ?_;have f2:Up H1 (H1.add (.rng (d+1:Nat))):=.add f1.wf;have r2:(H1.add (.rng (d+1:Nat))).at_ H1.nx=some (.rng (d+1:Nat)):=ar;generalize H1.nx=r at r2;generalize H1.add (.rng (d+1:Nat))=H2 at f2 r2;refine cz (fK r2)<|dJ (I:=IE i dk dl c ru li gl pr tr oh d r cells D sc o2) ⟨_,_,_,_,_,_,rfl,⟨txt,pt,L,ps,h1.up f2,ht,hL⟩,r2⟩ ?_ ?_ (by kernel_rfl) ?_ ?_
 .intro v hv;refine bW (List.mem_map.mp hv) λj u_ z1=>?_;subst z1;rfl
 .rintro j ρ H3 ⟨_,_,_,_,_,_,-,-,r3⟩;exact fK r3
 .rintro j ρ H3 u hu ⟨o1,o3,o4,o5,o6,o7,rfl,⟨txt,pt,L,ps,h3,t3,l3⟩,r3⟩
  obtain⟨hj,hx⟩:=List.getElem?_eq_some_iff.mp hu;simp at hj hx;subst hx;exact Hf (k:=k) h3 (by lia) (by lia) (by lia) (by lia) λH4 txt' pt' L' ps' u_ u_ u_ u_ u_ h4 t4 l4 k4=>⟨_,_,_,_,_,_,rfl,⟨txt',pt',L',ps',h4,by lia,by lia⟩,k4 _ _ r3⟩
 .rintro ρ H3 ⟨o1,o3,o4,o5,o6,o7,rfl,⟨txt,pt,L,ps,h3,-⟩,-⟩
  exact K H3 _ _ _ _ _ _ h3.wf
theorem FH {dk' bu ru':Nat}{o1 o2 o3 o4 o5 o6 o7 o8:Option V}{K:KF}(w:Wf H) (hk:∀ρ H',K (.ret (.bool true)) ρ H'):bU (aa (k+13)) (fD "law") 7 [7] (lV sc dk' bu ru' li o1 o2 o3 o4 o5 o6 o7 o8) K H:=by
 unfold lV;refine P.IV<|j8 (k:=k+11) w λH1 i h1 f1 b1 b2 b3=>aY f1.wf (by simp) λH2 nc f2 g2 hn u_=>?_
 have w2:=f2.wf;have h2:=h1.up f1.wf f2;have lt:=h1.lt f1.wf;refine ny (k:=k+6) (p:=0) w2 h2 (Nat.zero_le _) rfl g2 (by lia) (λv hv=>?_) (by simp) (by simp) λH3 w3 h3=>?_
 .simp at hv;rcases hv with rfl|rfl<;>exact⟨_,rfl⟩
 refine fP h3.ob λtk ct hb=>jq hb (by kernel_rfl) (uO (k:=k+11) w3 h3 rfl λH4 x h4 n4 f4=>?_);refine aY f4.wf (by simp) λH5 y f5 g5 u_ u_=>AD (ux (f5.at_ f4.wf h4 λq=>q) g5 h3.ints)<|aj<|fP (((h3.up w3 f4).up f4.wf f5).ob) λtk ct hb5=>fq hb5 (ej (aj ?_))
 exact hk _ _
end
end Mi
namespace Mi
open PySem
section
variable {H H':AH}{k:Nat}{Q Kc:KV}
theorem Iz {script:List Int}(w:Wf H) (K:∀H',Q (.bool true) H'):ok (ae (aa (k+14)) "law" [.ext script]) Q H:=by
 refine P.Ks<|Fc w λH1 dk dl cells d1 w1=>j8 (k:=k+11) w1 λH2 i b2 f2 n2 nc2 nl2=>?_
 have d2:=d1.up w1 f2;have dlt:=w1.lt d1.ob;have llt:=w1.lt d1.li;refine aB (by rfl) ?_;have f3:Up H2 (H2.add (.tup [.ref dk,.ref i.bu])):=.add f2.wf;refine eL ar ?_;have d3:=d2.up f2.wf f3;have b3:=b2.up f2.wf f3;generalize H2.add (.tup [.ref dk,.ref i.bu])=H3 at f3 d3 b3;refine yg (k:=k+12) f3.wf λH4 lo pd l4 p4 f4 u_ u_=>?_;have b4:=b3.up f3.wf f4;refine vR (k:=k+11) f4.wf l4 p4 λH5 ru de r5 l5 p5 e5 f5 n5=>?_;have f35:=f4.trans f5;have d5:=d3.up f3.wf f35;have b5:=b3.up f3.wf f35;have r5':uR H5 ru [] de i.rw:=⟨⟨lo,pd,r5,l5,p5,by have:=f4.wf.lt p4;exact Nat.ne_of_lt (Nat.lt_of_lt_of_le (by assumption) (by assumption))⟩,e5,by have:=f4.wf.lt b4.rw;exact Nat.ne_of_lt (Nat.lt_of_lt_of_le (by assumption) (by assumption))⟩;have w5:=f5.wf;have ic:i.cl≠dk:=Nat.ne_of_gt (Nat.lt_of_lt_of_le (by assumption) (by assumption));have il:i.cl≠dl:=Nat.ne_of_gt (Nat.lt_of_lt_of_le (by assumption) (by assumption))
 clear r5 l5 p5 e5 f5 n5 b4 b3 d3 f35 f4 l4 p4 f3 b2 f2 d2
 refine CU (k:=k+11) w5 d5 (by exact Nat.zero_le _) λH6 nl vs rs c6 g6 rw6 gd6 th6 ll6 d6 hc6 f6 hn6=>?_;have b6:=b5.jI w5 d5 ic f6;have r6:=r5'.G8 w5 d5 f6;have lcl:=b5.lt w5
 clear b5 r5'
 refine Es f6.wf g6 rw6 th6 ll6 λH7 nc g7 f7 hn7=>?_;have b7:=b6.up f6.wf f7;have r7:=r6.up f6.wf f7;have d7:=d6.up f6.wf f7;have rw7:=rw6.up f6.wf f7;have v7:=f7.at_ f6.wf g6 λq=>q;have n6:=f6.nx;have fl:=rG th6;refine AB (k:=k+7) f7.wf b7 g7 (by lia) (λv hv=>?_) (by simp;lia) λH8 gl pt b8 hg f8=>?_
 .refine bW (List.mem_map.mp hv) λj u_ z1=>?_;subst z1;exact⟨_,rfl⟩
 have w7:=f7.wf;refine xA (yX b7 d7 ic il) λx8 y8=>?_;have d8:=d7.keep w7 f8 x8 y8;have r8:=r7.bs b7 w7 f8;have rw8:=rw7.fm (X:=λu_=>True) (.of w7 f8 λm l e=>wR b7 e) λn q x=>x.bs b7 w7 f8;have v8:=f8.at_ w7 v7 (nT b7 v7 (by exact Nat.ne_of_lt (Nat.lt_of_lt_of_le (by assumption) (by assumption))))
 clear b7 r7 d7 rw7 v7 b6 r6
 refine mO (k:=k+5) f8.wf v8 rw8 gd6 (by exact Nat.le_trans (by assumption) (by decide)) λH9 pr tr L ps t9 s9 g9 l9 f9=>yh (k:=k+11) f9.wf λH10 oh o10 f10 u_=>aB (by rfl) ?_;have f11:Up H10 (H10.add (.tup [.ref pr,.ref oh])):=.add f10.wf;refine eL ar ?_;have fa:=f10.trans f11;have fb:=f9.trans fa;have t11:=t9.up fa;have o11:=o10.up f10.wf f11;have b11:=b8.up f8.wf fb;have d11:=d8.up f8.wf fb;have r11:=r8.up f8.wf fb;have w11:=f11.wf;generalize H10.add (.tup [.ref pr,.ref oh])=H11 at f11 t11 o11 b11 d11 r11 w11 fa fb;refine fP b11.ob λtk ct hb=>xA (yX b11 d11 ic il) λx11 y11=>Dh hb<|xA (b11.put (pt':=pt) (tk':=tk) (ct':=ct) (pr':=.ref pr) (ov':=.none) w11 rfl) λb12 f12=>?_
 have t12:=t11.bs b11 f12;have o12:=o11.bs b11 w11 f12;have d12:=d11.keep w11 f12 x11 y11;have r12:=r11.bs b11 w11 f12;have hb12:=cL (H:=H11) (n:=i.bu) (o:=dQ i pt ((List.map (λi=>V.int (Int.ofNat i)) (List.range (flat rs).length)).length+1:Nat) tk ct (.ref pr) .none);generalize H11.put i.bu _=H12 at*;refine Jw hb12<|xA (yX b12 d12 ic il) λx12 y12=>xA (b12.put (pt':=pt) (tk':=tk) (ct':=ct) (pr':=.ref pr) (ov':=.ref oh) f12.wf rfl) λb13 f13=>?_
 have t13:=t12.bs b12 f13;have o13:=o12.bs b12 f12.wf f13;have d13:=d12.keep f12.wf f13 x12 y12;have r13:=r12.bs b12 f12.wf f13;have lt:(List.map (λi=>V.int (Int.ofNat i)) (List.range (flat rs).length)).length=(flat rs).length:=by simp
 have sl:=s9.len;have wd:Wd _ i dk dl cells c6 _ pt gl pr tr oh ru [] L ps:=⟨⟨b13,t13,o13,r13.J1,by exact wr lt (wr sl rfl),g9⟩,d13,ic,il⟩;refine wL (k:=k+12) wd r13 (by exact Nat.le_trans (by assumption) (by decide)) λH14 D o2 h14=>?_;unfold lV;refine P.I1<|Dn (k:=k) h14 (by lia) (by lia) (by assumption) (by lia) λH15 u_ u_ u_ u_ u_ u_ w15=>FH (k:=k) w15 λρ H'=>K H'
end
theorem LS (script:List Int) (hs:script.length<=63):ok (ae (aa 30) "law" [.ext script]) (λv u_=>v=.bool true) ⟨0,λu_=>none⟩:=
 Iz (k:=16) (λu_ u_=>rfl) λu_=>rfl
end Mi
namespace Mi.Top
open PySem PySem.W PyProof.Rows
noncomputable def Mw:List (String×Nat):=[("_wall",21),("need_writable",48),("need_room",55),("reached",62),("tell_ahead",69),("tell_behind",76),("text_in",83),("hung_in",90),("put_in",97),("insert",105),("Interval",122),("IntervalTree",143),("total_of",154),("own_length",161),("text_length",168),("put_in_stead",175),("set_left",182),("set_right",189),("rotate_right",196),("rotate_left",203),("right_turn_helps",210),("left_turn_helps",217),("settle",224),("settle_up",231),("add_above",238),("find_interval",245),("leftmost",252),("rightmost",259),("following",266),("preceding",273),("put_behind",280),("put_ahead",287),("split_at",294),("drop_interval",301),("insert_interval",308),("eq",315),("plist_find",322),("plist_get",329),("holds_pair",336),("same_plist",343),("PropRules",367),("value_in",378),("is_member",383),("is_loose",390),("is_tight",397),("TextProps",456),("props_of_rows",467),("properties_at",474),("range_nodes",481),("join_at",488),("join_range",495),("set_properties",502),("put_rows",509),("put_rows_textprops",509),("text_inserted",516),("Sides",533),("sides_at",544),("is_told",551),("sticky_side",558),("is_kept",565),("is_caught",572),("take_left",579),("take_right",586),("take_both",593),("take_one",600),("is_front_category",607),("inherited",612),("is_loose_within",619),("inherited_at",626),("inherited_here",633),("insert_inheriting",640),("GapText",727),("Markers",797),("Buffer",938),("OverlayTree",957),("hand_down",968),("hand_down_to",975),("greatest_end",982),("renew_limits",989),("hang",996),("turn_left",1003),("turn_right",1010),("is_red",1017),("colour_inserted",1024),("turned_inward",1031),("put_node",1038),("first_below",1045),("take_place",1052),("drop_node",1059),("colour_dropped",1066),("sibling_of",1073),("turn_towards",1080),("lightened",1087),("nodes_between",1094),("begins_to_move",1101),("grows",1108),("open_gap",1113),("shift_nodes",1120),("OverlayHome",1165),("PlainLisp",1236),("_law_draw",1247),("_law_plist",1252),("_law_seen",1257),("_law_at_side",1264),("law",1269)]
noncomputable def F1:List (Str×Addr):=Mw.map λp=>(Str.ofString p.1,p.2)
noncomputable def MB:List (String×Nat):=[("Interval",122),("IntervalTree",143),("PropRules",367),("TextProps",456),("Sides",533),("GapText",727),("Markers",797),("Buffer",938),("OverlayTree",957),("OverlayHome",1165),("PlainLisp",1236)]
noncomputable def G9:List (Str×Addr):=MB.map λp=>(Str.ofString p.1,p.2)
noncomputable def kA:List Addr:=[122,121,143,142,367,366,456,455,533,532,727,726,797,796,832,831,938,937,957,956,1165,1164,1236,1235,21,48,55,62,69,76,83,90,97,105,119,140,154,161,168,175,182,189,196,203,210,217,224,231,238,245,252,259,266,273,280,287,294,301,308,315,322,329,336,343,357,364,378,383,390,397,411,418,425,432,439,446,453,467,474,481,488,495,502,509,516,530,544,551,558,565,572,579,586,593,600,607,612,619,626,633,640,654,661,668,675,682,689,696,703,710,717,724,745,752,759,766,773,780,787,794,815,822,829,851,858,865,872,879,886,893,900,907,914,921,928,935,954,968,975,982,989,996,1003,1010,1017,1024,1031,1038,1045,1052,1059,1066,1073,1080,1087,1094,1101,1108,1113,1120,1134,1141,1148,1155,1162,1184,1191,1198,1205,1212,1219,1226,1233,1247,1252,1257,1264,1269]
noncomputable def jO (h:Heap):Frag:=kA.filterMap λa=>(h.get? a).map λo=>(a,o)
noncomputable def LO:List (Str×Value):=[("len",.builtin "len"),("list",.type "list"),("tuple",.type "tuple"),("range",.type "range"),("sum",.builtin "sum"),("sorted",.builtin "sorted"),("abs",.builtin "abs"),("min",.builtin "min"),("max",.builtin "max"),("isinstance",.builtin "isinstance"),("bool",.type "bool")]
noncomputable def argsOk (p:Arguments) (ps:List Str):Bool:=p.posonlyargs.isEmpty&&p.vararg.isNone&&p.kwonlyargs.isEmpty&&p.kw_defaults.isEmpty&&p.kwarg.isNone&&decide (p.args.map (·.arg)=ps)
noncomputable def Jp:V->Value->Bool
 |.bool b,.bool c=>b==c
 |.int i,.int j _=>decide (i=j)
 |_,_=>false
noncomputable def refOf:Value->Option Addr
 |.ref a=>some a
 |_=>none
noncomputable def strOf:Value->Option Str
 |.str q _=>some q
 |_=>none
noncomputable def El:Value->Bool
 |.none=>true
 |_=>false
noncomputable def D3:Data->Option (Array Value)
 |.seq vs _=>some vs
 |_=>none
noncomputable def EY:Data->Option (Array Value)
 |.fields vs=>some vs
 |_=>none
noncomputable def EP:Data->Option FuncData
 |.func fd=>some fd
 |_=>none
noncomputable def one:List Value->Option Value
 |[c]=>some c
 |_=>none
noncomputable def dfltOk (h:Heap) (v:Value) (ds:List V):Bool:=match ds with
 |[]=>El v
 |[d]=>((refOf v).bind λa=>(h.get? a).bind λo=>(D3 o.data).bind λvs=>one vs.toList).any (Jp d)
 |_=>false
noncomputable def codeOk (h:Heap) (fd:FuncData):Bool:=decide (((refOf fd.code).bind λc=>(h.get? c).bind λo=>(EY o.data).bind λvs=>(vs[1]?).bind strOf)=some fd.qualname)
noncomputable def fv (h:Heap) (a:Addr) (d:Def):Option (FuncBody×Scope×Bool):=(h.get? a).bind λo=>(EP o.data).bind λfd=>
 some (fd.body,fd.scope,fd.closure.isEmpty&&Nat.beq fd.globals mainGlobals&&Nat.beq fd.builtins builtinsNs&&argsOk fd.params d.params&&dfltOk h fd.defaults d.dflt&&codeOk h fd&&o.cls==.type "function")
noncomputable def want (d:Def):Option (FuncBody×Scope×Bool):=some (.stmts d.body,d.scope,true)
noncomputable def Gs (h:Heap):=ke.map λp=>(F1.lookup p.1).bind λa=>fv h a p.2
noncomputable def yo (K:Frag) (c m:Str):Option Addr:=(G9.lookup c).bind λC=>match findIn K (.ref C) m with
 |some (some (.ref f))=>if kA.any (Nat.beq f) then some f else none
 |_=>none
noncomputable def Ek (h:Heap):=eW.map λp=>p.2.map λq=>(yo (jO h) p.1 q.1).bind λf=>fv h f q.2
noncomputable def pS (K:Frag) (c:Str) (C:Addr):Bool:=
 decide (findIn K (.ref C) "__getattribute__"=some (some (.builtin "object.__getattribute__")))&&decide (findIn K (.ref C) "__getattr__"=some none)&&
 decide (findIn K (.ref C) "__setattr__"=some (some (.builtin "object.__setattr__")))&&hasDictIn K C&&plainOver K C&&(By c).all (λf=>findIn K (.ref C) f==some none)&&makesIn K C&&keepIn K (.ref C)
noncomputable def vO (h:Heap):Bool:=F1.all (λp=>decide (h.nsMap mainGlobals p.1=some (.ref p.2)))&&h.isNs mainGlobals&&h.isNs builtinsNs&&
 LO.all (λp=>decide (h.nsMap mainGlobals p.1=none)&&decide (h.nsMap builtinsNs p.1=some p.2))&&(h.get? sysModules).isSome&&decide (h.nsMap mainGlobals "LONGEST"=some (.int 4194304 231))&&decide (h.nsMap mainGlobals "NAMES"=some (.ref 1170))&&
 G9.all (λp=>pS (jO h) p.1 p.2&&decide (F1.lookup p.1=some p.2))
noncomputable def obs (h:Heap):=(vO h,h.get? 1170,Gs h,Ek h)
noncomputable def rk:Obj:={cls:=.type "tuple",data:=.seq #[.str "category" 1808,.str "front-sticky" 1809,.str "rear-nonsticky" 1810,.str "evaporate" 1811,.str "priority" 1812] 0}
noncomputable def kT:=(true,some rk,ke.map λp=>want p.2,eW.map λp=>p.2.map λq=>want q.2)
theorem Ms (P:Params):vO (H1 P)=true:=by kernel_rfl
end Mi.Top
namespace Mi.Top
open PySem PySem.W PyProof.Rows
theorem Mp (P:Params):(H1 P).get? 1170=some rk:=by kernel_rfl
theorem Mr (P:Params):Gs (H1 P)=ke.map λp=>want p.2:=by kernel_rfl
end Mi.Top
namespace Mi.Top
open PySem PySem.W PyProof.Rows
theorem Mq (P:Params):Ek (H1 P)=eW.map λp=>p.2.map λq=>want q.2:=by kernel_rfl
end Mi.Top
namespace Mi.Top
open PySem PySem.W PyProof.Rows
def JI (h:Heap):Prop:=∃h0:Heap,vO h0=true/\h0.get? 1170=some rk/\Gs h0=(ke.map λp=>want p.2)/\Ek h0=(eW.map λp=>p.2.map λq=>want q.2)/\∀a o,h0.get? a=some o->h.get? a=some o
noncomputable abbrev JN:OpenLaw:=PySem.Challenge.rw_pq0325_01
noncomputable def dL:DefRec:=match pg.main.body.drop 125 with
 |[.FunctionDef name args body _ _ _ scope _ _ pos]=>⟨name,args,body,scope,pos⟩
 |_=>⟨"",⟨[],[],none,[],[],none,[]⟩,[],⟨.function,[],false,false,[]⟩,dN⟩
theorem lk (w:World):(λos=>((staticsOk (importedModules pg.main.body) (boot_heap w.params) (H1 w.params)&&namesBound pg (H1 w.params)&&gensDone ⟨H1 w.params,#[],{},1944,os⟩&&laidKept (boot_heap w.params) (H1 w.params)),
  openSeen qg loose (importedModules pg.main.body) (λu_=>true) true ⟨H1 w.params,#[],{},1944,os⟩,obs (H1 w.params)))=λu_=>(true,openGood qg loose,kT):=by
 funext os
 have e:obs (H1 w.params)=kT:=by
  unfold obs kT;exact wr (Ms _) (wr (Mp _) (wr (Mr _) (wr (Mq _) rfl)))
 refine wr e ?_;have a:=Mu w os;have b:=Mt w os;unfold s1 at a b;exact wr a (wr b rfl)
theorem left:LeftO pg qg loose (λu_=>true) (λs=>obs s.heap) (λu_=>kT) 20000:=by
 refine LeftO.of_pieces (M:=12+(1+7683)) (H₀:=boot_heap) (H₁:=H1) (gs₁:= #[]) (d₁:={}) (k₁:=1944) Kd Gc (λw os=>?_) ?_ lk
 .have h:=Gh w os;rw[<-bh,abs_eq] at h;have b:=FC w os;rw[<-bh] at b;exact go_top (Ik w os) (piece_block (N:=7683) b h)
 .decide+kernel
theorem GP (call:WalkO qg loose (λu_ u_=>True) (λu_ h=>JI h) JN.row.toRowW dL [] λf vs=>PySem.call f vs):JN.Holds:=
 holds_law Lh λsd=>holds_open (r:=JN.row) (q:=qg) (loose:=loose) (Xt:=λu_=>true) (XP:=λu_ u_=>True) (YP:=λu_ h=>JI h) (d:=dL) (kwd:=[]) (N:=20000) left
  (λw s e=>by
   unfold obs kT at e;simp only[Prod.mk.injEq] at e;exact⟨s.heap,e.1,e.2.1,e.2.2.1,e.2.2.2,λu_ u_ h=>h⟩)
  (λw h h' z k'=>uS z λh0 a b c d k=>⟨h0,a,b,c,d,λx o e=>k' x o (k x o e)⟩) (λu_ u_=>trivial) (λu_ u_ u_ u_ u_=>trivial)
  (by kernel_rfl) (by kernel_rfl) (by kernel_rfl) (λs u_=>recFacts_nil rfl) (by rfl) sd (by kernel_rfl) ⟨rfl,rfl,rfl,rfl,rfl,DD⟩ Mj call
end Mi.Top
namespace Mi.Top
open PySem PySem.W PyProof.Rows
theorem zl {α β:Type} [BEq α] [LawfulBEq α]:∀{ps:List α} {cs:List β},ps.length<=cs.length->∀x∈ps,((ps.zip cs).lookup x).isNone=false
 |[],_,_,x,h=>nomatch h
 |p::ps,[],h,_,_=>by simp at h
 |p::ps,c::cs,h,x,hx=>by
  refine wr List.zip_cons_cons (wr List.lookup_cons ?_)
  rcases e:x==p with _|_
  .rcases List.mem_cons.mp hx with q|q
   .rw[q] at e;simp at e
   .exact zl (by simpa using h) x q
  .rfl
theorem zf {α β:Type} [BEq α] [LawfulBEq α]:∀{ps:List α} {cs:List β},ps.Nodup->ps.length=cs.length->ps.filterMap (λn=>((ps.zip cs).lookup n).map (n,·))=ps.zip cs
 |[],_,_,_=>rfl
 |p::ps,[],_,h=>by simp at h
 |p::ps,c::cs,nd,h=>by
  obtain⟨n1,n2⟩:=List.nodup_cons.mp nd;rw[List.zip_cons_cons,List.filterMap_cons,List.lookup_cons,beq_self_eq_true];show(p,c)::_=_
  congr 1
  have key:∀l:List α,(∀x∈l,x≠p)->l.filterMap (λn=>(((p,c)::ps.zip cs).lookup n).map (n,·))=l.filterMap (λn=>((ps.zip cs).lookup n).map (n,·)):=by
   intro l
   induction l with
   |nil=>intro _;rfl
   |cons x l ih=>
    intro hl;exact wr List.filterMap_cons (wr List.filterMap_cons (wr List.lookup_cons (wr (beq_eq_false_iff_ne.mpr (hl x (by simp))) (wr (ih λy hy=>hl y (by simp[hy])) rfl))))
  exact(key ps λx hx e=>n1 (e▸hx)).trans (zf n2 (by simpa using h))
theorem Bt {α:Type}{c:Prop} [Decidable c] {x y z:Sem α}(h:¬c) (e:y=z):(if c then x else y)=z:=(if_neg h).trans e
theorem AL {fd:FuncData}{ps:List Str}{cs:List Value}(hA:argsOk fd.params ps=true) (nd:ps.Nodup) (hd:fd.defaults=.none) (hl:cs.length=ps.length):bindArgs fd ⟨cs,[]⟩=pure (ps.zip cs):=by
 obtain⟨nm,qn,⟨po,as,va,ko,kd,kw,df⟩,bd,sc,gl,cl,dv,kv,dc,pm,an,cd,ct,bi⟩:=fd;unfold argsOk at hA;simp only[Bool.and_eq_true,decide_eq_true_eq,List.isEmpty_iff,Option.isNone_iff_eq_none] at hA;obtain⟨⟨⟨⟨⟨rfl,rfl⟩,rfl⟩,rfl⟩,rfl⟩,rfl⟩:=hA;subst hd;have z:=zf nd hl.symm;have m:(List.filter (λn=>(List.lookup n ((List.map (λx:Arg=>x.arg) as).zip cs)).isNone) (List.take ((List.map (λx:Arg=>x.arg) as).length-(List.drop (0-(List.map (λx:Arg=>x.arg) as).length) ([]:List Value)).length) (List.map (λx:Arg=>x.arg) as)))=[]:=by
  refine wr List.drop_nil (wr List.length_nil (wr (Nat.sub_zero _) (wr List.take_length (wr (propext (List.filter_eq_nil_iff)) ?_))));intro x hx;refine wr (zl (Nat.le_of_eq hl.symm) x hx) ?_;exact Bool.false_ne_true
 refine Bt (c:=(decide (cs.length>(List.map (λx:Arg=>x.arg) as).length)&&true)=true) ?_ ?_
 .refine wr hl (wr (decide_eq_false (Nat.lt_irrefl _)) ?_);exact Bool.false_ne_true
 refine Bt (c:=(!(List.filter (λn=>(List.lookup n ((List.map (λx:Arg=>x.arg) as).zip cs)).isNone) (List.take ((List.map (λx:Arg=>x.arg) as).length-(List.drop (0-(List.map (λx:Arg=>x.arg) as).length) ([]:List Value)).length) (List.map (λx:Arg=>x.arg) as))).isEmpty)=true) ?_ ?_
 .refine wr m ?_;exact Bool.false_ne_true
 have e:∀(l:List Str) n,l.zip (List.drop n ([]:List Value))=[]:=λl n=>by refine wr List.drop_nil ?_;exact List.zip_nil_right
 refine Eq.trans (congrArg (λq:List (Str×Value)=>(forIn q ((List.map (λx:Arg=>x.arg) as).zip cs) _:Sem _)>>=_) (e _ _))<|congrArg (pure:List (Str×Value)->Sem (List (Str×Value)))<|(congrArg (List.filterMap λn=>(((List.map (λx:Arg=>x.arg) as).zip cs).lookup n).map (n,·)) (List.append_nil _)).trans z
theorem Hw {α β:Type} [BEq α] [LawfulBEq α]:∀{qs:List α} {cs:List β} {x:α},x∉qs->(qs.zip cs).lookup x=none
 |[],_,_,_=>rfl
 |p::qs,[],_,_=>rfl
 |p::qs,c::cs,x,h=>by
  refine wr List.zip_cons_cons (wr List.lookup_cons ?_);have:(x==p)=false:=beq_eq_false_iff_ne.mpr λe=>h (by refine wr e ?_;simp);refine wr this<|Hw λq=>h (List.mem_cons_of_mem _ q)
theorem Dl {s:Shared}{fd:FuncData}{ps:List Str}{cs:List Value}{v:Value}{T:Addr}{o:Obj}{n:Nat}(hA:argsOk fd.params ps=true) (nd:ps.Nodup) (hd:fd.defaults=.ref T) (ho:s.heap.get? T=some o) (hs:o.data=.seq #[v] n) (hl:cs.length+1=ps.length):
  BindsTo s fd ⟨cs,[]⟩ (ps.zip (cs++[v])):=by
 rcases List.eq_nil_or_concat ps with rfl|⟨qs,x,rfl⟩
 .simp at hl
 rw[List.concat_eq_append] at*;have hq:cs.length=qs.length:=by simp at hl;exact hl
 have z1:(qs++[x]).zip cs=qs.zip cs:=by
  have:=List.zip_append (l₁:=qs) (l₂:=cs) (r₁:=[x]) (r₂:=[]) hq.symm;rw[List.append_nil] at this;refine wr this ?_;simp
 have nx:x∉qs:=λh=>by
  rw[List.nodup_append] at nd;exact nd.2.2 x h x (by simp) rfl
 have z2:(qs++[x]).zip (cs++[v])=qs.zip cs++[(x,v)]:=by refine wr (List.zip_append hq.symm) ?_;rfl
 obtain⟨nm,qn,⟨po,as,va,ko,kd,kw,df⟩,bd,sc,gl,cl,dv,kv,dc,pm,an,cd,ct,bi⟩:=fd;unfold argsOk at hA;simp only[Bool.and_eq_true,decide_eq_true_eq,List.isEmpty_iff,Option.isNone_iff_eq_none] at hA;obtain⟨⟨⟨⟨⟨rfl,rfl⟩,rfl⟩,rfl⟩,rfl⟩,hA⟩:=hA;refine BindsTo.of_defaults hd ho hs rfl ?_;have ha:as.length=qs.length+1:=by have:=congrArg List.length hA;simpa using this
 have h2:(List.filter (λn=>(List.lookup n (qs.zip cs)).isNone) qs)=[]:=by
  refine wr (propext (List.filter_eq_nil_iff)) ?_;intro y hy;refine wr (zl (by lia) y hy) ?_;simp
 have h3:(qs++[x]).filterMap (λn=>((qs.zip cs++[(x,v)]).lookup n).map (n,·))=qs.zip cs++[(x,v)]:=by
  refine wr (z2.symm)<|zf nd (by simp[hq])
 simp[hA,z1,Hw nx,h2,hq];exact wr (if_neg (by lia)) (wr (List.filterMap_append.symm) (wr h3 (wr z2 rfl)))
end Mi.Top
namespace Mi.Top
open PySem PySem.W PyProof.Rows
noncomputable def EO (x:Str):Option Value:=match F1.lookup x with
 |some a=>some (.ref a)
 |none=>match LO.lookup x with
  |some v=>some v
  |none=>if x=("LONGEST":Str) then some (.int 4194304 231) else if x=("NAMES":Str) then some (.ref 1170) else none
noncomputable def AJ (h0 h:Heap):Bs:=⟨h,λc=>G9.lookup c,jO h0,1170,EO⟩
noncomputable abbrev Kp (h0 h:Heap):Prop:=∀a o,h0.get? a=some o->h.get? a=some o
noncomputable def isFun:ScopeKind->Bool
 |.function=>true
 |_=>false
noncomputable def lU (d:Def):Bool:=isFun d.scope.kind&& !d.scope.isCoroutine&& !d.scope.isGenerator&&decide ((d.scope.names.map (·.1)).Nodup)&&decide d.params.Nodup&&d.params.all λx=>Dy (d.scope.names.lookup x)
theorem GY {k:ScopeKind}(h:isFun k=true):k=.function:=by
 revert h;cases k<;>first|exact λh=>nb h|exact λu_=>rfl
theorem GR:ke.all (λp=>lU p.2)=true:=by kernel_rfl
theorem Jc:eW.all (λp=>p.2.all λq=>lU q.2)=true:=by kernel_rfl
theorem Ep {α β:Type} [BEq α] [LawfulBEq α] {a:α}{b:β}{l:List (α×β)}(h:l.lookup a=some b):(a,b)∈l:=by
 induction l with
 |nil=>exact ns h
 |cons p l ih=>
  rw[List.lookup_cons] at h;revert h
  rcases e:a==p.1 with _|_
  .exact λh=>List.mem_cons_of_mem _ (ih h)
  .intro h;obtain rfl:=Option.some.inj h;refine wr (eq_of_beq e) ?_;exact List.mem_cons_self
theorem G0 {h0 h:Heap}(k:Kp h0 h):(jO h0).In h:=λa o e=>by
 have:=Ep e;unfold jO at this;refine bW (List.mem_filterMap.mp this) λb u_ hb=>?_
 rcases q:h0.get? b with _|o'
 .rw[q] at hb;exact ns hb
 .rw[q] at hb;obtain⟨rfl,rfl⟩:=Prod.mk.inj (Option.some.inj hb);exact k _ _ q
theorem A8 {v:Value}{a:Addr}(h:refOf v=some a):v=.ref a:=by
 revert h;induction v<;>first|exact λh=>ns h|(intro h;obtain rfl:=Option.some.inj h;rfl)
theorem str_inv {v:Value}{a:Str}(h:strOf v=some a):∃t,v=.str a t:=by
 revert h;induction v<;>first|exact λh=>ns h|(intro h;obtain rfl:=Option.some.inj h;exact⟨_,rfl⟩)
theorem none_inv {v:Value}(h:El v=true):v=.none:=by
 revert h;induction v<;>first|exact λh=>nb h|exact λu_=>rfl
theorem Gd {v:Data}{a:Array Value}(h:D3 v=some a):∃n,v=.seq a n:=by
 revert h;induction v<;>first|exact λh=>ns h|(intro h;obtain rfl:=Option.some.inj h;exact⟨_,rfl⟩)
theorem EX {v:Data}{a:Array Value}(h:EY v=some a):v=.fields a:=by
 revert h;induction v<;>first|exact λh=>ns h|(intro h;obtain rfl:=Option.some.inj h;rfl)
theorem yP {v:Data}{a:FuncData}(h:EP v=some a):v=.func a:=by
 revert h;induction v<;>first|exact λh=>ns h|(intro h;obtain rfl:=Option.some.inj h;rfl)
theorem Gk {l:List Value}{c:Value}(h:one l=some c):l=[c]:=by
 rcases l with _|⟨a,_|_⟩
 .exact ns h
 .obtain rfl:=Option.some.inj h;rfl
 .exact ns h
theorem Jo {b:Bs}{d:V}{c:Value}(h:Jp d c=true):VR b [] d c:=by
 revert h;induction d<;>induction c<;>first|exact λh=>nb h|exact λh=>congrArg Value.bool (eq_of_beq h).symm|exact λh=>⟨_,by exact wr (of_decide_eq_true h) rfl⟩
theorem Fy {α β:Type}{x:Option α}{f:α->Option β}{y:β}(h:x.bind f=some y):∃a,x=some a/\f a=some y:=Option.bind_eq_some_iff.mp h
theorem Ff {h0 h:Heap}{fd:FuncData}(k:Kp h0 h) (e:codeOk h0 fd=true):h.CodeRec fd.code fd.qualname:=by
 obtain⟨c,hc,e⟩:=Fy (of_decide_eq_true e);obtain⟨o,ho,e⟩:=Fy e;obtain⟨vs,hv,e⟩:=Fy e;obtain⟨s,hs,e⟩:=Fy e;obtain⟨t,rfl⟩:=str_inv e;exact⟨c,o,vs,t,A8 hc,k _ _ ho,EX hv,hs⟩
theorem E9 {h0 h:Heap}{fd:FuncData}{d:Def}(k:Kp h0 h) (e6:argsOk fd.params d.params=true) (g5:d.params.Nodup) (e:dfltOk h0 fd.defaults d.dflt=true):
  ∃ds,dF (AJ h0 h) [] d.dflt ds/\∀(cs:List Value) (s:Shared),(∀a o,h.get? a=some o->s.heap.get? a=some o)->cs.length+ds.length=d.params.length->BindsTo s fd ⟨cs,[]⟩ (d.params.zip (cs++ds)):=by
 revert e
 rcases d.dflt with _|⟨dv,_|_⟩
 .intro e;refine⟨[],trivial,λcs s ks hl=>?_⟩;refine wr (List.append_nil _)<|BindsTo.of_eq (AL e6 g5 (none_inv e) hl)
 .intro e;have e:((refOf fd.defaults).bind λa=>(h0.get? a).bind λo=>(D3 o.data).bind λvs=>one vs.toList).any (Jp dv)=true:=e;obtain⟨cv,hc,e⟩:=(Option.any_eq_true _ _).mp e;obtain⟨T,hT,hc⟩:=Fy hc;obtain⟨o,ho,hc⟩:=Fy hc;obtain⟨vs,hv,hc⟩:=Fy hc;obtain⟨n,hs⟩:=Gd hv;have hvs:vs= #[cv]:=Array.ext' (Gk hc);subst hvs;exact⟨[cv],⟨Jo e,trivial⟩,λcs s ks hl=>Dl e6 g5 (A8 hT) (ks _ _ (k _ _ ho)) hs (by simpa using hl)⟩
 .exact λe=>nb e
theorem Fb {h0 h:Heap}{a:Addr}{d:Def}(k:Kp h0 h) (e:fv h0 a d=want d) (g:lU d=true):FU (AJ h0 h) a d:=by
 unfold lU at g;simp only[Bool.and_eq_true,decide_eq_true_eq,List.all_eq_true,Bool.not_eq_true'] at g;obtain⟨⟨⟨⟨⟨g1,g2⟩,g3⟩,g4⟩,g5⟩,g6⟩:=g;obtain⟨o,ho,e⟩:=Fy e;obtain⟨fd,hf,e⟩:=Fy e;have e:=Option.some.inj e;have e1:fd.body=_:=congrArg (·.1) e;have e2:fd.scope=_:=congrArg (·.2.1) e;have e3:(fd.closure.isEmpty&&Nat.beq fd.globals mainGlobals&&Nat.beq fd.builtins builtinsNs&&argsOk fd.params d.params&&dfltOk h0 fd.defaults d.dflt&&codeOk h0 fd&&o.cls==.type "function")=true:=congrArg (·.2.2) e;simp only[Bool.and_eq_true] at e3;obtain⟨⟨⟨⟨⟨⟨e3,e4⟩,e5⟩,e6⟩,e7⟩,e8⟩,u_⟩:=e3;refine⟨⟨o,fd,k _ _ ho,yP hf,Ff k e8,e1,e2,List.isEmpty_iff.mp e3,Nat.eq_of_beq_eq_true e4,Nat.eq_of_beq_eq_true e5,E9 k e6 g5 e7⟩,GY g1,g2,g3,g4,g5,λx hx=>Kq (g6 x hx)⟩
theorem Aa {α β:Type}{l:List α}{f g:α->β}(h:l.map f=l.map g):∀x∈l,f x=g x:=by
 induction l with
 |nil=>intro x hx;exact nm hx
 |cons a l ih=>
  intro x hx;refine xA (List.cons.inj h) λh1 h2=>?_
  rcases List.mem_cons.mp hx with q|q
  .refine wr q ?_;exact h1
  .exact ih h2 x q
end Mi.Top
namespace Mi.Top
open PySem PySem.W PyProof.Rows
theorem Em:(F1.all (λp=> !(p.1==("__debug__":Str)))&&LO.all (λp=> !(p.1==("__debug__":Str))))=true:=by kernel_rfl
theorem kept:ke.all (λp=>(F1.lookup p.1).any λa=>kA.any (Nat.beq a))=true:=by kernel_rfl
theorem nj {h:Heap}{a:Addr}{d:Def}(m:kA.any (Nat.beq a)=true) (e:fv h a d=want d):isFn (jO h) (.ref a)=true/\keepIn (jO h) (.ref a)=true:=by
 obtain⟨o,q,e⟩:=Fy e;obtain⟨fd,z,e⟩:=Fy e;have l:(jO h).lookup a=some o:=by
  unfold jO;revert m;generalize kA=l;intro m
  induction l with
  |nil=>exact nb m
  |cons b l ih=>
   by_cases r:a=b
   .subst r;simp only[List.filterMap_cons,q,Option.map_some,List.lookup_cons,beq_self_eq_true]
   .have m:(Nat.beq a b||l.any (Nat.beq a))=true:=m;rw[nU r] at m
    rcases s:h.get? b with _|o'
    .simp only[List.filterMap_cons,s,Option.map_none];exact ih m
    .simp only[List.filterMap_cons,s,Option.map_some,List.lookup_cons,beq_eq_false_iff_ne.mpr r];exact ih m
 have e3:=congrArg (·.2.2) (Option.some.inj e);refine⟨?_,?_⟩
 .show((List.lookup a (jO h)).map (·.cls)==_)=true;rw[l];exact(Bool.and_eq_true_iff.mp e3).2
 .have z:=yP z
  rcases o with⟨c,i,dt,f⟩
  dsimp only at z;subst z;simp only[keepIn,l]
theorem Iy {x:Str}{k:BK}(h:Dj x=some k):EO x=some (BP k):=
 AU.look (P:=λp:Str×BK=>EO p.1=some (BP p.2)) (l:=Mb) ⟨by kernel_rfl,by kernel_rfl,by kernel_rfl,by kernel_rfl,by kernel_rfl,by kernel_rfl,by kernel_rfl,by kernel_rfl,by kernel_rfl,trivial⟩ h
theorem KN {h0 h:Heap}(k:Kp h0 h) (B:vO h0=true) (N:h0.get? 1170=some rk) (L:h.NoLimit):fy (AJ h0 h):=by
 unfold vO at B;simp only[Bool.and_eq_true,List.all_eq_true,decide_eq_true_eq] at B;refine xA B λz1 b9=>?_;obtain⟨⟨⟨⟨⟨⟨b1,b2⟩,b3⟩,b4⟩,b5⟩,b6⟩,b7⟩:=z1;have nd:=Em;simp only[Bool.and_eq_true,List.all_eq_true,Bool.not_eq_true',beq_eq_false_iff_ne] at nd;refine⟨G0 k,?_,⟨h0.nsMap mainGlobals,h0.nsMap builtinsNs,(Heap.Ns.of_isNs b2).keeps k,(Heap.Ns.of_isNs b3).keeps k,λx v e=>?_⟩,λx kk e=>(Iy e).trans (by induction kk<;>rfl),by kernel_rfl,⟨by kernel_rfl,by kernel_rfl⟩,⟨231,by kernel_rfl⟩,by kernel_rfl,L,⟨1808,1809,1810,1811,1812,0,k _ _ N⟩,λc C e=>?_⟩
 .refine xE (Option.isSome_iff_exists.mp b5) λo ho=>⟨o,k _ _ ho⟩
 .have e:EO x=some v:=e;unfold EO at e
  split at e
  .rename_i a ha;obtain rfl:=Option.some.inj e;have m:=Ep ha;exact⟨nd.1 _ m,.inl (b1 _ m)⟩
  .split at e
   .rename_i v' hv;obtain rfl:=Option.some.inj e;have m:=Ep hv;exact⟨nd.2 _ m,.inr (b4 _ m)⟩
   .split at e
    .rename_i q;subst q;obtain rfl:=Option.some.inj e;exact⟨by decide+kernel,.inl b6⟩
    .split at e
     .rename_i q;subst q;obtain rfl:=Option.some.inj e;exact⟨by decide+kernel,.inl b7⟩
     .exact ns e
 .have e:G9.lookup c=some C:=e;have m:=(b9 _ (Ep e)).1;unfold pS at m;simp only[Bool.and_eq_true,decide_eq_true_eq] at m;refine xA m λz2 m8=>?_;obtain⟨⟨⟨⟨⟨⟨m1,m2⟩,m3⟩,m4⟩,m5⟩,m6⟩,m7⟩:=z2;exact⟨m1,m2,m3,m4,m5,m6⟩
theorem Ga {n:Nat}{x:Str}:(aa (n+1)).fn x=match ke.lookup x with
   |some d=>some (aU aH (aa n) d)
   |none=>match eW.lookup x with
    |some ms=>match ms.lookup ("__init__":Str) with
     |some d=>some (mkObj x (aU aH (aa n) d))
     |none=>none
    |none=>none:=rfl
theorem B5 {n:Nat}{c m:Str}:(aa (n+1)).tg c m=match eW.lookup c with
   |some ms=>match ms.lookup m with
    |some d=>some (aU aH (aa n) d)
    |none=>none
   |none=>none:=rfl
theorem CK {K:Frag}{c m:Str}{f:Addr}(h:yo K c m=some f):∃C,G9.lookup c=some C/\findIn K (.ref C) m=some (some (.ref f))/\kA.any (Nat.beq f)=true:=by
 revert h;unfold yo
 rcases G9.lookup c with _|C
 .exact λh=>ns h
 intro h;have h:(match findIn K (.ref C) m with
  |some (some (.ref f))=>if kA.any (Nat.beq f) then some f else none
  |_=>none)=some f:=h
 refine⟨C,rfl,?_⟩;revert h
 rcases findIn K (.ref C) m with _|_|v
 .exact λh=>ns h
 .exact λh=>ns h
 .induction v<;>first|exact λh=>ns h|skip
  rename_i g;intro h;have h:(if kA.any (Nat.beq g) then some g else none)=some f:=h
  by_cases q:kA.any (Nat.beq g)=true
  .rw[if_pos q] at h;obtain rfl:=Option.some.inj h;exact⟨rfl,q⟩
  .rw[if_neg q] at h;exact ns h
theorem yn {prog:Program}{w:World}{h0 h:Heap}{n:Nat}(k:Kp h0 h) (M:Ek h0=eW.map λp=>p.2.map λq=>want q.2) (BO:fy (AJ h0 h)) (ih:jt prog w (AJ h0 h) (2*n) (aa n)) {c m:Str}{ms:List (Str×Def)}{d:Def}(hc:eW.lookup c=some ms) (hm:ms.lookup m=some d):
  ∃C f,G9.lookup c=some C/\findIn (jO h0) (.ref C) m=some (some (.ref f))/\isFn (jO h0) (.ref f)=true/\keepIn (jO h0) (.ref f)=true/\oy prog w (AJ h0 h) (2*n+1) (.ref f) (aU aH (aa n) d):=by
 have e:(yo (jO h0) c m).bind (λf=>fv h0 f d)=want d:=Aa (Aa M _ (Ep hc)) _ (Ep hm);have g:lU d=true:=List.all_eq_true.mp (List.all_eq_true.mp Jc _ (Ep hc)) _ (Ep hm);revert e
 rcases hf:yo (jO h0) c m with _|f
 .exact λe=>ns e
 .intro e;obtain⟨C,h1,h2,h4⟩:=CK hf;exact⟨C,f,h1,h2,(nj h4 e).1,(nj h4 e).2,HK BO ih (Fb k e g)⟩
theorem Gu {h0:Heap}(B:vO h0=true):∀p∈G9,pS (jO h0) p.1 p.2=true/\F1.lookup p.1=some p.2:=by
 unfold vO at B;simp only[Bool.and_eq_true,List.all_eq_true,decide_eq_true_eq] at B;exact B.2
theorem HV {prog:Program}{w:World}{h0 h:Heap}(k:Kp h0 h) (B:vO h0=true) (N:h0.get? 1170=some rk) (F:Gs h0=ke.map λp=>want p.2) (M:Ek h0=eW.map λp=>p.2.map λq=>want q.2) (L:h.NoLimit) (n:Nat):jt prog w (AJ h0 h) (2*n) (aa n):=by
 have BO:=KN k B N L;have b8:=List.all_eq_true.mp kept;have b9:=Gu B
 induction n with
 |zero=>exact⟨λu_ u_ e=>ns e,λu_ u_ u_ e=>ns e⟩
 |succ n ih=>
  constructor
  .intro x g e;rw[Ga] at e;revert e
   rcases hd:ke.lookup x with _|d
   .rcases hms:eW.lookup x with _|ms
    .exact λe=>ns e
    .dsimp only
     rcases hi:ms.lookup ("__init__":Str) with _|d
     .exact λe=>ns e
     .intro e;obtain rfl:=Option.some.inj e;obtain⟨C,f,h1,h2,h3,h4,h5⟩:=yn k M BO ih hms hi;obtain⟨hmk,gl⟩:=b9 _ (Ep h1);unfold pS at hmk;simp only[Bool.and_eq_true,decide_eq_true_eq] at hmk;exact⟨.ref C,by show EO x=_;unfold EO;exact wr gl rfl,hmk.2,(Jt BO h1 hmk.1.2 h2 h3 h5).ok.more (Nat.le_refl _)⟩
   .intro e;obtain rfl:=Option.some.inj e;have md:=Ep hd;have e:((F1.lookup x).bind λa=>fv h0 a d)=want d:=Aa F _ md;have kp:=b8 _ md;dsimp only at kp;revert e kp
    rcases ha:F1.lookup x with _|a
    .exact λe=>ns e
    .exact λe kp=>⟨.ref a,by show EO x=_;unfold EO;exact wr ha rfl,(nj kp e).2,(HK BO ih (Fb k e (List.all_eq_true.mp GR _ md))).ok.more (Nat.le_succ _)⟩
  .intro c m g e C hC;rw[B5] at e;revert e
   rcases hms:eW.lookup c with _|ms
   .exact λe=>ns e
   .dsimp only
    rcases hm:ms.lookup m with _|d
    .exact λe=>ns e
    .intro e;obtain rfl:=Option.some.inj e;obtain⟨C',f,h1,h2,h3,h4,h5⟩:=yn k M BO ih hms hm
     cases Option.some.inj ((show G9.lookup c=some C from hC).symm.trans h1)
     exact⟨f,h2,h3,h4,h5.ok.more (Nat.le_succ _)⟩
end Mi.Top
namespace Mi.Top
open PySem PySem.W PyProof.Rows
theorem Gv {h:Heap}{a:Addr}{m m':Str->Option Value}(x:h.Ns a m) (y:h.Ns a m') (n:Str):m n=m' n:=by
 refine eg x λo es ep h1 h2 u_ h3=>eg y λo' es' ep' g1 g2 u_ g3=>?_;rw[h1] at g1;obtain rfl:=Option.some.inj g1;rw[h2] at g2;cases g2;exact wr ((h3 _).symm) (wr ((g3 _).symm) rfl)
theorem walk (LS:∀script:List Int,script.length<=63->ok (ae (aa 30) "law" [.ext script]) (λv u_=>v=.bool true) ⟨0,λu_=>none⟩):
  WalkO qg loose (λu_ u_=>True) (λu_ h=>JI h) JN.row.toRowW dL [] λf vs=>PySem.call f vs:=by
 intro w s₀ s₁ mg mb G Y fa o pm cd doc dV kV ho hd hcd hD hmg hg args vals as hpre hlay hrd hwl hlo
 wrow_args hpre hlay hrd hwl hlo
 rename_i script _ _ _ _ _ _ _ la its _ hL _ _ _ hI _ hlen _;refine uS Y λh0 B N F M k=>?_;have T:=HV (prog:=JN.row.prog) (w:=w) k B N F M G.T.nolimit 30;refine cF (LS script (by lia)) λv H' e z1=>?_;subst z1;have hg2:∃g,(aa 30).fn "law"=some g/\g [.ext script] ⟨0,λu_=>none⟩=some (.bool true,H'):=by
  unfold ae at e;revert e;generalize (aa 30).fn "law"=o_;rcases o_ with _|g
  .intro e;exact ns e
  .intro e;exact⟨g,rfl,e⟩
 refine bW hg2 λg hgf e=>be (T.fn _ _ hgf) λc hc u_ Fn=>?_;have e1:EO "law"=some (.ref 1269):=by kernel_rfl
 have e2:c=.ref 1269:=by
  have hc:EO "law"=some c:=hc;rw[e1] at hc;obtain rfl:=Option.some.inj hc;rfl
 subst e2;have B':=B;unfold vO at B';simp only[Bool.and_eq_true,List.all_eq_true,decide_eq_true_eq] at B';have m1:((("law":Str),1269):Str×Addr)∈F1:=Ep (by kernel_rfl);have e3:=B'.1.1.1.1.1.1.1 _ m1;have e4:=Gv ((Heap.Ns.of_isNs B'.1.1.1.1.1.1.2).keeps k) G.T.g "law";rw[e3] at e4;have e5:dL.name="law":=by kernel_rfl
 rw[e5,<-e4] at hmg
 cases hmg
 have hsz:its.length<=63:=by
  have:=hI.length;lia
 refine wpAny_mono (Fn.run (A:=callerA) (s:=s₁) (Φ:=[]) (H:=⟨0,λu_=>none⟩) (args:=[.ext script]) (cs:=[.ref la]) ?_ ?_ ⟨⟨la,its.toArray,rfl,hL,hI,?_⟩,trivial⟩ e) (λu s' gt=>?_) (λu_ u_ q=>q.elim)
 .exact⟨rfl,by decide+kernel,by decide+kernel⟩
 .exact⟨rfl,λn p h=>(nomatch h),λu_ u_=>rfl,λn m p q u_ h=>(nomatch h),λn p h=>(nomatch h),λu_ u_ h=>h,λn p h=>(nomatch h)⟩
 .refine wr sizeLine_eq ?_;simp;exact Nat.le_add_left_of_le (by assumption)
 .refine be gt λΦ' hv r st=>?_;have hv:u=.bool true:=hv;subst hv;refine⟨.inl ⟨_,.bool true,[],rfl,λu_=>rfl,.bool true,by first|kernel_rfl|wrow_post,λu_=>⟨List.nodup_nil,λu_ h=>(nomatch h)⟩⟩,.of_keep λa o e=>st.keep a o e (λn p h=>(nomatch h)) (λh=>h),st.os,.of_eq (st.gens.trans hg)⟩
theorem holds (LS:∀script:List Int,script.length<=63->ok (ae (aa 30) "law" [.ext script]) (λv u_=>v=.bool true) ⟨0,λu_=>none⟩):JN.Holds:=GP (walk LS)
end Mi.Top
end
theorem PySem.Challenge.cw_pq0325_01_holds : PySem.Challenge.rw_pq0325_01.Holds :=
 Mi.Top.holds Mi.LS
