import PyProof.Rows.All
import Wide.All
import OpenK.AllK
import Wide.FinOn
import HandS.Words
import HandS.WordsExc
import HandS.Defaults
import HandS.Ends
import HandS.ExcInit
import HandS.Head0
import HandS.Head1
import HandS.Head2
import HandS.HeadEnd
import HandS.HeadHook1
import HandS.HeadHook2
import HandS.ForMost
import HandS.Wide
import HandS.Flow
import HandS.Style
import HandS.DictTup
import HandS.TupAny
import HandS.More
import HandS.Conv
import PyProof.TupleOfSeq
import KE.SortData
import HandS.Finally
import HandS.EndBits
import PyProof.ReprReads
import PyProof.ReprRoads
import PyProof.CallFns
import KE.KDictCopyH
import HandS.DictComp
import HandS.IsInst
import HandS.MakeKwOnly
import PyProof.Rows.SetFrom
import HandS.TupSets
import KE.KDictWalk
import HandS.NoneIn
import HandS.SetFor
import HandS.SetKeys
import PyProof.SumAny
import KE.KDictPairs
import KE.LtData
import KE.KEqNest
import PyProof.NeKinds
import PyProof.StrOps2
import PyProof.DictUpdate
import PyProof.EvalArms
import PyProof.DictMoreH
import KE.SortCalls
import HandS.Star
import HandS.Property
import HandS.ClsMeth
import PyProof.FitsInt
import PyProof.StrLawsRepr
import HandS.ExcField
import HandS.ExcOwn
import HandS.TryOnly
import HandS.OwnEq
import HandS.Zip
import HandS.ListItems
import KE.KDictZip
import PySem.Challenge.RW_keptnames_k32_naming_by_name
set_option Elab.async false
set_option linter.all false
set_option maxRecDepth 100000
set_option maxHeartbeats 4000000
open PySem.W (Frag keepIn nsIn mg_of fnOf codeIn mg_none_of isFn recIn findCls specialIn plainGet hasDictIn plainOver makesIn dataLe dataLt takesIn)
namespace Mv
open PySem PySem.Spec PyProof.Rows L2
structure DefA where
  at_:Frag→Addr
  name:Str
  qual:Str
  st:Stmt
abbrev FnU:Type:=Option (Str×Str×Arguments×FuncBody×Scope×Addr×List (Str×Addr)×Value×Addr)
def fnU (K:Frag) (a:Addr):FnU:=match K.lookup a with
  | some ⟨_,_,.func fd,_⟩=>some (fd.name,fd.qualname,fd.params,fd.body,fd.scope,fd.globals,fd.closure,fd.defaults,fd.builtins)
  | _=>none
def zis (K:Frag) (a:Addr) (q:Str):Bool:=match K.lookup a with
  | some ⟨_,_,.func fd,_⟩=>codeIn K fd.code q
  | _=>false
def DefA.val (d:DefA):FnU:=some (d.name,d.qual,defArgs d.st,.stmts (defBody d.st),defScope d.st,mainGlobals,[],.none,builtinsNs)
theorem zv4 {K:Frag} {d:DefA} (e:fnU K (d.at_ K)=d.val) (c:zis K (d.at_ K) d.qual=true) :
    ∃ oc od osl kV doc pm an cdv ct,K.lookup (d.at_ K)=some ⟨oc,od,.func (fnOf d.name d.qual (defArgs d.st) (defBody d.st) (defScope d.st) .none kV doc pm an cdv ct),osl⟩∧codeIn K cdv d.qual=true:=by
  unfold zis at c
  unfold fnU at e
  cases q:K.lookup (d.at_ K) with
  | none =>
    rw [q] at c
    cases c
  | some o =>
    obtain ⟨oc,od,dt,osl⟩:=o
    rw [q] at c e
    cases dt with
    | func fd =>
      obtain ⟨n1,n2,n3,n4,n5,n6,n7,n8,n9,n10,n11,n12,n13,n14,n15⟩:=fd
      have e2:(some (n1,n2,n3,n4,n5,n6,n7,n8,n15):FnU)=some (d.name,d.qual,defArgs d.st,.stmts (defBody d.st),defScope d.st,mainGlobals,[],.none,builtinsNs):=e
      simp only [Option.some.injEq,Prod.mk.injEq] at e2
      obtain ⟨h1,h2,h3,h4,h5,h6,h7,h8,h9⟩:=e2
      subst h1 h2 h3 h4 h5 h6 h7 h8 h9
      exact ⟨oc,od,osl,n9,n10,n11,n12,n13,n14,rfl,c⟩
    | _=>cases c
abbrev AlA:Type:=Bool×List FnU
def obsA (ch:Frag→List Bool) (fn:List DefA) (K:Frag):AlA:=((ch K).all id && fn.all fun d=>zis K (d.at_ K) d.qual,fn.map fun d=>fnU K (d.at_ K))
def valA (fn:List DefA):AlA:=(true,fn.map DefA.val)
def SaysA (ch:Frag→List Bool) (fn:List DefA) (K:Frag):Prop:=obsA ch fn K=valA fn
def lvls (g:Addr→Option Obj):Nat→List Addr→List Addr
  | 0,as=>as
  | n + 1,as=>as++lvls g n (as.flatMap fun a=>match g a with
    | some o=>(He.refsD o).filter fun b=>!(b == a)
    | none=>[])
def asA (g:Addr→Option Obj) (names:List Str):List Addr:=mainGlobals :: cStatics :: lvls g 5 (names.map (He.ga (He.frG g [mainGlobals])))
def obGA (names:List Str) (ch:Frag→List Bool) (fn:List DefA) (g:Addr→Option Obj):AlA:=obsA ch fn (He.frG g (asA g names))
def hookA (names:List Str) (ch:Frag→List Bool) (fn:List DefA):PySem.W.Hook where
  α:=AlA
  obs:=fun s=>obGA names ch fn s.heap.get?
  val:=fun _=>valA fn
  says:=fun _ h=>∃ K:Frag,K.In h∧SaysA ch fn K
  of:=fun _ _ e=>⟨_,He.frG_in,e⟩
  keeps:=fun _ _ _ ⟨K,hK,c⟩ k=>⟨K,PySem.W.Frag.In.keeps hK k,c⟩
theorem obGA_eq {names:List Str} {ch:Frag→List Bool} {fn:List DefA} {g:Addr→Option Obj} {s:Shared} (h:∀ a,g a=s.heap.get? a):obGA names ch fn g=(hookA names ch fn).obs s:=by
  have e:g=s.heap.get?:=funext h
  rw [e] <;> rfl
section
variable {ch:Frag→List Bool} {fn:List DefA} {K:Frag}
theorem SaysA.chk (c:SaysA ch fn K) (i:Nat) {b:Bool} (h:(ch K)[i]? = some b):b=true:=by
  have c1:=(He.ba (show ((ch K).all id && fn.all fun d=>zis K (d.at_ K) d.qual)=true from congrArg (fun z:AlA=>z.1) c)).1
  exact List.all_eq_true.mp c1 b (List.mem_of_getElem? h)
theorem SaysA.is (c:SaysA ch fn K) (i:Nat) {p:Prop} [Decidable p] (h:(ch K)[i]? = some (decide p)):p:=of_decide_eq_true (c.chk i h)
theorem SaysA.def_ (c:SaysA ch fn K) (i:Nat) {d:DefA} (h:fn[i]? = some d:=by rfl) :
    ∃ oc od osl kV doc pm an cdv ct,K.lookup (d.at_ K)=some ⟨oc,od,.func (fnOf d.name d.qual (defArgs d.st) (defBody d.st) (defScope d.st) .none kV doc pm an cdv ct),osl⟩∧codeIn K cdv d.qual=true:=by
  have c2:=(He.ba (show ((ch K).all id && fn.all fun d=>zis K (d.at_ K) d.qual)=true from congrArg (fun z:AlA=>z.1) c)).2
  have e:fn.map (fun d=>fnU K (d.at_ K))=fn.map DefA.val:=congrArg (fun z:AlA=>z.2) c
  have e2:(fn.map fun d=>fnU K (d.at_ K))[i]? = (fn.map DefA.val)[i]?:=by rw [e]
  rw [List.getElem?_map,List.getElem?_map,h] at e2
  exact zv4 (Option.some.inj e2) (List.all_eq_true.mp c2 d (List.mem_of_getElem? h))
end
def adO (o:Option (Option Value)):Addr:=match o with
  | some (some (.ref a))=>a
  | _=>0
def tokO (o:Option (Option Value)):Tok:=match o with
  | some (some (.int _ t))=>t
  | some (some (.str _ t))=>t
  | _=>default
def z0p (o:Option (List Value)):List Value:=match o with
  | some (_ :: r)=>r
  | _=>[]
def z0q (o:Option (List Value)):Addr:=match o with
  | some (.ref a :: _)=>a
  | _=>0
def kwA (K:Frag) (f:Addr):Addr:=match K.lookup f with
  | some ⟨_,_,.func fd,_⟩=>(match fd.kwdefaults with
    | .ref D=>D
    | _=>0)
  | _=>0
def kwB (K:Frag) (f:Addr):Bool:=match K.lookup f with
  | some ⟨_,_,.func fd,_⟩=>(match fd.kwdefaults with
    | .ref _=>true
    | _=>false)
  | _=>false
theorem zit {K:Frag} {f:Addr} {oc:Value} {od:Option Addr} {x q:Str} {ar:Arguments} {b:List Stmt} {sc:Scope} {dV kV doc pm:Value} {an:Option Addr} {cdv ct:Value} {osl:Array (Option Value)} (h:kwB K f=true)
    (l:K.lookup f=some ⟨oc,od,.func (fnOf x q ar b sc dV kV doc pm an cdv ct),osl⟩):kV = .ref (kwA K f):=by
  unfold kwB at h
  unfold kwA
  rw [l] at h ⊢
  cases kV with
  | ref D=>rfl
  | _=>exact nomatch (show false=true from h)
def empB (K:Frag) (t:Addr):Bool:=match K.lookup t with
  | some ⟨.type c,_,.seq its _,_⟩=>decide (c = "tuple") && its.isEmpty
  | _=>false
theorem zp4 {K:Frag} {t:Addr} (h:empB K t=true):∃ td tn ts,K.lookup t=some ⟨.type "tuple", td,.seq #[] tn,ts⟩:=by
  unfold empB at h
  cases q:K.lookup t with
  | none=>rw [q] at h; cases h
  | some o =>
    obtain ⟨oc,od,dt,osl⟩:=o
    rw [q] at h
    cases oc with
    | type c =>
      cases dt with
      | seq its n =>
        obtain ⟨h1,h2⟩:=He.ba (show (decide (c = "tuple") && its.isEmpty)=true from h)
        rw [of_decide_eq_true h1,Array.isEmpty_iff.mp h2]
        exact ⟨_,_,_,rfl⟩
      | _=>cases h
    | _=>cases dt <;> cases h
def cmA (K:Frag) (C:Addr) (m:Str):Addr:=match findCls K (.ref C) (.type "type") m with
  | some (.get _ (.ref p) _ _)=>p
  | _=>0
def cmB (K:Frag) (C:Addr) (m:Str):Bool:=match findCls K (.ref C) (.type "type") m with
  | some (.get (.builtin g) (.ref _) .none (.ref D))=>decide (g = "classmethod.__get__") && decide (D=C)
  | _=>false
theorem z0n {K:Frag} {C:Addr} {m:Str} (h:cmB K C m=true):findCls K (.ref C) (.type "type") m=some (.get (.builtin "classmethod.__get__") (.ref (cmA K C m)) .none (.ref C)):=by
  unfold cmB at h
  unfold cmA
  split at h
  · rename_i g p D e
    obtain ⟨h1,h2⟩:=He.ba h
    rw [e,of_decide_eq_true h1,of_decide_eq_true h2]
  · cases h
def cvB (K:Frag) (C:Addr) (f:Str) (v:Int) (tk:Tok):Bool:=match findCls K (.ref C) (.type "type") f with
  | some (.val (.int n t))=>decide (n=v) && decide (t=tk)
  | _=>false
theorem z0o {K:Frag} {C:Addr} {f:Str} {v:Int} {tk:Tok} (h:cvB K C f v tk=true):findCls K (.ref C) (.type "type") f=some (.val (.int v tk)):=by
  unfold cvB at h
  split at h
  · rename_i n t e
    obtain ⟨h1,h2⟩:=He.ba h
    rw [e,of_decide_eq_true h1,of_decide_eq_true h2]
  · cases h
def excB (K:Frag) (C:Addr):Bool:=match K.lookup C with
  | some ⟨.type "type", _,.cls cd,sl⟩=>(match cd.mro,sl.toList with
    | .ref C' :: bm,[_,_,_,_,some (.builtin n),_]=>(C' == C && (n == "ValueError.__new__" && (!cd.hasDel && (cd.hasDict && PySem.HandSPX.refsVE bm))))
    | _,_=>false)
  | _=>false
theorem z0m {K:Frag} {C:Addr} (q:excB K C=true):∃ nm qn NS bs bm sn sub ab col dd k0 k1 k2 k3 k5,K.lookup C=some (excClassObj nm qn C NS bs bm true sn sub ab col dd k0 k1 k2 k3 k5 "ValueError.__new__")∧PySem.HandSPX.refsVE bm=true:=by
  unfold excB at q
  split at q
  · rename_i dd cd sl ho
    split at q
    · rename_i C' bm k0 k1 k2 k3 n k5 hm hs
      simp only [Bool.and_eq_true,beq_iff_eq,Bool.not_eq_true'] at q
      obtain ⟨rfl,rfl,hdel,hdict,hr⟩:=q
      obtain ⟨nm,bs,mro,ns,qn,hd,sn,sub,ab,col,del⟩:=cd
      dsimp only at hm hdel hdict
      subst hm hdel hdict
      have hsl:sl = #[k0,k1,k2,k3,some (.builtin "ValueError.__new__"),k5]:=by
        obtain ⟨l⟩:=sl
        simp only at hs
        rw [hs]
      subst hsl
      exact ⟨nm,qn,ns,bs,bm,sn,sub,ab,col,dd,k0,k1,k2,k3,k5,ho,hr⟩
    · cases q
  · cases q
def zvk (K:Frag) (C:Addr):Bool:=match findCls K (.ref C) (.type "type") "__init__" with
  | some (.val (.builtin x))=>decide (x = "ValueError.__init__")
  | _=>false
theorem z0k {K:Frag} {C:Addr} (h:zvk K C=true):findCls K (.ref C) (.type "type") "__init__" = some (.val (.builtin "ValueError.__init__")):=by
  unfold zvk at h
  split at h
  · rename_i x e
    rw [e,of_decide_eq_true h]
  · cases h
theorem z0l {R:PySem.W.OpenRow} {q:Program} {M:Nat} {loose names:List Str} {w:World} {c0 c1:Frag→List Bool} {fn:List DefA}
    (h0:HandSHeadRun.RunEq R q (hookA names c0 fn) (fun s=>obGA names c0 fn (HandSHeadRun.getT s)) M loose w) (h1:HandSHeadRun.RunEq R q (hookA names c1 []) (fun s=>obGA names c1 [] (HandSHeadRun.getT s)) M loose w) :
    HandSHeadRun.RunEq R q (hookA names (fun K=>c0 K++c1 K) fn) (fun s=>obGA names (fun K=>c0 K++c1 K) fn (HandSHeadRun.getT s)) M loose w:=by
  intro os
  obtain ⟨s,es,e0⟩:=Option.map_eq_some_iff.mp (h0 os)
  obtain ⟨s',es',e1⟩:=Option.map_eq_some_iff.mp (h1 os)
  rw [es] at es'
  cases es'
  refine Option.map_eq_some_iff.mpr ⟨s,es,?_⟩
  have a1:=congrArg (fun z=>z.1) e0
  have a2:=congrArg (fun z=>z.2.1) e0
  have a3:obGA names c0 fn (HandSHeadRun.getT s)=valA fn:=congrArg (fun z=>z.2.2) e0
  have b3:obGA names c1 [] (HandSHeadRun.getT s)=valA []:=congrArg (fun z=>z.2.2) e1
  refine Prod.ext a1 (Prod.ext a2 ?_)
  show obGA names (fun K=>c0 K++c1 K) fn (HandSHeadRun.getT s)=valA fn
  unfold obGA obsA valA at a3 b3 ⊢
  have p1:=congrArg (fun z:AlA=>z.1) a3
  have p2:=congrArg (fun z:AlA=>z.2) a3
  have r1:=congrArg (fun z:AlA=>z.1) b3
  dsimp only at p1 p2 r1
  rw [Bool.and_eq_true] at p1 r1
  refine Prod.ext ?_ p2
  show ((c0 _++c1 _).all id && _)=true
  rw [List.all_append,p1.1,r1.1,p1.2]; rfl
end Mv
namespace Mv
namespace K32
open PySem PySem.Spec PyProof.Rows L2
/-! ### the text: printed by cgen.py -/
def topS (i:Nat):Stmt:=PySem.Challenge.pw_keptnames_k32_naming_by_name.main.body.getD i (.Pass ⟨0,0,0,0⟩)
abbrev jd:Stmt:=topS 23
abbrev zl6:List Str:=["_law_script", "_law_start", "_law_seed", "_law_number", "_law_digits"]
theorem zdz:FnScope zl6 ["_law_script", "_law_start"] (defScope jd):=⟨rfl,rfl,rfl,by decide +kernel,rfl,by decide +kernel,by decide +kernel⟩
abbrev vh:Stmt:=topS 24
abbrev zpr:List Str:=["_law_stream_here", "_law_size", "_law_found"]
theorem zfu:FnScope zpr ["_law_stream_here", "_law_size"] (defScope vh):=⟨rfl,rfl,rfl,by decide +kernel,rfl,by decide +kernel,by decide +kernel⟩
abbrev je:Stmt:=topS 25
abbrev zl7:List Str:=["_law_stream_here", "_law_items"]
theorem zd0:FnScope zl7 ["_law_stream_here", "_law_items"] (defScope je):=⟨rfl,rfl,rfl,by decide +kernel,rfl,by decide +kernel,by decide +kernel⟩
abbrev jy:Stmt:=topS 26
abbrev zns:List Str:=["_law_stream_here", "_law_left", "_law_parts", "_law_turn", "_law_group", "_law_more", "_law_tags", "_law_loads", "_law_row_id", "_law_stuck", "_law_name"]
theorem zfd:FnScope zns ["_law_stream_here"] (defScope jy):=⟨rfl,rfl,rfl,by decide +kernel,rfl,by decide +kernel,by decide +kernel⟩
abbrev jo:Stmt:=topS 13
abbrev zhn:List Str:=["groups", "place", "group", "row_id"]
theorem zfv:FnScope zhn ["groups"] (defScope jo):=⟨rfl,rfl,rfl,by decide +kernel,rfl,by decide +kernel,by decide +kernel⟩
abbrev xq:Stmt:=topS 15
abbrev ziu:List Str:=["groups", "pins", "places", "found", "taken", "name", "place"]
theorem zct:FnScope ziu ["groups", "pins"] (defScope xq):=⟨rfl,rfl,rfl,by decide +kernel,rfl,by decide +kernel,by decide +kernel⟩
abbrev jf:Stmt:=topS 1
abbrev zl8:List Str:=["entries", "found", "key"]
theorem zd1:FnScope zl8 ["entries"] (defScope jf):=⟨rfl,rfl,rfl,by decide +kernel,rfl,by decide +kernel,by decide +kernel⟩
abbrev x6:Stmt:=topS 2
abbrev zfw:List Str:=["rows", "pairs", "owners", "gains", "row", "moves", "is_changed", "entries", "column", "weight", "gain", "other"]
theorem zfe:FnScope zfw ["rows", "pairs", "owners"] (defScope x6):=⟨rfl,rfl,rfl,by decide +kernel,rfl,by decide +kernel,by decide +kernel⟩
abbrev xj:Stmt:=topS 3
abbrev zhy:List Str:=["entries", "every", "rows", "pairs", "owners", "first", "own", "moves", "row", "column", "other"]
theorem zch:FnScope zhy ["entries"] (defScope xj):=⟨rfl,rfl,rfl,by decide +kernel,rfl,by decide +kernel,by decide +kernel⟩
abbrev xw:Stmt:=topS 7
abbrev zff:List Str:=["table", "name", "place"]
theorem zd2:FnScope zff ["table"] (defScope xw):=⟨rfl,rfl,rfl,by decide +kernel,rfl,by decide +kernel,by decide +kernel⟩
abbrev xl:Stmt:=topS 8
abbrev zd3:List Str:=["table", "name", "place"]
theorem zde:FnScope zd3 ["table"] (defScope xl):=⟨rfl,rfl,rfl,by decide +kernel,rfl,by decide +kernel,by decide +kernel⟩
abbrev q9:Stmt:=topS 9
abbrev zl9:List Str:=["table", "homes", "names", "places", "powers", "name", "found", "key", "weight", "place", "is_home", "digit", "rank"]
theorem zd4:FnScope zl9 ["table", "homes"] (defScope q9):=⟨rfl,rfl,rfl,by decide +kernel,rfl,by decide +kernel,by decide +kernel⟩
abbrev qg:Stmt:=topS 11
abbrev ziv:List Str:=["table", "homes"]
theorem zcu:FnScope ziv ["table", "homes"] (defScope qg):=⟨rfl,rfl,rfl,by decide +kernel,rfl,by decide +kernel,by decide +kernel⟩
abbrev jg:Stmt:=topS 6
abbrev zlp:List Str:=["table", "names", "places", "key"]
theorem ziw:FnScope zlp ["table", "names", "places"] (defScope jg):=⟨rfl,rfl,rfl,by decide +kernel,rfl,by decide +kernel,by decide +kernel⟩
abbrev jh:Stmt:=topS 5
abbrev zma:List Str:=["labels", "groups", "weights", "found", "place", "group", "row_id", "key"]
theorem zd5:FnScope zma ["labels", "groups", "weights"] (defScope jh):=⟨rfl,rfl,rfl,by decide +kernel,rfl,by decide +kernel,by decide +kernel⟩
abbrev x7:Stmt:=topS 16
abbrev zfx:List Str:=["labels", "groups", "weights", "pins", "places", "pinned", "row_id"]
theorem zfg:FnScope zfx ["labels", "groups", "weights", "pins"] (defScope x7):=⟨rfl,rfl,rfl,by decide +kernel,rfl,by decide +kernel,by decide +kernel⟩
abbrev xc:Stmt:=topS 17
abbrev zfy:List Str:=["labels", "groups", "weights", "pins", "homes", "counting", "places", "found", "name", "row_id"]
theorem zfh:FnScope zfy ["labels", "groups", "weights", "pins", "homes"] (defScope xc):=⟨rfl,rfl,rfl,by decide +kernel,rfl,by decide +kernel,by decide +kernel⟩
abbrev jp:Stmt:=topS 14
abbrev zho:List Str:=["groups", "names", "name", "place", "row_id"]
theorem zfz:FnScope zho ["groups", "names"] (defScope jp):=⟨rfl,rfl,rfl,by decide +kernel,rfl,by decide +kernel,by decide +kernel⟩
abbrev xx:Stmt:=topS 18
abbrev zfi:List Str:=["labels", "groups", "names", "found", "place", "group", "row_id"]
theorem zd6:FnScope zfi ["labels", "groups", "names"] (defScope xx):=⟨rfl,rfl,rfl,by decide +kernel,rfl,by decide +kernel,by decide +kernel⟩
abbrev x3:Stmt:=topS 19
abbrev zkn:List Str:=["labels", "groups", "found", "place", "group", "row_id", "places"]
theorem zdf:FnScope zkn ["labels", "groups"] (defScope x3):=⟨rfl,rfl,rfl,by decide +kernel,rfl,by decide +kernel,by decide +kernel⟩
abbrev uq:Stmt:=topS 20
abbrev zr5:List Str:=["name", "places", "names"]
theorem zix:FnScope zr5 ["name", "places", "names"] (defScope uq):=⟨rfl,rfl,rfl,by decide +kernel,rfl,by decide +kernel,by decide +kernel⟩
abbrev xr:Stmt:=topS 21
abbrev zbq:List Str:=["labels", "groups", "names", "told", "found", "name", "place", "group", "met", "row_id"]
theorem zf0:FnScope zbq ["labels", "groups", "names"] (defScope xr):=⟨rfl,rfl,rfl,by decide +kernel,rfl,by decide +kernel,by decide +kernel⟩
abbrev zan:Stmt:=topS 27
abbrev zzj:List Str:=["_law_script", "_law_start", "_law_stream_here", "_law_parts", "_law_tags", "_law_loads", "_law_stuck", "_law_named"]
theorem zr6:FnScope zzj ["_law_script"] (defScope zan):=⟨rfl,rfl,rfl,by decide +kernel,rfl,by decide +kernel,by decide +kernel⟩
def zxt:List Str:=["row_entries", "best_moves", "greatest_pairs", "label_table", "without", "table_names", "table_places", "exact_table", "best_carrying", "places_of", "labels_of", "counting_pins", "open_table", "carry_over", "renamed_ids", "label_places", "fate_of", "events_of", "_law_stream", "_law_draw", "_law_choose", "_law_drawn"]
def loose:List Str:=zxt
def zzk:List Str:=["_law_stream", "_law_draw", "_law_choose", "_law_drawn", "places_of", "counting_pins", "row_entries", "best_moves", "greatest_pairs", "table_names", "table_places", "exact_table", "best_carrying", "without", "label_table", "open_table", "carry_over", "labels_of", "renamed_ids", "label_places", "fate_of", "events_of", "law"]
def tops:List Str:=zzk
def A_f0 (K:Frag):Addr:=He.ga K "_law_stream"
def A_f1 (K:Frag):Addr:=He.ga K "_law_draw"
def A_f2 (K:Frag):Addr:=He.ga K "_law_choose"
def A_f3 (K:Frag):Addr:=He.ga K "_law_drawn"
def A_f4 (K:Frag):Addr:=He.ga K "places_of"
def A_f5 (K:Frag):Addr:=He.ga K "counting_pins"
def A_f6 (K:Frag):Addr:=He.ga K "row_entries"
def A_f7 (K:Frag):Addr:=He.ga K "best_moves"
def A_f8 (K:Frag):Addr:=He.ga K "greatest_pairs"
def A_f9 (K:Frag):Addr:=He.ga K "table_names"
def zm5 (K:Frag):Addr:=He.ga K "table_places"
def zg0 (K:Frag):Addr:=He.ga K "exact_table"
def zr7 (K:Frag):Addr:=kwA K (zg0 K)
def zg1 (K:Frag):Addr:=He.ga K "best_carrying"
def zr8 (K:Frag):Addr:=kwA K (zg1 K)
def zg2 (K:Frag):Addr:=He.ga K "without"
def zf1 (K:Frag):Addr:=kwA K (zg2 K)
def zdv (K:Frag):Addr:=adO (nsIn K (zf1 K) "names")
def zcv (K:Frag):Addr:=adO (nsIn K (zf1 K) "places")
def zm6 (K:Frag):Addr:=He.ga K "label_table"
def zm7 (K:Frag):Addr:=He.ga K "open_table"
def zg3 (K:Frag):Addr:=He.ga K "carry_over"
def znt (K:Frag):Addr:=kwA K (zg3 K)
def zm8 (K:Frag):Addr:=He.ga K "labels_of"
def zm9 (K:Frag):Addr:=He.ga K "renamed_ids"
def zna (K:Frag):Addr:=He.ga K "label_places"
def znb (K:Frag):Addr:=He.ga K "fate_of"
def znc (K:Frag):Addr:=He.ga K "events_of"
def znd (K:Frag):Addr:=He.ga K "law"
def zxu (K:Frag):List Bool:=[decide (nsIn K mainGlobals "_law_stream" = some (some (.ref (A_f0 K)))),
  decide (keepIn K (.ref (A_f0 K))=true),
  decide (nsIn K mainGlobals "_law_draw" = some (some (.ref (A_f1 K)))),
  decide (keepIn K (.ref (A_f1 K))=true),
  decide (nsIn K mainGlobals "_law_choose" = some (some (.ref (A_f2 K)))),
  decide (keepIn K (.ref (A_f2 K))=true),
  decide (nsIn K mainGlobals "_law_drawn" = some (some (.ref (A_f3 K)))),
  decide (keepIn K (.ref (A_f3 K))=true),
  decide (nsIn K mainGlobals "places_of" = some (some (.ref (A_f4 K)))),
  decide (keepIn K (.ref (A_f4 K))=true),
  decide (nsIn K mainGlobals "counting_pins" = some (some (.ref (A_f5 K)))),
  decide (keepIn K (.ref (A_f5 K))=true),
  decide (nsIn K mainGlobals "row_entries" = some (some (.ref (A_f6 K)))),
  decide (keepIn K (.ref (A_f6 K))=true),
  decide (nsIn K mainGlobals "best_moves" = some (some (.ref (A_f7 K)))),
  decide (keepIn K (.ref (A_f7 K))=true),
  decide (nsIn K mainGlobals "greatest_pairs" = some (some (.ref (A_f8 K)))),
  decide (keepIn K (.ref (A_f8 K))=true),
  decide (nsIn K mainGlobals "table_names" = some (some (.ref (A_f9 K)))),
  decide (keepIn K (.ref (A_f9 K))=true),
  decide (nsIn K mainGlobals "table_places" = some (some (.ref (zm5 K)))),
  decide (keepIn K (.ref (zm5 K))=true),
  decide (nsIn K mainGlobals "exact_table" = some (some (.ref (zg0 K)))),
  decide (nsIn K (zr7 K) "homes" = some (some .none)),
  decide (keepIn K (.ref (zg0 K))=true),
  decide (nsIn K mainGlobals "best_carrying" = some (some (.ref (zg1 K)))),
  decide (nsIn K (zr8 K) "homes" = some (some .none)),
  decide (keepIn K (.ref (zg1 K))=true),
  decide (nsIn K mainGlobals "without" = some (some (.ref (zg2 K)))),
  decide (nsIn K (zf1 K) "names" = some (some (.ref (zdv K)))),
  decide (empB K (zdv K)=true),
  decide (nsIn K (zf1 K) "places" = some (some (.ref (zcv K)))),
  decide (empB K (zcv K)=true),
  decide (keepIn K (.ref (zg2 K))=true),
  decide (nsIn K mainGlobals "label_table" = some (some (.ref (zm6 K)))),
  decide (keepIn K (.ref (zm6 K))=true),
  decide (nsIn K mainGlobals "open_table" = some (some (.ref (zm7 K)))),
  decide (keepIn K (.ref (zm7 K))=true),
  decide (nsIn K mainGlobals "carry_over" = some (some (.ref (zg3 K)))),
  decide (nsIn K (znt K) "pins" = some (some .none))]
def zxv (K:Frag):List Bool:=[decide (nsIn K (znt K) "homes" = some (some .none)),
  decide (keepIn K (.ref (zg3 K))=true),
  decide (nsIn K mainGlobals "labels_of" = some (some (.ref (zm8 K)))),
  decide (keepIn K (.ref (zm8 K))=true),
  decide (nsIn K mainGlobals "renamed_ids" = some (some (.ref (zm9 K)))),
  decide (keepIn K (.ref (zm9 K))=true),
  decide (nsIn K mainGlobals "label_places" = some (some (.ref (zna K)))),
  decide (keepIn K (.ref (zna K))=true),
  decide (nsIn K mainGlobals "fate_of" = some (some (.ref (znb K)))),
  decide (keepIn K (.ref (znb K))=true),
  decide (nsIn K mainGlobals "events_of" = some (some (.ref (znc K)))),
  decide (keepIn K (.ref (znc K))=true),
  decide (nsIn K mainGlobals "law" = some (some (.ref (znd K)))),
  decide (keepIn K (.ref (znd K))=true),
  decide (nsIn K mainGlobals "len" = some none),
  decide (nsIn K mainGlobals "range" = some none),
  decide (nsIn K mainGlobals "tuple" = some none),
  decide (nsIn K mainGlobals "sorted" = some none),
  decide (nsIn K mainGlobals "int" = some none),
  decide (nsIn K mainGlobals "list" = some none),
  decide (nsIn K mainGlobals "enumerate" = some none),
  decide (K.lookup sysModules=none),
  decide (kwB K (zg0 K)=true),
  decide (kwB K (zg1 K)=true),
  decide (kwB K (zg2 K)=true),
  decide (kwB K (zg3 K)=true)]
def chk0 (K:Frag):List Bool:=zxu K++zxv K
abbrev chk:Frag→List Bool:=chk0
def fnl0:List DefA:=[⟨A_f0, "_law_stream", "_law_stream", jd⟩,
  ⟨A_f1, "_law_draw", "_law_draw", vh⟩,
  ⟨A_f2, "_law_choose", "_law_choose", je⟩,
  ⟨A_f3, "_law_drawn", "_law_drawn", jy⟩,
  ⟨A_f4, "places_of", "places_of", jo⟩,
  ⟨A_f5, "counting_pins", "counting_pins", xq⟩,
  ⟨A_f6, "row_entries", "row_entries", jf⟩,
  ⟨A_f7, "best_moves", "best_moves", x6⟩,
  ⟨A_f8, "greatest_pairs", "greatest_pairs", xj⟩,
  ⟨A_f9, "table_names", "table_names", xw⟩,
  ⟨zm5, "table_places", "table_places", xl⟩,
  ⟨zg0, "exact_table", "exact_table", q9⟩,
  ⟨zg1, "best_carrying", "best_carrying", qg⟩,
  ⟨zg2, "without", "without", jg⟩,
  ⟨zm6, "label_table", "label_table", jh⟩,
  ⟨zm7, "open_table", "open_table", x7⟩,
  ⟨zg3, "carry_over", "carry_over", xc⟩,
  ⟨zm8, "labels_of", "labels_of", jp⟩,
  ⟨zm9, "renamed_ids", "renamed_ids", xx⟩,
  ⟨zna, "label_places", "label_places", x3⟩,
  ⟨znb, "fate_of", "fate_of", uq⟩,
  ⟨znc, "events_of", "events_of", xr⟩,
  ⟨znd, "law", "law", zan⟩]
def fnl:List DefA:=fnl0
abbrev RR:PySem.W.OpenRow:=PySem.W.OpenLaw.row PySem.Challenge.rw_keptnames_k32_naming_by_name
theorem zv5 (w:World):HandSHeadRun.RunEq RR (PySem.W.view RR.prog [27]) (hookA tops chk0 fnl) (fun s=>obGA tops chk0 fnl (HandSHeadRun.getT s)) 40000 loose w:=by
  intro os
  kernel_rfl
theorem rowRun (w:World):HandSHeadRun.RunEq RR (PySem.W.view RR.prog [27]) (hookA tops chk fnl) (fun s=>obGA tops chk fnl (HandSHeadRun.getT s)) 40000 loose w:=(zv5 w)
end K32
end Mv
namespace Mv
open PySem PySem.Spec PyProof.Rows L2
inductive D where
  | non | bl (b:Bool) | int (i:Int) | str (s:Str)
  | tup (xs:List D) | lst (xs:List D)
  | dk (kvs:List (Key×D)) | dt (kvs:List (List Key×D))
  | obj (n:Nat)
  | scr (ns:List Int)
  | emp
  /-- a thing that may change,told apart by its place -/
  | cel (a:Addr)
  /-- an instance that changes no more -/
  | ins (C:Addr) (fs:List (Str×D))
def zcj (a:Addr):HO:=.ext fun h=>∃ (x y:Int) (t u:Tok) (n:Nat),0≤y∧y < 2 ^ 32∧h.get? a=some { cls:=.type "list", data:=.seq [Value.int x t,Value.int y u].toArray n }
def zzl:Nat→Addr→HO
  | 0,a=>zcj a
  | n + 1,_=>.ext fun _=>n=n + 1
def Ex (H H':Hp):Prop:=∀ a o,H a=some o→H' a=some o
theorem Ex.refl (H:Hp):Ex H H:=fun _ _ h=>h
theorem Ex.trans {H H1 H2:Hp} (a:Ex H H1) (b:Ex H1 H2):Ex H H2:=fun x o h=>b x o (a x o h)
theorem Ex.new {H:Hp} {p:Addr} {o:HO} (h:H p=none):Ex H (upd H p o):=fun a u e=>by
  rw [upd_ne (ne_of_none e h)]; exact e
theorem Ex.mut {H H':Hp} {p:Addr} {o:HO} (e:Ex H H') (h:H p=none):Ex H (upd H' p o):=fun a u ha=>by
  rw [upd_ne (ne_of_none ha h)]; exact e a u ha
theorem Ex.both {H H':Hp} {p:Addr} {o:HO} (e:Ex H H'):Ex (upd H p o) (upd H' p o):=fun a u ha=>by
  by_cases q:a=p
  · subst q; rw [upd_same] at ha ⊢; exact ha
  · rw [upd_ne q] at ha ⊢; exact e a u ha
theorem Ex.nn {H H':Hp} {p:Addr} (e:Ex H H') (h:H' p=none):H p=none:=by
  cases q:H p with
  | none=>rfl
  | some o=>rw [e p o q] at h; cases h
theorem Ex.sm {H H':Hp} {p:Addr} (e:Ex H H') (h:H p≠none):H' p≠none:=fun q=>h (e.nn q)
theorem Ex.rd {H H':Hp} {a:Addr} {u:HO} (e:Ex H H') (h:Rd H a u):Rd H' a u:=by
  rcases h with h | ⟨o,h⟩
  · exact .inl (e _ _ h)
  · exact .inr ⟨o,e _ _ h⟩
theorem Ex.sql {K:Frag} {H H':Hp} {a:Addr} {xs:List V} (e:Ex H H') (h:SqL K H a xs):SqL K H' a xs:=by
  rcases h with h | h
  · exact .inl (e.rd h)
  · exact .inr h
def KE (K:Frag) (a:Addr):Prop:=∃ o n,K.lookup a=some o∧o.cls = .type "tuple" ∧ o.data = .seq #[] n
mutual
inductive Rep (K:Frag) (F:Hp):V→D→Prop
  | non:Rep K F .non .non
  | bl (b:Bool):Rep K F (.bl b) (.bl b)
  | int (i:Int):Rep K F (.int i) (.int i)
  | str (x:Str):Rep K F (.str x) (.str x)
  | tup {a:Addr} {vs:List V} {ds:List D}:F a=some (.tup vs)→RepL K F vs ds→Rep K F (.ref a) (.tup ds)
  | lst {a:Addr} {od:Obj} {vs:List V} {ds:List D}:F a=some (.frz od (.lst vs))→RepL K F vs ds→Rep K F (.ref a) (.lst ds)
  | scr {a:Addr} {ns:List Int}:SqL K F a (ns.map V.int)→Rep K F (.ref a) (.scr ns)
  | dk {a:Addr} {od:Obj} {ws:List (Key×V)} {kvs:List (Key×D)}:F a=some (.frz od (.dK ws))→RepK K F ws kvs→Rep K F (.ref a) (.dk kvs)
  | dt {a:Addr} {od:Obj} {ws:List (List Key×V)} {kvs:List (List Key×D)}:F a=some (.frz od (.dT ws))→RepT K F ws kvs→Rep K F (.ref a) (.dt kvs)
  | obj {a:Addr} (n:Nat):F a=some (zzl n a)→Rep K F (.ref a) (.obj n)
  | emp {a:Addr}:KE K a→Rep K F (.ref a) .emp
  | cel (a:Addr):Rep K F (.ref a) (.cel a)
  | ins {a C dx:Addr} {od:Obj} {ws:List (Str×V)} {fs:List (Str×D)}:F a=some (.frz od (.ins C dx ws))→RepF K F ws fs→Rep K F (.ref a) (.ins C fs)
inductive RepF (K:Frag) (F:Hp):List (Str×V)→List (Str×D)→Prop
  | nil:RepF K F [] []
  | cons {k:Str} {v:V} {vs:List (Str×V)} {d:D} {ds:List (Str×D)}:Rep K F v d→RepF K F vs ds→RepF K F ((k,v) :: vs) ((k,d) :: ds)
inductive RepL (K:Frag) (F:Hp):List V→List D→Prop
  | nil:RepL K F [] []
  | cons {v:V} {vs:List V} {d:D} {ds:List D}:Rep K F v d→RepL K F vs ds→RepL K F (v :: vs) (d :: ds)
inductive RepK (K:Frag) (F:Hp):List (Key×V)→List (Key×D)→Prop
  | nil:RepK K F [] []
  | cons {k:Key} {v:V} {vs:List (Key×V)} {d:D} {ds:List (Key×D)}:Rep K F v d→RepK K F vs ds→RepK K F ((k,v) :: vs) ((k,d) :: ds)
inductive RepT (K:Frag) (F:Hp):List (List Key×V)→List (List Key×D)→Prop
  | nil:RepT K F [] []
  | cons {k:List Key} {v:V} {vs:List (List Key×V)} {d:D} {ds:List (List Key×D)}:Rep K F v d→RepT K F vs ds→RepT K F ((k,v) :: vs) ((k,d) :: ds)
end
section
variable {K:Frag} {F F' H H':Hp}
mutual
theorem Rep.mono (e:Ex F F'):∀ {v:V} {d:D},Rep K F v d→Rep K F' v d
  | _,_,.non=>.non
  | _,_,.bl b=>.bl b
  | _,_,.int i=>.int i
  | _,_,.str x=>.str x
  | _,_,.tup h r=>.tup (e _ _ h) (RepL.mono e r)
  | _,_,.lst h r=>.lst (e _ _ h) (RepL.mono e r)
  | _,_,.scr h=>.scr (e.sql h)
  | _,_,.dk h r=>.dk (e _ _ h) (RepK.mono e r)
  | _,_,.dt h r=>.dt (e _ _ h) (RepT.mono e r)
  | _,_,.obj n h=>.obj n (e _ _ h)
  | _,_,.emp h=>.emp h
  | _,_,.cel a=>.cel a
  | _,_,.ins h r=>.ins (e _ _ h) (RepF.mono e r)
theorem RepF.mono (e:Ex F F'):∀ {v:List (Str×V)} {d:List (Str×D)},RepF K F v d→RepF K F' v d
  | _,_,.nil=>.nil
  | _,_,.cons h r=>.cons (Rep.mono e h) (RepF.mono e r)
theorem RepL.mono (e:Ex F F'):∀ {v:List V} {d:List D},RepL K F v d→RepL K F' v d
  | _,_,.nil=>.nil
  | _,_,.cons h r=>.cons (Rep.mono e h) (RepL.mono e r)
theorem RepK.mono (e:Ex F F'):∀ {v:List (Key×V)} {d:List (Key×D)},RepK K F v d→RepK K F' v d
  | _,_,.nil=>.nil
  | _,_,.cons h r=>.cons (Rep.mono e h) (RepK.mono e r)
theorem RepT.mono (e:Ex F F'):∀ {v:List (List Key×V)} {d:List (List Key×D)},RepT K F v d→RepT K F' v d
  | _,_,.nil=>.nil
  | _,_,.cons h r=>.cons (Rep.mono e h) (RepT.mono e r)
end
theorem RepL.length:∀ {vs:List V} {ds:List D},RepL K F vs ds→vs.length=ds.length
  | _,_,.nil=>rfl
  | _,_,.cons _ r=>by simp [RepL.length r]
theorem RepL.app:∀ {vs ws:List V} {ds es:List D},RepL K F vs ds→RepL K F ws es→RepL K F (vs++ws) (ds++es)
  | _,_,_,_,.nil,r=>r
  | _,_,_,_,.cons h t,r=>.cons h (RepL.app t r)
theorem RepL.get:∀ {vs:List V} {ds:List D} {i:Nat} {d:D},RepL K F vs ds→ds[i]? = some d→∃ v,vs[i]? = some v∧Rep K F v d
  | _,_,_,_,.nil,h=>by simp at h
  | _,_,0,_,.cons h t,e=>by simp at e; subst e; exact ⟨_,rfl,h⟩
  | _,_,i + 1,_,.cons h t,e=>by
    obtain ⟨v,q,r⟩:=RepL.get t (i:=i) (by simpa using e)
    exact ⟨v,by simpa using q,r⟩
theorem RepL.getV:∀ {vs:List V} {ds:List D} {i:Nat} {v:V},RepL K F vs ds→vs[i]? = some v→∃ d,ds[i]? = some d∧Rep K F v d
  | _,_,_,_,.nil,h=>by simp at h
  | _,_,0,_,.cons h t,e=>by simp at e; subst e; exact ⟨_,rfl,h⟩
  | _,_,i + 1,_,.cons h t,e=>by
    obtain ⟨v,q,r⟩:=RepL.getV t (i:=i) (by simpa using e)
    exact ⟨v,by simpa using q,r⟩
theorem RepL.set {v:V} {d:D} (r:Rep K F v d):∀ {vs:List V} {ds:List D} (i:Nat),RepL K F vs ds→RepL K F (vs.set i v) (ds.set i d)
  | _,_,_,.nil=>.nil
  | _,_,0,.cons h t=>.cons r t
  | _,_,i + 1,.cons h t=>.cons h (RepL.set r i t)
theorem RepL.eraseIdx:∀ {vs:List V} {ds:List D} (i:Nat),RepL K F vs ds→RepL K F (vs.eraseIdx i) (ds.eraseIdx i)
  | _,_,_,.nil=>.nil
  | _,_,0,.cons h t=>t
  | _,_,i + 1,.cons h t=>.cons h (RepL.eraseIdx i t)
theorem RepL.ints:∀ (ns:List Int),RepL K F (ns.map V.int) (ns.map D.int)
  | []=>.nil
  | n :: ns=>.cons (.int n) (RepL.ints ns)
end
inductive O where
  | lst (xs:List D) | dk (kvs:List (Key×D)) | dt (kvs:List (List Key×D)) | ins (C:Addr) (fs:List (Str×D))
def O.d:O→D
  | .ins C fs=>.ins C fs
  | .lst xs=>.lst xs
  | .dk kvs=>.dk kvs
  | .dt kvs=>.dt kvs
abbrev Wl:=List (Addr×O)
inductive S where
  | fz (d:D) | own (o:O) | nk (kvs:List (Key×O)) | nt (kvs:List (List Key×O)) | wld (W:Wl) | rw (s:S) (W:Wl)
def S.d:S→D
  | .wld _=>.non
  | .rw s _=>s.d
  | .fz d=>d
  | .own o=>o.d
  | .nk kvs=>.dk (kvs.map fun x=>(x.1,x.2.d))
  | .nt kvs=>.dt (kvs.map fun x=>(x.1,x.2.d))
abbrev Dl:=List (Option S)
def OwnAt (K:Frag) (F H:Hp) (a:Addr):O→Prop
  | .lst ds=>∃ vs,H a=some (.lst vs)∧RepL K F vs ds
  | .dk kvs=>∃ ws,H a=some (.dK ws)∧RepK K F ws kvs
  | .dt kvs=>∃ ws,H a=some (.dT ws)∧RepT K F ws kvs
  | .ins C fs=>∃ ws:Addr×List (Str×V),H a=some (.ins C ws.1 ws.2)∧RepF K F ws.2 fs
theorem OwnAt.mono {K:Frag} {F F' H H':Hp} {a:Addr} {o:O} (h:OwnAt K F H a o) (e:Ex F F') (e2:H a=H' a):OwnAt K F' H' a o:=by
  cases o with
  | lst ds=>obtain ⟨vs,h1,h2⟩:=h; exact ⟨vs,e2 ▸ h1,h2.mono e⟩
  | dk ds=>obtain ⟨vs,h1,h2⟩:=h; exact ⟨vs,e2 ▸ h1,h2.mono e⟩
  | dt ds=>obtain ⟨vs,h1,h2⟩:=h; exact ⟨vs,e2 ▸ h1,h2.mono e⟩
  | ins C fs=>obtain ⟨vs,h1,h2⟩:=h; exact ⟨vs,e2 ▸ h1,h2.mono e⟩
theorem OwnAt.there {K:Frag} {F H:Hp} {a:Addr} {o:O} (h:OwnAt K F H a o):∃ ho,H a=some ho∧Mut (some ho):=by
  cases o with
  | lst ds=>obtain ⟨vs,h1,h2⟩:=h; exact ⟨_,h1,trivial⟩
  | dk ds=>obtain ⟨vs,h1,h2⟩:=h; exact ⟨_,h1,trivial⟩
  | dt ds=>obtain ⟨vs,h1,h2⟩:=h; exact ⟨_,h1,trivial⟩
  | ins C fs=>obtain ⟨vs,h1,h2⟩:=h; exact ⟨_,h1,trivial⟩
theorem OwnAt.rep {K:Frag} {F H:Hp} {a:Addr} {o:O} (h:OwnAt K F H a o) (n:F a=none):∃ ho,H a=some ho∧Mut (some ho)∧∀ od,Rep K (upd F a (.frz od ho)) (.ref a) o.d:=by
  cases o with
  | lst ds=>obtain ⟨vs,h1,h2⟩:=h; exact ⟨_,h1,trivial,fun od=>.lst upd_same (h2.mono (Ex.new n))⟩
  | dk ds=>obtain ⟨vs,h1,h2⟩:=h; exact ⟨_,h1,trivial,fun od=>.dk upd_same (h2.mono (Ex.new n))⟩
  | dt ds=>obtain ⟨vs,h1,h2⟩:=h; exact ⟨_,h1,trivial,fun od=>.dt upd_same (h2.mono (Ex.new n))⟩
  | ins C fs=>obtain ⟨vs,h1,h2⟩:=h; exact ⟨_,h1,trivial,fun od=>.ins upd_same (h2.mono (Ex.new n))⟩
inductive NG (K:Frag) (F H:Hp) (w:Addr→Option Nat) (i:Nat) {κ:Type}:List (κ×V)→List (κ×O)→List Addr→Prop
  | nil:NG K F H w i [] [] []
  | cons {k:κ} {b:Addr} {o:O} {ws:List (κ×V)} {kvs:List (κ×O)} {bs:List Addr}:w b=some i→OwnAt K F H b o→NG K F H w i ws kvs bs→NG K F H w i ((k,.ref b) :: ws) ((k,o) :: kvs) (b :: bs)
def SlotOk (K:Frag) (F H:Hp) (w:Addr→Option Nat) (i:Nat) (v:V):S→Prop
  | .fz d=>Rep K F v d
  | .own o=>∃ a,v = .ref a∧w a=some i∧OwnAt K F H a o
  | .nk kvs=>∃ a ws bs,v = .ref a∧w a=some i∧H a=some (.dK ws)∧NG K F H w i ws kvs bs∧(a :: bs).Nodup∧(kvs.map (·.1)).Nodup
  | .nt kvs=>∃ a ws bs,v = .ref a∧w a=some i∧H a=some (.dT ws)∧NG K F H w i ws kvs bs∧(a :: bs).Nodup∧(kvs.map (·.1)).Nodup
  | .wld W=>v = .non∧(∀ x∈W,w x.1=some i∧OwnAt K F H x.1 x.2)∧(W.map (·.1)).Nodup
  | .rw _ _=>False
theorem NG.keep {K:Frag} {F F' H H':Hp} {w w':Addr→Option Nat} {i:Nat} {κ:Type} (e:Ex F F') (k:∀ a,w a=some i→w' a=some i∧(H a≠none→H' a=H a)) :
    ∀ {ws:List (κ×V)} {kvs:List (κ×O)} {bs:List Addr},NG K F H w i ws kvs bs→NG K F' H' w' i ws kvs bs
  | _,_,_,.nil=>.nil
  | _,_,_,.cons h q t=>.cons (k _ h).1 (q.mono e ((k _ h).2 (by obtain ⟨ho,hh,_⟩:=q.there; rw [hh]; exact fun z=>nomatch z)).symm) (NG.keep e k t)
theorem SlotOk.keep {K:Frag} {F F' H H':Hp} {w w':Addr→Option Nat} {i:Nat} {v:V} {s:S} (h:SlotOk K F H w i v s) (e:Ex F F') (k:∀ a,w a=some i→w' a=some i∧(H a≠none→H' a=H a)):SlotOk K F' H' w' i v s:=by
  cases s with
  | fz d=>exact Rep.mono e h
  | own o =>
    obtain ⟨a,rfl,ew,q⟩:=h
    obtain ⟨ho,hh,_⟩:=q.there
    exact ⟨a,rfl,(k a ew).1,q.mono e ((k a ew).2 (by rw [hh]; exact fun z=>nomatch z)).symm⟩
  | nk kvs =>
    obtain ⟨a,ws,bs,rfl,ew,hh,q,nd⟩:=h
    exact ⟨a,ws,bs,rfl,(k a ew).1,((k a ew).2 (by rw [hh]; exact fun z=>nomatch z)).trans hh,q.keep e k,nd⟩
  | nt kvs =>
    obtain ⟨a,ws,bs,rfl,ew,hh,q,nd⟩:=h
    exact ⟨a,ws,bs,rfl,(k a ew).1,((k a ew).2 (by rw [hh]; exact fun z=>nomatch z)).trans hh,q.keep e k,nd⟩
  | wld W =>
    obtain ⟨hv,q,nd⟩:=h
    refine ⟨hv,fun x hx=>?_,nd⟩
    obtain ⟨q1,q2⟩:=q x hx
    obtain ⟨ho,hh,_⟩:=q2.there
    exact ⟨(k _ q1).1,q2.mono e ((k _ q1).2 (by rw [hh]; exact fun z=>nomatch z)).symm⟩
  | rw _ _=>exact h
def Tp (F H:Hp):Prop:=∀ a vs,H a=some (.tup vs)→F a=some (.tup vs)
theorem Tp.put {F H:Hp} {p:Addr} {o:HO} (t:Tp F H) (h:∀ vs,o≠.tup vs):Tp F (upd H p o):=fun a vs q=>by
  by_cases z:a=p
  · subst z; rw [upd_same] at q; exact absurd (Option.some.inj q) (h vs)
  · rw [upd_ne z] at q; exact t a vs q
theorem Tp.both {F H:Hp} {p:Addr} {o:HO} (t:Tp F H):Tp (upd F p o) (upd H p o):=fun a vs q=>by
  by_cases z:a=p
  · subst z; rw [upd_same] at q ⊢; exact q
  · rw [upd_ne z] at q ⊢; exact t a vs q
def Low (F:Hp):Prop:=∃ o,F sysModules=some (.frz o (.ext fun _=>True))
theorem Low.mono {F F':Hp} (l:Low F) (e:Ex F F'):Low F':=let ⟨o,h⟩:=l; ⟨o,e _ _ h⟩
abbrev Pl:=List (Addr×HO)
def pk (P:Pl):List Addr:=P.map (·.1)
structure RepS (K:Frag) (F0 H0:Hp) (P:Pl) (δ:Dl) (σ:L2.St) (F H:Hp):Prop where
  e1:Ex F0 F
  e2:Ex H0 H
  e3:Ex F H
  fr:∀ a o,F a=some o→F0 a=some o∨H0 a=none
  tp:Tp F H
  len:δ.length=σ.length
  own:∃ w:Addr→Option Nat,(∀ a i,w a=some i→H0 a=none∧F a=none∧H a≠none∧a ∉ pk P)∧∀ i s,δ[i]? = some (some s)→∃ v,σ[i]? = some (some v)∧SlotOk K F H w i v s
  low:Low F0
  rsv:∀ p ho,(p,ho)∈P→H0 p=none∧F p=none∧H p=some ho
section
variable {K:Frag} {F0 H0 F H F' H':Hp} {P:Pl} {δ:Dl} {σ:L2.St}
theorem zcw {p:Addr} {ho:HO} (h:(p,ho)∈P):p∈pk P:=List.mem_map.mpr ⟨_,h,rfl⟩
theorem RepS.rsv' (R:RepS K F0 H0 P δ σ F H) {p:Addr} (h:p∈pk P):H0 p=none∧F p=none∧H p≠none:=by
  obtain ⟨⟨q,ho⟩,hm,rfl⟩:=List.mem_map.mp h
  obtain ⟨a,b,c⟩:=R.rsv q ho hm
  exact ⟨a,b,by rw [c]; exact fun z=>nomatch z⟩
theorem RepS.fz (R:RepS K F0 H0 P δ σ F H) {i:Nat} {d:D} (h:δ[i]? = some (some (.fz d))):∃ v,σ[i]? = some (some v)∧Rep K F v d:=by
  obtain ⟨w,_,hw⟩:=R.own
  exact hw i _ h
theorem RepS.ownd (R:RepS K F0 H0 P δ σ F H) {i:Nat} {o:O} (h:δ[i]? = some (some (.own o))):∃ a,σ[i]? = some (some (.ref a))∧OwnAt K F H a o∧F a=none∧H0 a=none:=by
  obtain ⟨w,h1,hw⟩:=R.own
  obtain ⟨v,e,a,rfl,e2,q⟩:=hw i _ h
  exact ⟨a,e,q,(h1 a i e2).2.1,(h1 a i e2).1⟩
theorem RepS.grow (R:RepS K F0 H0 P δ σ F H) (e1:Ex F F') (e2:Ex H H') (e3:Ex F' H') (fr:∀ a o,F' a=some o→F a=some o∨H a=none) (tp:Tp F' H'):RepS K F0 H0 P δ σ F' H':=by
  have keep:∀ a,F a=none→H a≠none→F' a=none:=fun a h1 h2=>by
    cases q:F' a with
    | none=>rfl
    | some o =>
      rcases fr a o q with z | z
      · rw [h1] at z; cases z
      · exact absurd z h2
  refine ⟨R.e1.trans e1,R.e2.trans e2,e3,fun a o h=>?_,tp,R.len,?_,R.low,fun p ho hp=>?_⟩
  · rcases fr a o h with z | z
    · exact R.fr a o z
    · exact .inr (R.e2.nn z)
  · obtain ⟨w,h1,hw⟩:=R.own
    refine ⟨w,fun a i e=>?_,fun i s e=>?_⟩
    · obtain ⟨a1,a2,a3,a4⟩:=h1 a i e
      exact ⟨a1,keep a a2 a3,e2.sm a3,a4⟩
    · obtain ⟨v,ev,q⟩:=hw i s e
      refine ⟨v,ev,q.keep e1 fun a ew=>⟨ew,fun nn=>?_⟩⟩
      cases hh:H a with
      | none=>exact absurd hh nn
      | some ho=>exact e2 _ _ hh
  · obtain ⟨a1,a2,a3⟩:=R.rsv p ho hp
    exact ⟨a1,keep p a2 (by rw [a3]; exact fun z=>nomatch z),e2 _ _ a3⟩
theorem RepS.newF (R:RepS K F0 H0 P δ σ F H) {p:Addr} {o:HO} (h:H p=none):RepS K F0 H0 P δ σ (upd F p o) (upd H p o) :=
  R.grow (Ex.new (R.e3.nn h)) (Ex.new h) R.e3.both (fun a u q=>by
    by_cases z:a=p
    · subst z; exact .inr h
    · rw [upd_ne z] at q; exact .inl q) R.tp.both
theorem RepS.newP (R:RepS K F0 H0 P δ σ F H) {p:Addr} {o:HO} (h:H p=none) (no:∀ vs,o≠.tup vs:=by exact fun _ z=>nomatch z):RepS K F0 H0 ((p,o) :: P) δ σ F (upd H p o):=by
  have R1:RepS K F0 H0 P δ σ F (upd H p o):=R.grow (Ex.refl F) (Ex.new h) (R.e3.trans (Ex.new h)) (fun a u q=>.inl q) (R.tp.put no)
  obtain ⟨w,h1,hw⟩:=R.own
  refine ⟨R1.e1,R1.e2,R1.e3,R1.fr,R1.tp,R1.len,⟨w,fun a i e=>?_,fun i s e=>?_⟩,R.low,fun q ho hq=>?_⟩
  · obtain ⟨a1,a2,a3,a4⟩:=h1 a i e
    have ne:a≠p:=fun z=>a3 (z ▸ h)
    exact ⟨a1,a2,by rw [upd_ne ne]; exact a3,by simpa [pk,ne] using a4⟩
  · obtain ⟨v,ev,q⟩:=hw i s e
    exact ⟨v,ev,q.keep (Ex.refl F) fun a ew=>⟨ew,fun nn=>upd_ne fun z=>nn (z ▸ h)⟩⟩
  · rcases List.mem_cons.mp hq with e | hq
    · cases e; exact ⟨R.e2.nn h,R.e3.nn h,upd_same⟩
    · exact R1.rsv q ho hq
theorem RepS.unP {Q:Pl} (R:RepS K F0 H0 P δ σ F H) (h:∀ p∈Q,p∈P):RepS K F0 H0 Q δ σ F H:=by
  obtain ⟨w,h1,hw⟩:=R.own
  exact ⟨R.e1,R.e2,R.e3,R.fr,R.tp,R.len,⟨w,fun a i e=>let ⟨a1,a2,a3,a4⟩:=h1 a i e; ⟨a1,a2,a3,fun z=>a4 (by obtain ⟨q,hq,e⟩:=List.mem_map.mp z; exact List.mem_map.mpr ⟨q,h q hq,e⟩)⟩,hw⟩,R.low,fun p ho hp=>R.rsv p ho (h _ hp)⟩
theorem RepS.frzP {p:Addr} {ho0:HO} (R:RepS K F0 H0 ((p,ho0) :: P) δ σ F H) (hP:p ∉ pk P) (ho:HO):RepS K F0 H0 P δ σ (upd F p ho) (upd H p ho):=by
  obtain ⟨r1,r2,r3⟩:=R.rsv p ho0 (by simp)
  obtain ⟨w,h1,hw⟩:=R.own
  refine ⟨R.e1.trans (Ex.new r2),R.e2.mut r1,R.e3.both,fun a u q=>?_,R.tp.both,R.len,⟨w,fun a i e=>?_,fun i s e=>?_⟩,R.low,fun q hq' hq=>?_⟩
  · by_cases z:a=p
    · subst z; exact .inr r1
    · rw [upd_ne z] at q; exact R.fr a u q
  · obtain ⟨a1,a2,a3,a4⟩:=h1 a i e
    have ne:a≠p:=fun z=>a4 (by simp [pk,z])
    exact ⟨a1,by rw [upd_ne ne]; exact a2,by rw [upd_ne ne]; exact a3,fun z=>a4 (List.mem_cons_of_mem _ z)⟩
  · obtain ⟨v,ev,q⟩:=hw i s e
    exact ⟨v,ev,q.keep (Ex.new r2) fun a ew=>⟨ew,fun _=>upd_ne fun z=>(h1 a i ew).2.2.2 (by simp [pk,z])⟩⟩
  · obtain ⟨a1,a2,a3⟩:=R.rsv q hq' (by simp [hq])
    have ne:q≠p:=fun z=>by subst z; exact hP (zcw hq)
    exact ⟨a1,by rw [upd_ne ne]; exact a2,by rw [upd_ne ne]; exact a3⟩
theorem RepS.wrP {p:Addr} {ho0:HO} (R:RepS K F0 H0 ((p,ho0) :: P) δ σ F H) (hp:p ∉ pk P) (ho:HO) (no:∀ vs,ho≠.tup vs:=by exact fun _ z=>nomatch z):RepS K F0 H0 ((p,ho) :: P) δ σ F (upd H p ho):=by
  obtain ⟨r1,r2,r3⟩:=R.rsv p ho0 (by simp)
  obtain ⟨w,h1,hw⟩:=R.own
  refine ⟨R.e1,R.e2.mut r1,R.e3.mut r2,R.fr,R.tp.put no,R.len,⟨w,fun a i e=>?_,fun i s e=>?_⟩,R.low,fun q ho' hq=>?_⟩
  · obtain ⟨a1,a2,a3,a4⟩:=h1 a i e
    have ne:a≠p:=fun z=>a4 (by simp [pk,z])
    exact ⟨a1,a2,by rw [upd_ne ne]; exact a3,a4⟩
  · obtain ⟨v,ev,q⟩:=hw i s e
    exact ⟨v,ev,q.keep (Ex.refl F) fun a ew=>⟨ew,fun _=>upd_ne fun z=>(h1 a i ew).2.2.2 (by simp [pk,z])⟩⟩
  · rcases List.mem_cons.mp hq with e | hm
    · cases e; exact ⟨r1,r2,upd_same⟩
    · obtain ⟨a1,a2,a3⟩:=R.rsv q ho' (by simp [hm])
      exact ⟨a1,a2,by rw [upd_ne (show q≠p from fun z=>by subst z; exact hp (zcw hm))]; exact a3⟩
theorem RepS.setF (R:RepS K F0 H0 P δ σ F H) (i:Nat) {v:V} {d:D} (r:Rep K F v d):RepS K F0 H0 P (δ.set i (some (.fz d))) (σ.set i (some v)) F H:=by
  obtain ⟨w,h1,hw⟩:=R.own
  refine ⟨R.e1,R.e2,R.e3,R.fr,R.tp,by simp [R.len],⟨w,h1,fun j s e=>?_⟩,R.low,R.rsv⟩
  by_cases hj:i=j
  · subst hj
    have hi:i < δ.length:=by
      have:=(List.getElem?_eq_some_iff.mp e).1
      simpa using this
    rw [List.getElem?_set_self hi] at e
    cases e
    exact ⟨v,by rw [List.getElem?_set_self (by rw [← R.len]; exact hi)],r⟩
  · rw [List.getElem?_set_ne hj] at e
    obtain ⟨u,eu,q⟩:=hw j s e
    exact ⟨u,by rw [List.getElem?_set_ne hj]; exact eu,q⟩
theorem RepS.setO {p:Addr} {ho:HO} (R:RepS K F0 H0 ((p,ho) :: P) δ σ F H) (hP:p ∉ pk P) (i:Nat) {o:O} (r:OwnAt K F H p o):RepS K F0 H0 P (δ.set i (some (.own o))) (σ.set i (some (.ref p))) F H:=by
  obtain ⟨r1,r2,r3⟩:=R.rsv p ho (by simp)
  obtain ⟨w,h1,hw⟩:=R.own
  refine ⟨R.e1,R.e2,R.e3,R.fr,R.tp,by simp [R.len],⟨fun a=>if a=p then some i else w a,fun a j e=>?_,fun j s e=>?_⟩,R.low,fun q ho hq=>R.rsv q ho (by simp [hq])⟩
  · by_cases z:a=p
    · subst z; exact ⟨r1,r2,by rw [r3]; exact (nomatch ·),hP⟩
    · replace e:=(if_neg z).symm.trans e
      obtain ⟨a1,a2,a3,a4⟩:=h1 a j e
      exact ⟨a1,a2,a3,fun q=>a4 (List.mem_cons_of_mem _ q)⟩
  · by_cases hj:i=j
    · subst hj
      have hi:i < δ.length:=by
        have:=(List.getElem?_eq_some_iff.mp e).1
        simpa using this
      rw [List.getElem?_set_self hi] at e
      cases e
      exact ⟨.ref p,by rw [List.getElem?_set_self (by rw [← R.len]; exact hi)],p,rfl,if_pos rfl,r⟩
    · rw [List.getElem?_set_ne hj] at e
      obtain ⟨u,eu,q⟩:=hw j s e
      exact ⟨u,by rw [List.getElem?_set_ne hj]; exact eu,q.keep (Ex.refl F) fun a ew=>⟨(if_neg fun z=>(h1 a j ew).2.2.2 (by simp [pk,z])).trans ew,fun _=>rfl⟩⟩
theorem RepS.unset (R:RepS K F0 H0 P δ σ F H) (i:Nat) (x:Option V):RepS K F0 H0 P (δ.set i none) (σ.set i x) F H:=by
  obtain ⟨w,h1,hw⟩:=R.own
  refine ⟨R.e1,R.e2,R.e3,R.fr,R.tp,by simp [R.len],⟨w,h1,fun j s e=>?_⟩,R.low,R.rsv⟩
  by_cases hj:i=j
  · subst hj
    have hi:i < δ.length:=by
      have:=(List.getElem?_eq_some_iff.mp e).1
      simpa using this
    rw [List.getElem?_set_self hi] at e
    cases e
  · rw [List.getElem?_set_ne hj] at e
    obtain ⟨u,eu,q⟩:=hw j s e
    exact ⟨u,by rw [List.getElem?_set_ne hj]; exact eu,q⟩
theorem RepS.weak {δ':Dl} (R:RepS K F0 H0 P δ σ F H) (hl:δ'.length=δ.length) (h:∀ (i:Nat) (s:S),δ'[i]? = some (some s)→δ[i]? = some (some s)):RepS K F0 H0 P δ' σ F H:=by
  obtain ⟨w,h1,hw⟩:=R.own
  exact ⟨R.e1,R.e2,R.e3,R.fr,R.tp,hl.trans R.len,⟨w,h1,fun i s e=>hw i s (h i s e)⟩,R.low,R.rsv⟩
theorem RepS.write (R:RepS K F0 H0 P δ σ F H) {i:Nat} {a:Addr} {o o':O} {ho:HO} (e:δ[i]? = some (some (.own o))) (ea:σ[i]? = some (some (.ref a))) (n:OwnAt K F (upd H a ho) a o') :
    RepS K F0 H0 P (δ.set i (some (.own o'))) σ F (upd H a ho):=by
  obtain ⟨w,h1,hw⟩:=R.own
  obtain ⟨v,ev,b,rfl,ew,q⟩:=hw i _ e
  rw [ea] at ev; cases ev
  obtain ⟨a1,a2,a3,a4⟩:=h1 a i ew
  have no:∀ vs,ho≠.tup vs:=fun vs z=>by
    subst z
    cases o' with
    | lst _=>obtain ⟨_,q,_⟩:=n; rw [upd_same] at q; cases q
    | dk _=>obtain ⟨_,q,_⟩:=n; rw [upd_same] at q; cases q
    | dt _=>obtain ⟨_,q,_⟩:=n; rw [upd_same] at q; cases q
    | ins _ _=>obtain ⟨_,q,_⟩:=n; rw [upd_same] at q; cases q
  refine ⟨R.e1,R.e2.mut a1,R.e3.mut a2,R.fr,R.tp.put no,by simp [R.len],⟨w,fun b j e=>?_,fun j s e=>?_⟩,R.low,fun p hp' hp=>?_⟩
  · obtain ⟨b1,b2,b3,b4⟩:=h1 b j e
    refine ⟨b1,b2,?_,b4⟩
    by_cases z:b=a
    · subst z; rw [upd_same]; exact fun z=>nomatch z
    · rw [upd_ne z]; exact b3
  · by_cases hj:i=j
    · subst hj
      have hi:i < δ.length:=by
        have:=(List.getElem?_eq_some_iff.mp e).1
        simpa using this
      rw [List.getElem?_set_self hi] at e
      cases e
      exact ⟨.ref a,ea,a,rfl,ew,n⟩
    · rw [List.getElem?_set_ne hj] at e
      obtain ⟨u,eu,q⟩:=hw j s e
      exact ⟨u,eu,q.keep (Ex.refl F) fun b ew2=>⟨ew2,fun _=>upd_ne fun z=>by subst z; rw [ew] at ew2; cases ew2; exact hj rfl⟩⟩
  · obtain ⟨b1,b2,b3⟩:=R.rsv p hp' hp
    exact ⟨b1,b2,by rw [upd_ne (show p≠a from fun z=>by subst z; exact a4 (zcw hp))]; exact b3⟩
theorem RepS.freeze (R:RepS K F0 H0 P δ σ F H) {i:Nat} {o:O} (e:δ[i]? = some (some (.own o))) :
    ∃ a ho,σ[i]? = some (some (.ref a))∧H a=some ho∧Mut (some ho)∧∀ od,Ex F (upd F a (.frz od ho))∧Rep K (upd F a (.frz od ho)) (.ref a) o.d∧RepS K F0 H0 P (δ.set i (some (.fz o.d))) σ (upd F a (.frz od ho)) (upd H a (.frz od ho)):=by
  obtain ⟨w,h1,hw⟩:=R.own
  obtain ⟨v,ev,a,rfl,ew,q⟩:=hw i _ e
  obtain ⟨a1,a2,a3,a4⟩:=h1 a i ew
  obtain ⟨ho,hh,mu,rp⟩:=q.rep a2
  refine ⟨a,ho,ev,hh,mu,fun od=>⟨Ex.new a2,rp od,R.e1.trans (Ex.new a2),R.e2.mut a1,R.e3.both,fun b u q=>?_,R.tp.both,by simp [R.len],⟨fun b=>if b=a then none else w b,fun b j e=>?_,fun j s e=>?_⟩,R.low,fun p hp' hp=>?_⟩⟩
  · by_cases z:b=a
    · subst z; exact .inr a1
    · rw [upd_ne z] at q; exact R.fr b u q
  · by_cases z:b=a
    · replace e:=(if_pos z).symm.trans e; cases e
    · replace e:=(if_neg z).symm.trans e
      obtain ⟨b1,b2,b3,b4⟩:=h1 b j e
      exact ⟨b1,by rw [upd_ne z]; exact b2,by rw [upd_ne z]; exact b3,b4⟩
  · by_cases hj:i=j
    · subst hj
      have hi:i < δ.length:=by
        have:=(List.getElem?_eq_some_iff.mp e).1
        simpa using this
      rw [List.getElem?_set_self hi] at e
      cases e
      exact ⟨.ref a,ev,rp od⟩
    · rw [List.getElem?_set_ne hj] at e
      obtain ⟨u,eu,q⟩:=hw j s e
      have ne:∀ b,w b=some j→b≠a:=fun b ew2 z=>by subst z; rw [ew] at ew2; cases ew2; exact hj rfl
      exact ⟨u,eu,q.keep (Ex.new a2) fun b ew2=>⟨(if_neg (ne b ew2)).trans ew2,fun _=>upd_ne (ne b ew2)⟩⟩
  · obtain ⟨b1,b2,b3⟩:=R.rsv p hp' hp
    have ne:p≠a:=fun z=>by subst z; exact a4 (zcw hp)
    exact ⟨b1,by rw [upd_ne ne]; exact b2,by rw [upd_ne ne]; exact b3⟩
end
abbrev DE:=Dl→(Dl→D→Prop)→Prop
abbrev DOw:=Dl→(Dl→O→Prop)→Prop
abbrev DT:=Dl→(Dl→Bool→Prop)→Prop
abbrev DA:=Dl→(Dl→List D→Prop)→Prop
structure DEnds where
  nx:Dl→Prop
  rt:S→Prop
  bk:Dl→Prop:=fun _=>False
  ct:Dl→Prop:=fun _=>False
abbrev DS:=DEnds→Dl→Prop
def zrf (K:Frag) (H0 F H:Hp) (v:V):S→Prop
  | .fz d=>Rep K F v d
  | .own o=>∃ a,v = .ref a∧H0 a=none∧F a=none∧OwnAt K F H a o
  | .nk _=>False
  | .nt _=>False
  | .wld _=>False
  | .rw s W=>zrf K H0 F H v s∧(∀ x∈W,H0 x.1=none∧F x.1=none∧OwnAt K F H x.1 x.2)∧(W.map (·.1)).Nodup∧∀ o,s = .own o→∀ x∈W,v≠.ref x.1
structure Grown (F0 H0 F H:Hp):Prop where
  e1:Ex F0 F
  e2:Ex H0 H
  e3:Ex F H
  fr:∀ a o,F a=some o→F0 a=some o∨H0 a=none
  tp:Tp F H
theorem RepS.grown {K:Frag} {F0 H0:Hp} {P:Pl} {δ:Dl} {σ:L2.St} {F H:Hp} (R:RepS K F0 H0 P δ σ F H):Grown F0 H0 F H:=⟨R.e1,R.e2,R.e3,R.fr,R.tp⟩
def upE (K:Frag) (t:DE):TE:=fun σ H Q=>∃ F0 H0 P δ F Q',RepS K F0 H0 P δ σ F H∧t δ Q'∧∀ δ' F' H' v d,RepS K F0 H0 P δ' σ F' H'→Ex F F'→Rep K F' v d→Q' δ' d→Q v H'
def upO (K:Frag) (t:DOw):TE:=fun σ H Q=>∃ F0 H0 P δ F Q',RepS K F0 H0 P δ σ F H∧t δ Q'∧∀ δ' F' H' p ho o,RepS K F0 H0 ((p,ho) :: P) δ' σ F' H'→p ∉ pk P→Ex F F'→OwnAt K F' H' p o→Q' δ' o→Q (.ref p) H'
def upT (K:Frag) (t:DT):TT:=fun σ H Q=>∃ F0 H0 P δ F Q',RepS K F0 H0 P δ σ F H∧t δ Q'∧∀ δ' F' H' b,RepS K F0 H0 P δ' σ F' H'→Ex F F'→Q' δ' b→Q b H'
def upA (K:Frag) (t:DA):TA:=fun σ H Q=>∃ F0 H0 P δ F Q',RepS K F0 H0 P δ σ F H∧t δ Q'∧∀ δ' F' H' vs ds,RepS K F0 H0 P δ' σ F' H'→Ex F F'→RepL K F' vs ds→Q' δ' ds→Q vs H'
structure upSW (K:Frag) (t:DS) (D:Ends) (σ:L2.St) (H F0 H0:Hp) (δ:Dl) (F:Hp) (D':DEnds):Prop where
  rep:RepS K F0 H0 [] δ σ F H
  t:t D' δ
  nx:∀ δ' σ' F' H',RepS K F0 H0 [] δ' σ' F' H'→Ex F F'→D'.nx δ'→D.nx σ' H'
  bk:∀ δ' σ' F' H',RepS K F0 H0 [] δ' σ' F' H'→Ex F F'→D'.bk δ'→D.bk σ' H'
  ct:∀ δ' σ' F' H',RepS K F0 H0 [] δ' σ' F' H'→Ex F F'→D'.ct δ'→D.ct σ' H'
  rt:∀ F' H' v r,Grown F0 H0 F' H'→zrf K H0 F' H' v r→D'.rt r→D.rt v H'
theorem upSW.at {K:Frag} {t u:DS} {D:Ends} {σ σ':L2.St} {H H' F0 H0 F F':Hp} {δ δ':Dl} {D':DEnds} (W:upSW K t D σ H F0 H0 δ F D') (R:RepS K F0 H0 [] δ' σ' F' H') (e:Ex F F') (q:u D' δ'):upSW K u D σ' H' F0 H0 δ' F' D' :=
  ⟨R,q,fun a b c d r x y=>W.nx a b c d r (e.trans x) y,fun a b c d r x y=>W.bk a b c d r (e.trans x) y,fun a b c d r x y=>W.ct a b c d r (e.trans x) y,W.rt⟩
def upS (K:Frag) (t:DS):TS:=fun D σ H=>∃ F0 H0 δ F D',upSW K t D σ H F0 H0 δ F D'
theorem pimp {X:Cx} {e:Expr} {t t':TE} (h:PE X e t) (i:∀ σ H Q,t' σ H Q→t σ H Q):PE X e t':=⟨fun pins s σ H Q I q=>h.run pins s σ H Q I (i σ H Q q)⟩
theorem zne {X:Cx} {e:Expr} {t t':TT} (h:PT X e t) (i:∀ σ H Q,t' σ H Q→t σ H Q):PT X e t':=⟨fun pins s σ H Q I q=>h.run pins s σ H Q I (i σ H Q q)⟩
theorem zzm {X:Cx} {e:Expr} {t t':TT} (h:PW X e t) (i:∀ σ H Q,t' σ H Q→t σ H Q):PW X e t':=⟨fun w pins s σ H Q I q=>h.run w pins s σ H Q I (i σ H Q q)⟩
theorem zev {X:Cx} {e:List Expr} {t t':TA} (h:PA X e t) (i:∀ σ H Q,t' σ H Q→t σ H Q):PA X e t':=⟨fun p pins s σ H Q I q=>h.run p pins s σ H Q I (i σ H Q q)⟩
theorem jq {X:Cx} {e:Stmt} {t t':TS} (h:PS X e t) (i:∀ D σ H,t' D σ H→t D σ H):PS X e t':=⟨fun pins s σ H D I q=>h.run pins s σ H D I (i D σ H q)⟩
theorem znu {X:Cx} {e:List Stmt} {t t':TS} (h:PSs X e t) (i:∀ D σ H,t' D σ H→t D σ H):PSs X e t':=⟨fun pins s σ H D I q=>h.run pins s σ H D I (i D σ H q)⟩
section
variable {X:Cx} {K:Frag} {e a b c:Expr} {ta tb tc:DE} {pos:Pos}
def dVar (i:Nat):DE:=fun δ Q=>match δ[i]? with
  | some (some (.fz d))=>Q δ d
  | some (some (.own o))=>Q (δ.set i (some (.fz o.d))) o.d
  | _=>False
def zzn (t:TE):TE:=fun σ H Q=>t σ H fun v H'=>Q v H'∨∃ d u,H' d=some u∧Mut (some u)∧∀ od,Q v (upd H' d (.frz od u))
theorem zew {t:TE} (h:PE X e t):PE X e (zzn t):=⟨fun pins s σ H Q I q=>thn (h.run pins s σ H _ I q) fun u s1 ⟨v,H1,I1,r1,q1⟩=>by
  rcases q1 with q1 | ⟨d,u',h1,mu,q1⟩
  · exact ⟨v,H1,I1,r1,q1⟩
  · obtain ⟨od,I2⟩:=I1.lock h1 mu
    exact ⟨v,_,I2,r1,q1 od⟩⟩
theorem zxw {i:Nat} (h:PE X e (tVar i)):PE X e (upE K (dVar i)):=pimp (zew h) fun σ H Q ⟨F0,H0,P,δ,F,Q',R,ht,k⟩=>by
  unfold dVar at ht
  split at ht
  · rename_i d e1
    obtain ⟨v,ev,r⟩:=R.fz e1
    exact ⟨v,ev,.inl (k δ F H v d R (Ex.refl F) r ht)⟩
  · rename_i o e1
    obtain ⟨a,ho,ea,hh,mu,q⟩:=R.freeze e1
    refine ⟨_,ea,.inr ⟨a,ho,hh,mu,fun od=>?_⟩⟩
    obtain ⟨ex,rp,R'⟩:=q od
    exact k _ _ _ _ _ R' ex rp ht
  · exact ht.elim
theorem pdv (i:Nat) {x:Str} {pos:Pos} (hN:X.N[i]? = some x:=by rfl) (hv:Vis X.env.scope x:=by first | exact Or.inl rfl | exact Or.inr (Or.inl rfl) | exact Or.inr (Or.inr rfl)) (hd:(x == ("__debug__" : Str))=false:=by decide)
    (hcd:(x == ("__classdict__" : Str))=false:=by decide):PE X (.Name x pos) (upE K (dVar i)):=zxw (pv i hN hv hd hcd)
def dC (d:D):DE:=fun δ Q=>Q δ d
theorem df_c {v:V} {d:D} (h:PE X e (tC v)) (r:∀ F,Rep K F v d):PE X e (upE K (dC d)):=pimp h fun σ H Q ⟨F0,H0,P,δ,F,Q',R,ht,k⟩=>k δ F H v d R (Ex.refl F) (r F) ht
theorem zj {i j pos}:PE X (.Constant (.int i) j pos) (upE K (dC (.int i))):=df_c pe_int fun _=>.int i
theorem zao {b j pos}:PE X (.Constant (.bool b) j pos) (upE K (dC (.bl b))):=df_c pe_bl fun _=>.bl b
theorem ziy {j pos}:PE X (.Constant .none j pos) (upE K (dC .non)):=df_c pe_non fun _=>.non
theorem vg {x j pos}:PE X (.Constant (.str x) j pos) (upE K (dC (.str x))):=df_c pe_str fun _=>.str x
def d2 (g:D→D→(D→Prop)→Prop) (ta tb:DE):DE:=fun δ Q=>ta δ fun δ1 x=>tb δ1 fun δ2 y=>g x y fun d=>Q δ2 d
def Op2 (K:Frag) (r:R2) (g:D→D→(D→Prop)→Prop):Prop :=
  ∀ (x y:V) (F H:Hp) (dx dy:D) (Q:VK) (Q':D→Prop),Rep K F x dx→Rep K F y dy→Ex F H→g dx dy Q'→(∀ v d,Rep K F v d→Q' d→Q v H)→r x y H Q
theorem up2 {r:R2} {g:D→D→(D→Prop)→Prop} (ho:Op2 K r g) {σ:L2.St} {H:Hp} {Q:VK} (h:upE K (d2 g ta tb) σ H Q):tOp r (upE K ta) (upE K tb) σ H Q:=by
  obtain ⟨F0,H0,P,δ,F,Q',R,ht,k⟩:=h
  refine ⟨F0,H0,P,δ,F,_,R,ht,fun δ1 F1 H1 x dx R1 e1 rx ht=>?_⟩
  refine ⟨F0,H0,P,δ1,F1,_,R1,ht,fun δ2 F2 H2 y dy R2 e2 ry ht=>?_⟩
  exact ho x y F2 H2 dx dy Q _ (rx.mono e2) ry R2.e3 ht fun v d rv q=>k δ2 F2 H2 v d R2 (e1.trans e2) rv q
theorem zg4 {op:Operator} {r:R2} {g:D→D→(D→Prop)→Prop} (hr:OpR X (binaryOp op) r) (ho:Op2 K r g) (ha:PE X a (upE K ta)) (hb:PE X b (upE K tb)):PE X (.BinOp a op b pos) (upE K (d2 g ta tb)) :=
  pimp (pe_op hr ha hb) fun _ _ _ h=>up2 ho h
def gAdd:D→D→(D→Prop)→Prop
  | .int i,.int j,Q=>Q (.int (i + j))
  | .str x,.str y,Q=>x.length + y.length≤sizeLine∧Q (.str (x++y))
  | _,_,_=>False
def gSub:D→D→(D→Prop)→Prop
  | .int i,.int j,Q=>Q (.int (i - j))
  | _,_,_=>False
def CM (i j:Int):Prop:=CMul i j∨CMulW i j
def gMul:D→D→(D→Prop)→Prop
  | .int i,.int j,Q=>CM i j∧Q (.int (i * j))
  | _,_,_=>False
def gDiv:D→D→(D→Prop)→Prop
  | .int i,.int j,Q=>(0 < j∧j < 1073741824)∧Q (.int (i / j))
  | _,_,_=>False
def gMod:D→D→(D→Prop)→Prop
  | .int i,.int j,Q=>0 < j∧Q (.int (i % j))
  | _,_,_=>False
def CPw (i j:Int):Prop:=0≤j∧(Builtin.Int.intBits i:Int) * j≤2 ^ 27
def gPow:D→D→(D→Prop)→Prop
  | .int i,.int j,Q=>CPw i j∧Q (.int (i ^ j.toNat))
  | _,_,_=>False
theorem zv6:OpR X (binaryOp .Mult) (rI CM fun i j=>.int (i * j)):=opI fun _ _ _ _ _ _ _ hc q=>mul_int q (hc.elim CMul.ok CMulW.ok)
theorem zv7:OpR X (binaryOp .Pow) (rI CPw fun i j=>.int (i ^ j.toNat)):=opI fun _ _ _ _ _ _ _ hc q=>pow_int hc.1 hc.2 q
theorem zxx:Op2 K (fun x y H Q=>rI0 (fun i j=>.int (i + j)) x y H Q∨(∃ i j,x = .str i∧y = .str j∧i.length + j.length≤sizeLine∧Q (.str (i++j)) H)) gAdd:=by
  intro x y F H dx dy Q Q' rx ry _ g k
  unfold gAdd at g
  split at g
  · cases rx; cases ry; exact .inl ⟨_,_,rfl,rfl,k _ _ (.int _) g⟩
  · cases rx; cases ry; exact .inr ⟨_,_,rfl,rfl,g.1,k _ _ (.str _) g.2⟩
  · exact g.elim
theorem zxy:Op2 K (rI0 (fun i j=>.int (i - j))) gSub:=by
  intro x y F H dx dy Q Q' rx ry _ g k
  unfold gSub at g
  split at g
  · cases rx; cases ry; exact ⟨_,_,rfl,rfl,k _ _ (.int _) g⟩
  · exact g.elim
theorem zxz:Op2 K (rI CM (fun i j=>.int (i * j))) gMul:=by
  intro x y F H dx dy Q Q' rx ry _ g k
  unfold gMul at g
  split at g
  · cases rx; cases ry; exact ⟨_,_,rfl,rfl,g.1,k _ _ (.int _) g.2⟩
  · exact g.elim
theorem zx0:Op2 K (rI CDiv (fun i j=>.int (i / j))) gDiv:=by
  intro x y F H dx dy Q Q' rx ry _ g k
  unfold gDiv at g
  split at g
  · cases rx; cases ry; exact ⟨_,_,rfl,rfl,g.1,k _ _ (.int _) g.2⟩
  · exact g.elim
theorem zx1:Op2 K (rI (fun _ j=>0 < j) (fun i j=>.int (i % j))) gMod:=by
  intro x y F H dx dy Q Q' rx ry _ g k
  unfold gMod at g
  split at g
  · cases rx; cases ry; exact ⟨_,_,rfl,rfl,g.1,k _ _ (.int _) g.2⟩
  · exact g.elim
theorem zx2:Op2 K (rI CPw (fun i j=>.int (i ^ j.toNat))) gPow:=by
  intro x y F H dx dy Q Q' rx ry _ g k
  unfold gPow at g
  split at g
  · cases rx; cases ry; exact ⟨_,_,rfl,rfl,g.1,k _ _ (.int _) g.2⟩
  · exact g.elim
theorem v6 (ha:PE X a (upE K ta)) (hb:PE X b (upE K tb)):PE X (.BinOp a .Add b pos) (upE K (d2 gAdd ta tb)):=zg4 (op_add.or op_add_str) zxx ha hb
theorem zf2 (ha:PE X a (upE K ta)) (hb:PE X b (upE K tb)):PE X (.BinOp a .Sub b pos) (upE K (d2 gSub ta tb)):=zg4 op_sub zxy ha hb
theorem zcx (ha:PE X a (upE K ta)) (hb:PE X b (upE K tb)):PE X (.BinOp a .Mult b pos) (upE K (d2 gMul ta tb)):=zg4 zv6 zxz ha hb
theorem zr9 (ha:PE X a (upE K ta)) (hb:PE X b (upE K tb)):PE X (.BinOp a .FloorDiv b pos) (upE K (d2 gDiv ta tb)):=zg4 op_fdiv zx0 ha hb
theorem zd7 (ha:PE X a (upE K ta)) (hb:PE X b (upE K tb)):PE X (.BinOp a .Mod b pos) (upE K (d2 gMod ta tb)):=zg4 op_mod zx1 ha hb
theorem zd8 (ha:PE X a (upE K ta)) (hb:PE X b (upE K tb)):PE X (.BinOp a .Pow b pos) (upE K (d2 gPow ta tb)):=zg4 zv7 zx2 ha hb
def gLt:D→D→(D→Prop)→Prop
  | .int i,.int j,Q=>Q (.bl (decide (i < j)))
  | .str i,.str j,Q=>Q (.bl (decide (i.cps.toList < j.cps.toList)))
  | _,_,_=>False
def gGt:D→D→(D→Prop)→Prop
  | .int i,.int j,Q=>Q (.bl (decide (j < i)))
  | .str i,.str j,Q=>Q (.bl (decide (j.cps.toList < i.cps.toList)))
  | _,_,_=>False
def gGe:D→D→(D→Prop)→Prop
  | .int i,.int j,Q=>Q (.bl (decide (j≤i)))
  | .str i,.str j,Q=>Q (.bl (!decide (i.cps.toList < j.cps.toList)))
  | _,_,_=>False
def eqF:D→D→Option Bool
  | .non,.non=>some true | .non,.int _=>some false | .int _,.non=>some false | .non,.bl _=>some false | .bl _,.non=>some false | .non,.str _=>some false | .str _,.non=>some false
  | .int i,.int j=>some (decide (i=j)) | .bl i,.bl j=>some (decide (i=j)) | .str i,.str j=>some (decide (i=j))
  | .int _,.str _=>some false | .str _,.int _=>some false | .bl _,.str _=>some false | .str _,.bl _=>some false
  | _,_=>none
def D.isNon:D→Bool
  | .non=>true
  | _=>false
def gIsN:D→D→(D→Prop)→Prop
  | x,.non,Q=>Q (.bl x.isNon)
  | _,_,_=>False
def zex:D→D→(D→Prop)→Prop
  | x,.non,Q=>Q (.bl (!x.isNon))
  | _,_,_=>False
theorem zx3 {op:CmpOp} {r:R2} {g:D→D→(D→Prop)→Prop} (hr:OpR X (compareOp op) r) (ho:Op2 K r g) (ha:PE X a (upE K ta)) (hb:PE X b (upE K tb)) (hm:behindInMarks op b=false):PE X (.Compare a [op] [b] pos) (upE K (d2 g ta tb)) :=
  pimp (pe_cmpR hr ha hb hm) fun _ _ _ h=>up2 ho h
theorem zzo:Op2 K (fun x y H Q=>rI0 (fun i j=>.bl (decide (i < j))) x y H Q∨(∃ i j,x = .str i∧y = .str j∧Q (.bl (decide (i.cps.toList < j.cps.toList))) H)) gLt:=by
  intro x y F H dx dy Q Q' rx ry _ g k
  unfold gLt at g
  split at g
  · cases rx; cases ry; exact .inl ⟨_,_,rfl,rfl,k _ _ (.bl _) g⟩
  · cases rx; cases ry; exact .inr ⟨_,_,rfl,rfl,k _ _ (.bl _) g⟩
  · exact g.elim
theorem zzp:Op2 K (fun x y H Q=>rI0 (fun i j=>.bl (decide (j < i))) x y H Q∨(∃ i j,x = .str i∧y = .str j∧Q (.bl (decide (j.cps.toList < i.cps.toList))) H)) gGt:=by
  intro x y F H dx dy Q Q' rx ry _ g k
  unfold gGt at g
  split at g
  · cases rx; cases ry; exact .inl ⟨_,_,rfl,rfl,k _ _ (.bl _) g⟩
  · cases rx; cases ry; exact .inr ⟨_,_,rfl,rfl,k _ _ (.bl _) g⟩
  · exact g.elim
theorem zzq:Op2 K (fun x y H Q=>rI0 (fun i j=>.bl (decide (j≤i))) x y H Q∨(∃ i j,x = .str i∧y = .str j∧Q (.bl (!decide (i.cps.toList < j.cps.toList))) H)) gGe:=by
  intro x y F H dx dy Q Q' rx ry _ g k
  unfold gGe at g
  split at g
  · cases rx; cases ry; exact .inl ⟨_,_,rfl,rfl,k _ _ (.bl _) g⟩
  · cases rx; cases ry; exact .inr ⟨_,_,rfl,rfl,k _ _ (.bl _) g⟩
  · exact g.elim
theorem zsa {F:Hp} {x y:V} {dx dy:D} {b:Bool} (rx:Rep K F x dx) (ry:Rep K F y dy) (h:eqF dx dy=some b):scal x y=true∧decide (x=y)=b:=by
  unfold eqF at h
  split at h <;> cases h <;> (cases rx; cases ry; exact ⟨rfl,by simp⟩)
theorem zp5 {F:Hp} {x:V} {d:D} (r:Rep K F x d):decide (x = .non)=d.isNon:=by
  cases r <;> simp [D.isNon]
theorem zx4:Op2 K (fun x y H Q=>y = .non∧Q (.bl (decide (x = .non))) H) gIsN:=by
  intro x y F H dx dy Q Q' rx ry _ g k
  unfold gIsN at g
  split at g
  · cases ry; exact ⟨rfl,by rw [zp5 rx]; exact k _ _ (.bl _) g⟩
  · exact g.elim
theorem zp6:Op2 K (fun x y H Q=>y = .non∧Q (.bl (!decide (x = .non))) H) zex:=by
  intro x y F H dx dy Q Q' rx ry _ g k
  unfold zex at g
  split at g
  · cases ry
    exact ⟨rfl,by rw [zp5 rx]; exact k _ _ (.bl _) g⟩
  · exact g.elim
theorem zv8 (ha:PE X a (upE K ta)) (hb:PE X b (upE K tb)):PE X (.Compare a [.IsNot] [b] pos) (upE K (d2 zex ta tb)):=zx3 op_notN zp6 ha hb (nomark _)
def dNeg (ta:DE):DE:=fun δ Q=>ta δ fun δ1 x=>∃ i,x = .int i∧Q δ1 (.int (-i))
theorem zx5 (ha:PE X a (upE K ta)):PE X (.UnaryOp .USub a pos) (upE K (dNeg ta)):=pimp (pe_un un_neg ha) fun σ H Q ⟨F0,H0,P,δ,F,Q',R,ht,k⟩=>by
  refine ⟨F0,H0,P,δ,F,_,R,ht,fun δ1 F1 H1 x dx R1 e1 rx ⟨i,e,ht⟩=>?_⟩
  subst e
  cases rx
  exact ⟨i,rfl,k δ1 F1 H1 _ _ R1 e1 (.int _) ht⟩
variable {tA tB:DT} {rest:List Expr}
def dTst (ta:DE):DT:=fun δ Q=>ta δ fun δ1 x=>∃ k,x = .bl k∧Q δ1 k
theorem qt (h:PE X e (upE K ta)) (he:∀ whole,isTrue e X.env whole=(do let v ← whole; standAt e.pos; holding [v] (truthy v)):=by intro _; rfl):PT X e (upT K (dTst ta)):=zne (pt_val h he) fun σ H Q ⟨F0,H0,P,δ,F,Q',R,ht,k⟩=>by
  refine ⟨F0,H0,P,δ,F,_,R,ht,fun δ1 F1 H1 x dx R1 e1 rx ⟨b,e,ht⟩=>?_⟩
  subst e
  cases rx
  exact ⟨b,rfl,k δ1 F1 H1 _ R1 e1 ht⟩
theorem zd9 {op:CmpOp} {r:R2} {g:D→D→(D→Prop)→Prop} (hr:OpR X (compareOp op) r) (ho:Op2 K r g) (ha:PE X a (upE K ta)) (hb:PE X b (upE K tb)) (hm:behindInMarks op b=false):PT X (.Compare a [op] [b] pos) (upT K (dTst (d2 g ta tb))) :=
  zne (pt_cmpR hr ha hb hm) fun σ H Q ⟨F0,H0,P,δ,F,Q',R,ht,k⟩=>by
    refine ⟨F0,H0,P,δ,F,_,R,ht,fun δ1 F1 H1 x dx R1 e1 rx ht=>?_⟩
    refine ⟨F0,H0,P,δ1,F1,_,R1,ht,fun δ2 F2 H2 y dy R2 e2 ry ht=>?_⟩
    refine ho x y F2 H2 dx dy _ _ (rx.mono e2) ry R2.e3 ht fun v d rv ⟨q,e,ht⟩=>?_
    subst e
    cases rv
    exact ⟨q,rfl,k δ2 F2 H2 _ R2 (e1.trans e2) ht⟩
theorem zzr (ha:PE X a (upE K ta)) (hb:PE X b (upE K tb)):PT X (.Compare a [.Lt] [b] pos) (upT K (dTst (d2 gLt ta tb))):=zd9 (op_lt.or op_lt_str) zzo ha hb (nomark _)
theorem znf (ha:PE X a (upE K ta)) (hb:PE X b (upE K tb)):PT X (.Compare a [.Gt] [b] pos) (upT K (dTst (d2 gGt ta tb))):=zd9 (op_gt.or op_gt_str) zzp ha hb (nomark _)
theorem zvl (ha:PE X a (upE K ta)) (hb:PE X b (upE K tb)):PT X (.Compare a [.GtE] [b] pos) (upT K (dTst (d2 gGe ta tb))):=zd9 (op_ge.or op_ge_str) zzq ha hb (nomark _)
theorem zx6 (ha:PE X a (upE K ta)) (hb:PE X b (upE K tb)):PT X (.Compare a [.Is] [b] pos) (upT K (dTst (d2 gIsN ta tb))):=zd9 op_isN zx4 ha hb (nomark _)
theorem zv9 (ha:PE X a (upE K ta)) (hb:PE X b (upE K tb)):PT X (.Compare a [.IsNot] [b] pos) (upT K (dTst (d2 zex ta tb))):=zd9 op_notN zp6 ha hb (nomark _)
def dAnd (t u:DT):DT:=fun δ Q=>t δ fun δ1 c=>if c=true then u δ1 Q else Q δ1 false
theorem zea (ha:PT X a (upT K tA)):PW X (.BoolOp .And [a] pos) (upT K tA):=pw_and1 ha
theorem zf3 (ha:PT X a (upT K tA)) (hb:PW X (.BoolOp .And (b :: rest) pos) (upT K tB)):PW X (.BoolOp .And (a :: b :: rest) pos) (upT K (dAnd tA tB)):=zzm (pw_and ha hb) fun σ H Q ⟨F0,H0,P,δ,F,Q',R,ht,k⟩=>by
  refine ⟨F0,H0,P,δ,F,_,R,ht,fun δ1 F1 H1 c R1 e1 ht=>?_⟩
  cases c with
  | true =>
    rw [if_pos rfl] at ht ⊢
    exact ⟨F0,H0,P,δ1,F1,_,R1,ht,fun δ2 F2 H2 b R2 e2 q=>k δ2 F2 H2 b R2 (e1.trans e2) q⟩
  | false =>
    rw [if_neg (by decide)] at ht ⊢
    exact k δ1 F1 H1 _ R1 e1 ht
def zng (ta tb:DE):DE:=fun δ Q=>ta δ fun δ1 x=>∃ c,x = .bl c∧if c=true then tb δ1 Q else Q δ1 (.bl false)
theorem zx7 {op:BoolOp} (ha:PE X a (upE K ta)):PE X (.BoolOp op [a] pos) (upE K ta):=pe_one ha
theorem zsb (ha:PE X a (upE K ta)) (hb:PE X (.BoolOp .And (b :: rest) pos) (upE K tb)):PE X (.BoolOp .And (a :: b :: rest) pos) (upE K (zng ta tb)):=pimp (pe_and ha hb) fun σ H Q ⟨F0,H0,P,δ,F,Q',R,ht,k⟩=>by
  refine ⟨F0,H0,P,δ,F,_,R,ht,fun δ1 F1 H1 x dx R1 e1 rx ⟨c,e,ht⟩=>?_⟩
  subst e
  cases rx
  refine ⟨c,rfl,?_⟩
  cases c with
  | true =>
    rw [if_pos rfl] at ht ⊢
    exact ⟨F0,H0,P,δ1,F1,_,R1,ht,fun δ2 F2 H2 v d R2 e2 r q=>k δ2 F2 H2 v d R2 (e1.trans e2) r q⟩
  | false =>
    rw [if_neg (by decide)] at ht ⊢
    exact k δ1 F1 H1 _ _ R1 e1 (.bl _) ht
def dIf (t:DT) (ta tb:DE):DE:=fun δ Q=>t δ fun δ1 c=>if c=true then ta δ1 Q else tb δ1 Q
theorem zvm {c:Expr} (hc:PT X c (upT K tA)) (ha:PE X a (upE K ta)) (hb:PE X b (upE K tb)):PE X (.IfExp c a b pos) (upE K (dIf tA ta tb)):=pimp (pe_ifExp hc ha hb) fun σ H Q ⟨F0,H0,P,δ,F,Q',R,ht,k⟩=>by
  refine ⟨F0,H0,P,δ,F,_,R,ht,fun δ1 F1 H1 c R1 e1 ht=>?_⟩
  cases c with
  | false =>
    rw [if_neg (by decide)] at ht ⊢
    exact ⟨F0,H0,P,δ1,F1,_,R1,ht,fun δ2 F2 H2 v d R2 e2 r q=>k δ2 F2 H2 v d R2 (e1.trans e2) r q⟩
  | true =>
    rw [if_pos rfl] at ht ⊢
    exact ⟨F0,H0,P,δ1,F1,_,R1,ht,fun δ2 F2 H2 v d R2 e2 r q=>k δ2 F2 H2 v d R2 (e1.trans e2) r q⟩
end
section
variable {κ α:Type} [DecidableEq κ]
def valG (kvs:List (κ×α)) (k:κ):Option α:=(kvs.find? fun kv=>decide (kv.1=k)).map (·.2)
def putG (kvs:List (κ×α)) (k:κ) (v:α):List (κ×α) :=
  if (kvs.any fun kv=>decide (kv.1=k))=true then kvs.map fun kv=>if kv.1=k then (kv.1,v) else kv else kvs++[(k,v)]
def jj (kvs:List (κ×α)) (k:κ):List (κ×α):=kvs.filter fun kv=>decide (kv.1≠k)
end
def keyD:Key→D
  | .inl i=>.int i
  | .inr s=>.str s
def dkey:D→Option Key
  | .int i=>some (.inl i)
  | .str s=>some (.inr s)
  | _=>none
def ziz:List D→Option (List Key)
  | []=>some []
  | d :: ds=>match dkey d,ziz ds with
    | some k,some ks=>some (k :: ks)
    | _,_=>none
def tkey:D→Option (List Key)
  | .tup ds=>ziz ds
  | _=>none
section
variable {K:Frag} {F:Hp}
theorem ye {v:V} {d:D} {k:Key} (r:Rep K F v d) (h:dkey d=some k):v=kV k:=by
  cases r <;> simp [dkey] at h <;> subst h <;> rfl
theorem znv:∀ {vs:List V} {ds:List D} {ks:List Key},RepL K F vs ds→ziz ds=some ks→vs=ks.map kV
  | _,_,ks,.nil,h=>by simp [ziz] at h; subst h; rfl
  | _,_,ks,.cons (d:=d) (ds:=ds) r t,h=>by
    unfold ziz at h
    split at h
    · rename_i k ks' e1 e2
      cases h
      rw [ye r e1,znv t e2]; rfl
    · cases h
theorem zko:∀ k:Key,Rep K F (kV k) (keyD k)
  | .inl i=>.int i
  | .inr s=>.str s
theorem zbf:∀ ks:List Key,RepL K F (ks.map kV) (ks.map keyD)
  | []=>.nil
  | k :: ks=>.cons (zko k) (zbf ks)
inductive RepG (K:Frag) (F:Hp) {κ:Type}:List (κ×V)→List (κ×D)→Prop
  | nil:RepG K F [] []
  | cons {k:κ} {v:V} {vs:List (κ×V)} {d:D} {ds:List (κ×D)}:Rep K F v d→RepG K F vs ds→RepG K F ((k,v) :: vs) ((k,d) :: ds)
theorem RepK.g:∀ {ws:List (Key×V)} {kvs:List (Key×D)},RepK K F ws kvs→RepG K F ws kvs
  | _,_,.nil=>.nil
  | _,_,.cons r t=>.cons r (RepK.g t)
theorem RepT.g:∀ {ws:List (List Key×V)} {kvs:List (List Key×D)},RepT K F ws kvs→RepG K F ws kvs
  | _,_,.nil=>.nil
  | _,_,.cons r t=>.cons r (RepT.g t)
theorem RepG.k:∀ {ws:List (Key×V)} {kvs:List (Key×D)},RepG K F ws kvs→RepK K F ws kvs
  | _,_,.nil=>.nil
  | _,_,.cons r t=>.cons r (RepG.k t)
theorem RepG.t:∀ {ws:List (List Key×V)} {kvs:List (List Key×D)},RepG K F ws kvs→RepT K F ws kvs
  | _,_,.nil=>.nil
  | _,_,.cons r t=>.cons r (RepG.t t)
variable {κ:Type} [DecidableEq κ]
theorem RepG.length {ws:List (κ×V)} {kvs:List (κ×D)} (h:RepG K F ws kvs):ws.length=kvs.length:=by
  induction h with
  | nil=>rfl
  | cons _ _ ih=>simp [ih]
theorem RepG.keys {ws:List (κ×V)} {kvs:List (κ×D)} (h:RepG K F ws kvs):ws.map (·.1)=kvs.map (·.1):=by
  induction h with
  | nil=>rfl
  | cons _ _ ih=>simp [ih]
theorem RepG.val {ws:List (κ×V)} {kvs:List (κ×D)} (h:RepG K F ws kvs) (k:κ):(∃ v d,valV ws k=some v∧valG kvs k=some d∧Rep K F v d)∨(valV ws k=none∧valG kvs k=none):=by
  induction h with
  | nil=>exact .inr ⟨rfl,rfl⟩
  | @cons k' v vs d ds r t ih =>
    by_cases e:k'=k
    · exact .inl ⟨v,d,by simp [valV,e],by simp [valG,e],r⟩
    · have e1:valV ((k',v) :: vs) k=valV vs k:=by simp [valV,e]
      have e2:valG ((k',d) :: ds) k=valG ds k:=by simp [valG,e]
      rw [e1,e2]; exact ih
theorem RepG.any {ws:List (κ×V)} {kvs:List (κ×D)} (h:RepG K F ws kvs) (k:κ):(ws.any fun kv=>decide (kv.1=k))=(kvs.any fun kv=>decide (kv.1=k)):=by
  induction h with
  | nil=>rfl
  | cons _ _ ih=>simp [ih]
theorem RepG.app {ws us:List (κ×V)} {kvs es:List (κ×D)} (h:RepG K F ws kvs) (g:RepG K F us es):RepG K F (ws++us) (kvs++es):=by
  induction h with
  | nil=>exact g
  | cons r _ ih=>exact .cons r ih
theorem RepG.put {ws:List (κ×V)} {kvs:List (κ×D)} (h:RepG K F ws kvs) (k:κ) {v:V} {d:D} (r:Rep K F v d):RepG K F (putK ws k v) (putG kvs k d):=by
  unfold putK putG
  rw [h.any k]
  split
  · rename_i hx
    clear hx
    induction h with
    | nil=>exact .nil
    | @cons k' v' vs d' ds r' t ih =>
      show RepG K F ((if k'=k then (k',v) else (k',v')) :: _) ((if k'=k then (k',d) else (k',d')) :: _)
      split
      · exact .cons r ih
      · exact .cons r' ih
  · exact h.app (.cons r .nil)
theorem RepG.drop {ws:List (κ×V)} {kvs:List (κ×D)} (h:RepG K F ws kvs) (k:κ):RepG K F (dropK ws k) (jj kvs k):=by
  unfold dropK jj
  induction h with
  | nil=>exact .nil
  | @cons k' v vs d ds r t ih =>
    by_cases e:k'=k
    · simpa [e] using ih
    · simp only [List.filter_cons,ne_eq,e,not_false_eq_true,decide_true,if_true]
      exact .cons r ih
theorem RepG.get {ws:List (κ×V)} {kvs:List (κ×D)} (h:RepG K F ws kvs):∀ {i:Nat} {k:κ} {d:D},kvs[i]? = some (k,d)→∃ v,ws[i]? = some (k,v)∧Rep K F v d:=by
  induction h with
  | nil=>intro i k d e; simp at e
  | cons r t ih =>
    intro i k d e
    cases i with
    | zero=>simp at e; obtain ⟨rfl,rfl⟩:=e; exact ⟨_,rfl,r⟩
    | succ i=>obtain ⟨v,q,r⟩:=ih (i:=i) (by simpa using e); exact ⟨v,by simpa using q,r⟩
end
section
variable {X:Cx} {K:Frag} {e a b c:Expr} {es:List Expr} {ta tb tc te tk tv:DE} {tA tB:DT} {st:Stmt} {rest body:List Stmt} {t u:DS} {ts:DA} {pos:Pos}
def dNil:DA:=fun δ Q=>Q δ []
def ze (te:DE) (ts:DA):DA:=fun δ Q=>te δ fun δ1 d=>ts δ1 fun δ2 ds=>Q δ2 (d :: ds)
theorem pdn:PA X [] (upA K dNil):=zev pa_nil fun σ H Q ⟨F0,H0,P,δ,F,Q',R,ht,k⟩=>k δ F H _ _ R (Ex.refl F) .nil ht
theorem pdc (he:PE X e (upE K te)) (hr:PA X es (upA K ts)) (hs:starEach (e :: es) X.env=(false,eval e X.env) :: starEach es X.env:=by rfl):PA X (e :: es) (upA K (ze te ts)):=zev (pa_cons he hr hs) fun σ H Q ⟨F0,H0,P,δ,F,Q',R,ht,k⟩=>by
  refine ⟨F0,H0,P,δ,F,_,R,ht,fun δ1 F1 H1 x dx R1 e1 rx ht=>?_⟩
  refine ⟨F0,H0,P,δ1,F1,_,R1,ht,fun δ2 F2 H2 vs ds R2 e2 rs ht=>?_⟩
  exact k δ2 F2 H2 _ _ R2 (e1.trans e2) (.cons (rx.mono e2) rs) ht
def dTup (ts:DA):DE:=fun δ Q=>ts δ fun δ1 ds=>ds.length≤sizeLine∧Q δ1 (.tup ds)
theorem zbt {x1} (h:PA X es (upA K ts)):PE X (.Tuple es x1 pos) (upE K (dTup ts)):=pimp (pe_tup h) fun σ H Q ⟨F0,H0,P,δ,F,Q',R,ht,k⟩=>by
  refine ⟨F0,H0,P,δ,F,_,R,ht,fun δ1 F1 H1 vs ds R1 e1 rs ⟨hl,ht⟩=>⟨by rw [rs.length]; exact hl,fun p hp=>?_⟩⟩
  have ex:Ex F1 (upd F1 p (.tup vs)):=Ex.new (R1.e3.nn hp)
  exact k δ1 _ _ _ _ (R1.newF hp) (e1.trans ex) (.tup upd_same (rs.mono ex)) ht
def dLst (ts:DA):DOw:=fun δ Q=>ts δ fun δ1 ds=>ds.length≤sizeLine∧Q δ1 (.lst ds)
theorem RepS.fresh {F0 H0:Hp} {P:Pl} {δ:Dl} {σ:L2.St} {F H:Hp} (R:RepS K F0 H0 P δ σ F H) {p:Addr} (h:H p=none):p ∉ pk P:=fun hp=>(R.rsv' hp).2.2 h
theorem ui (h:PA X es (upA K ts)):PE X (.List es pos) (upO K (dLst ts)):=pimp (pe_lst h) fun σ H Q ⟨F0,H0,P,δ,F,Q',R,ht,k⟩=>by
  refine ⟨F0,H0,P,δ,F,_,R,ht,fun δ1 F1 H1 vs ds R1 e1 rs ⟨hl,ht⟩=>⟨by rw [rs.length]; exact hl,fun p hp=>?_⟩⟩
  exact k δ1 F1 _ p _ _ (R1.newP hp) (R1.fresh hp) e1 (show OwnAt K F1 _ p (.lst ds) from ⟨vs,upd_same,rs⟩) ht
def y0:DOw:=fun δ Q=>Q δ (.dk [])
def znh:DOw:=fun δ Q=>Q δ (.dt [])
theorem v3:PE X (.Dict [] [] pos) (upO K y0):=pimp pe_dnewK fun σ H Q ⟨F0,H0,P,δ,F,Q',R,ht,k⟩=>fun p hp=>k δ F _ p _ _ (R.newP hp) (R.fresh hp) (Ex.refl F) (show OwnAt K F _ p (.dk []) from ⟨[],upd_same,.nil⟩) ht
theorem zp7:PE X (.Dict [] [] pos) (upO K znh):=pimp pe_dnewT fun σ H Q ⟨F0,H0,P,δ,F,Q',R,ht,k⟩=>fun p hp=>k δ F _ p _ _ (R.newP hp) (R.fresh hp) (Ex.refl F) (show OwnAt K F _ p (.dt []) from ⟨[],upd_same,.nil⟩) ht
def dFrz (t:DOw):DE:=fun δ Q=>t δ fun δ1 o=>Q δ1 o.d
theorem pfz {to:DOw} (h:PE X e (upO K to)):PE X e (upE K (dFrz to)):=pimp (zew h) fun σ H Q ⟨F0,H0,P,δ,F,Q',R,ht,k⟩=>by
  refine ⟨F0,H0,P,δ,F,_,R,ht,fun δ1 F1 H1 p hp0 o R1 hP e1 q ht=>?_⟩
  obtain ⟨ho,hh,mu,rp⟩:=q.rep (R1.rsv p hp0 (by simp)).2.1
  exact .inr ⟨p,ho,hh,mu,fun od=>k δ1 _ _ _ _ (R1.frzP hP _) (e1.trans (Ex.new (R1.rsv p hp0 (by simp)).2.1)) (rp od) ht⟩
def vc:DS:=fun D δ=>D.nx δ
def dSeq (t u:DS):DS:=fun D δ=>t { D with nx:=u D } δ
theorem jz:PSs X [] (upS K vc):=znu pss_nil fun D σ H ⟨F0,H0,δ,F,D',W⟩=>W.nx δ σ F H W.rep (Ex.refl F) W.t
theorem zf (h1:PS X st (upS K t)) (h2:PSs X rest (upS K u)):PSs X (st :: rest) (upS K (dSeq t u)):=znu (pss_cons h1 h2) fun D σ H ⟨F0,H0,δ,F,D',W⟩ =>
  ⟨F0,H0,δ,F,{ D' with nx:=u D' },⟨W.rep,W.t,fun δ' σ' F' H' R ex q=>⟨F0,H0,δ',F',D',⟨R,q,fun a b c d r x y=>W.nx a b c d r (ex.trans x) y,fun a b c d r x y=>W.bk a b c d r (ex.trans x) y,fun a b c d r x y=>W.ct a b c d r (ex.trans x) y,W.rt⟩⟩,W.bk,W.ct,W.rt⟩⟩
theorem zm (h1:PS X st (upS K t)):PSs X [st] (upS K t):=pss_one h1
def zrg (te:DE):DS:=fun D δ=>te δ fun δ1 _=>D.nx δ1
theorem zwa (he:PE X e (upE K te)) (hs:swapsWith e none pos.line X.env=pure false:=by rfl):PS X (.Expr e pos) (upS K (zrg te)):=jq (ps_expr he hs) fun D σ H ⟨F0,H0,δ,F,D',W⟩ =>
  ⟨F0,H0,[],δ,F,_,W.rep,W.t,fun δ1 F1 H1 x dx R1 e1 rx ht=>W.nx δ1 σ F1 H1 R1 e1 ht⟩
def dRet (te:DE):DS:=fun D δ=>te δ fun _ d=>D.rt (.fz d)
theorem vr (he:PE X e (upE K te)):PS X (.Return (some e) pos) (upS K (dRet te)):=jq (ps_ret he) fun D σ H ⟨F0,H0,δ,F,D',W⟩ =>
  ⟨F0,H0,[],δ,F,_,W.rep,W.t,fun δ1 F1 H1 x dx R1 e1 rx ht=>W.rt F1 H1 x (.fz dx) R1.grown rx ht⟩
def zbr (to:DOw):DS:=fun D δ=>to δ fun _ o=>D.rt (.own o)
theorem zax {to:DOw} (he:PE X e (upO K to)):PS X (.Return (some e) pos) (upS K (zbr to)):=jq (ps_ret he) fun D σ H ⟨F0,H0,δ,F,D',W⟩ =>
  ⟨F0,H0,[],δ,F,_,W.rep,W.t,fun δ1 F1 H1 p hp0 o R1 hP e1 q ht=>by
    have r:=R1.rsv p hp0 (by simp)
    exact W.rt F1 H1 _ (.own o) R1.grown ⟨p,rfl,r.1,r.2.1,q⟩ ht⟩
def za2 (i:Nat):DS:=fun D δ=>match δ[i]? with
  | some (some (.fz d))=>D.rt (.fz d)
  | some (some (.own o))=>D.rt (.own o)
  | _=>False
theorem zbg {i:Nat} (h:PE X e (tVar i)):PS X (.Return (some e) pos) (upS K (za2 i)):=jq (ps_ret h) fun D σ H ⟨F0,H0,δ,F,D',W⟩=>by
  have ht:=W.t
  unfold za2 at ht
  split at ht
  · rename_i d e1
    obtain ⟨v,ev,r⟩:=W.rep.fz e1
    exact ⟨v,ev,W.rt F H v (.fz d) W.rep.grown r ht⟩
  · rename_i o e1
    obtain ⟨a,ev,q,n1,n2⟩:=W.rep.ownd e1
    exact ⟨_,ev,W.rt F H _ (.own o) W.rep.grown ⟨a,rfl,n2,n1,q⟩ ht⟩
  · exact ht.elim
def dIfS (c:DT) (t u:DS):DS:=fun D δ=>c δ fun δ1 b=>if b=true then t D δ1 else u D δ1
theorem v7 {a b:List Stmt} (hc:PT X c (upT K tA)) (ha:PSs X a (upS K t)) (hb:PSs X b (upS K u)):PS X (.If c a b pos) (upS K (dIfS tA t u)):=jq (ps_if hc ha hb) fun D σ H ⟨F0,H0,δ,F,D',W⟩=>by
  refine ⟨F0,H0,[],δ,F,_,W.rep,W.t,fun δ1 F1 H1 q R1 e1 ht=>?_⟩
  cases q with
  | true =>
    rw [if_pos rfl] at ht ⊢
    exact ⟨F0,H0,δ1,F1,D',W.at R1 e1 ht⟩
  | false =>
    rw [if_neg (by decide)] at ht ⊢
    exact ⟨F0,H0,δ1,F1,D',W.at R1 e1 ht⟩
abbrev DG:=D→Dl→(Dl→Prop)→Prop
abbrev DGs:=List D→Dl→(Dl→Prop)→Prop
def upG (K:Frag) (g:DG):TG:=fun v σ H Q=>∃ F0 H0 P δ F d Q',RepS K F0 H0 P δ σ F H∧Rep K F v d∧g d δ Q'∧∀ δ' σ' F' H',RepS K F0 H0 P δ' σ' F' H'→Ex F F'→Q' δ'→Q σ' H'
def upGs (K:Frag) (g:DGs):TGs:=fun vs σ H Q=>∃ F0 H0 P δ F ds Q',RepS K F0 H0 P δ σ F H∧RepL K F vs ds∧g ds δ Q'∧∀ δ' σ' F' H',RepS K F0 H0 P δ' σ' F' H'→Ex F F'→Q' δ'→Q σ' H'
theorem gimp {tg:Expr} {g g':TG} (h:PG X tg g) (i:∀ v σ H Q,g' v σ H Q→g v σ H Q):PG X tg g':=⟨fun pins s σ H v u Q I r q=>h.run pins s σ H v u Q I r (i v σ H Q q)⟩
theorem zvn {tg:List Expr} {g g':TGs} (h:PGs X tg g) (i:∀ v σ H Q,g' v σ H Q→g v σ H Q):PGs X tg g':=⟨fun pins s σ H v u Q I r q=>h.run pins s σ H v u Q I r (i v σ H Q q)⟩
def gN (i:Nat):DG:=fun d δ Q=>Q (δ.set i (some (.fz d)))
theorem zw {i:Nat} {tg:Expr} (h:PG X tg (gName i)):PG X tg (upG K (gN i)):=gimp h fun v σ H Q ⟨F0,H0,P,δ,F,d,Q',R,r,g,k⟩=>k _ _ F H (R.setF i r) (Ex.refl F) g
def jr:DGs:=fun ds δ Q=>ds=[]∧Q δ
def zu (t:DG) (u:DGs):DGs:=fun ds δ Q=>∃ d r,ds=d :: r∧t d δ fun δ'=>u r δ' Q
theorem v4:PGs X [] (upGs K jr):=zvn pgs_nil fun v σ H Q ⟨F0,H0,P,δ,F,d,Q',R,r,⟨e,g⟩,k⟩=>by
  subst e
  cases r
  exact ⟨rfl,k _ _ F H R (Ex.refl F) g⟩
theorem zy {tg:Expr} {tgs:List Expr} {g:DG} {gs:DGs} (h1:PG X tg (upG K g)) (h2:PGs X tgs (upGs K gs)) (hs:(assignEach (tg :: tgs) X.env).map (·.2)=assign tg X.env :: (assignEach tgs X.env).map (·.2):=by rfl):PGs X (tg :: tgs) (upGs K (zu g gs)) :=
  zvn (pgs_cons h1 h2 hs) fun v σ H Q ⟨F0,H0,P,δ,F,ds,Q',R,r,⟨d,dr,e,g⟩,k⟩=>by
    subst e
    cases r with
    | cons r rr=>exact ⟨_,_,rfl,F0,H0,P,δ,F,d,_,R,r,g,fun δ1 σ1 F1 H1 R1 e1 g1=>⟨F0,H0,P,δ1,F1,dr,Q',R1,rr.mono e1,g1,fun δ2 σ2 F2 H2 R2 e2 q=>k δ2 σ2 F2 H2 R2 (e1.trans e2) q⟩⟩
def gTp (n:Nat) (g:DGs):DG:=fun d δ Q=>∃ ds,d = .tup ds∧ds.length=n∧g ds δ Q
theorem u3 {tgs:List Expr} {kk:Nat} {gs:DGs} {n:Nat} (hc:X.calm=true) (h:PGs X tgs (upGs K gs)) (hK:X.K=K:=by rfl)
    (hn:(assignEach tgs X.env).length=n:=by rfl) (hst:(assignEach tgs X.env).findIdx? (·.1)=none:=by rfl):PG X (.Tuple tgs kk pos) (upG K (gTp n gs)) :=
  gimp (pg_tup hc h hn hst) fun v σ H Q ⟨F0,H0,P,δ,F,d,Q',R,r,⟨ds,e,hl,g⟩,k⟩=>by
    subst e
    cases r with
    | tup h1 rs=>exact ⟨_,_,rfl,.inl (.inl (R.e3 _ _ h1)),by rw [rs.length]; exact hl,F0,H0,P,δ,F,ds,Q',R,rs,g,k⟩
def dAsg (te:DE) (g:DG):DS:=fun D δ=>te δ fun δ1 d=>g d δ1 D.nx
def ug (i:Nat) (to:DOw):DS:=fun D δ=>to δ fun δ1 o=>D.nx (δ1.set i (some (.own o)))
theorem vt {tg:Expr} {g:DG} (he:PE X e (upE K te)) (hg:PG X tg (upG K g)) (hs:swapsWithSole [tg] e pos.line X.env=pure false:=by rfl) (hw:swappedStores [tg] e X.env=pure none:=by rfl)
    (h1:(assignEach [tg] X.env).map (·.2)=[assign tg X.env]:=by rfl):PS X (.Assign [tg] e pos) (upS K (dAsg te g)):=jq (ps_asg he hg hs hw h1) fun D σ H ⟨F0,H0,δ,F,D',W⟩ =>
  ⟨F0,H0,[],δ,F,_,W.rep,W.t,fun δ1 F1 H1 x dx R1 e1 rx ht=>⟨F0,H0,[],δ1,F1,dx,_,R1,rx,ht,fun δ2 σ2 F2 H2 R2 e2 q=>W.nx δ2 σ2 F2 H2 R2 (e1.trans e2) q⟩⟩
theorem qe {i:Nat} {x:Str} {e:Expr} {te:DE} {pos':Pos} (hN:X.N.Nodup) (hi:X.N[i]? = some x) (hx:Loc X.env.scope x) (he:PE X e (upE K te)) (hs:swapsWith e (some (.Name x pos')) pos.line X.env=pure false:=by rfl) (hf:X.fn x=true∨X.env.scope.names.lookup x=some .local:=by first | exact .inl rfl | exact .inr rfl | assumption) :
    PS X (.Assign [.Name x pos'] e pos) (upS K (dAsg te (gN i))):=jq (ps_set hN hi hx he hs hf) fun D σ H ⟨F0,H0,δ,F,D',W⟩ =>
  ⟨F0,H0,[],δ,F,_,W.rep,W.t,fun δ1 F1 H1 x dx R1 e1 rx ht=>W.nx _ _ F1 H1 (R1.setF i rx) e1 ht⟩
theorem y2 {i:Nat} {x:Str} {e:Expr} {to:DOw} {pos':Pos} (hN:X.N.Nodup) (hi:X.N[i]? = some x) (hx:Loc X.env.scope x) (he:PE X e (upO K to)) (hs:swapsWith e (some (.Name x pos')) pos.line X.env=pure false:=by rfl) (hf:X.fn x=true∨X.env.scope.names.lookup x=some .local:=by first | exact .inl rfl | exact .inr rfl | assumption) :
    PS X (.Assign [.Name x pos'] e pos) (upS K (ug i to)):=jq (ps_set hN hi hx he hs hf) fun D σ H ⟨F0,H0,δ,F,D',W⟩ =>
  ⟨F0,H0,[],δ,F,_,W.rep,W.t,fun δ1 F1 H1 p hp0 o R1 hP e1 q ht=>W.nx _ _ F1 H1 (R1.setO hP i q) e1 ht⟩
def dApp (i:Nat) (te:DE):DS:=fun D δ=>match δ[i]? with
  | some (some (.own (.lst _)))=>te δ fun δ1 d=>match δ1[i]? with
    | some (some (.own (.lst ds)))=>ds.length < sizeLine∧D.nx (δ1.set i (some (.own (.lst (ds++[d])))))
    | _=>False
  | _=>False
theorem znw {o:Expr} {apos pos':Pos} {i:Nat} (h:PE X (.Call (.Attribute o "append" apos) [e] [] pos) (tBM X.K "list" rAppend (tVar i) (tCons (upE K te) tNil))) (hs:swapsWith (.Call (.Attribute o "append" apos) [e] [] pos) none pos'.line X.env=pure false:=by rfl) :
    PS X (.Expr (.Call (.Attribute o "append" apos) [e] [] pos) pos') (upS K (dApp i te)):=jq (ps_expr h hs) fun D σ H ⟨F0,H0,δ,F,D',W⟩=>by
  have ht:=W.t
  unfold dApp at ht
  split at ht
  · rename_i ds0 e1
    obtain ⟨a,ea,⟨vs,hv,rs⟩,n1,n2⟩:=W.rep.ownd e1
    refine ⟨_,ea,.inl ⟨rfl,vs,.inl (.inl hv)⟩,F0,H0,[],δ,F,_,W.rep,ht,fun δ1 F1 H1 x dx R1 ex1 rx ht=>?_⟩
    split at ht
    · rename_i ds e2
      obtain ⟨b,eb,⟨ws,hw,rw⟩,n3,n4⟩:=R1.ownd e2
      rw [ea] at eb; cases eb
      refine ⟨a,ws,x,rfl,rfl,hw,by rw [rw.length]; exact ht.1,?_⟩
      exact W.nx _ _ F1 _ (R1.write e2 ea (o':=.lst (ds++[dx])) (show OwnAt K F1 _ a (.lst (ds++[dx])) from ⟨_,upd_same,rw.app (.cons rx .nil)⟩)) ex1 ht.2
    · exact ht.elim
  · exact ht.elim
abbrev DI:=Dl→(Dl→List D→Prop)→Prop
inductive YldD (K:Frag) (F H:Hp):V→Hp→D→Prop
  | plain {x:V} {d:D}:Rep K F x d→YldD K F H x H d
  | pair {T:Addr} {vs:List V} {es:List D}:H T=none→RepL K F vs es→YldD K F H (.ref T) (upd H T (.tup vs)) (.tup es)
structure WalkD (K:Frag) (F:Hp) (J:It) (ds:List D):Prop where
  go:∀ i H,i < ds.length→Ex F H→J.go i H
  stop:∀ H,Ex F H→J.stop ds.length H
  yld:∀ i d F2 H x H',ds[i]? = some d→Ex F F2→Ex F2 H→Tp F2 H→J.yld i H x H'→YldD K F2 H x H' d
def upI (K:Frag) (wi:DI):TI:=fun σ H R=>∃ F0 H0 P δ F Q',RepS K F0 H0 P δ σ F H∧wi δ Q'∧∀ δ' F' H' J ds,RepS K F0 H0 P δ' σ F' H'→Ex F F'→WalkD K F' J ds→Q' δ' ds→R J H'
theorem iimp {tg it:Expr} {w w':TI} (h:PI X tg it w) (i:∀ σ H R,w' σ H R→w σ H R):PI X tg it w':=⟨fun pins s σ H R I q=>h.run pins s σ H R I (i σ H R q)⟩
theorem YldD.rep {F0 H0:Hp} {P:Pl} {δ:Dl} {σ:L2.St} {F H:Hp} {x:V} {H':Hp} {d:D} (y:YldD K F H x H' d) (R:RepS K F0 H0 P δ σ F H):∃ F',RepS K F0 H0 P δ σ F' H'∧Ex F F'∧Rep K F' x d:=by
  cases y with
  | plain r=>exact ⟨F,R,Ex.refl F,r⟩
  | @pair T vs es hT rs =>
    have e:Ex F (upd F T (.tup vs)):=Ex.new (R.e3.nn hT)
    exact ⟨_,R.newF hT,e,.tup upd_same (rs.mono e)⟩
def dFor (wi:DI) (g:DG) (tb:DS):DS:=fun D δ=>wi δ fun δ1 ds=>∃ I:Nat→Dl→Prop,I 0 δ1 ∧
  (∀ i d δ2,ds[i]? = some d→I i δ2→g d δ2 fun δ3=>tb { D with nx:=I (i + 1),ct:=I (i + 1),bk:=D.nx } δ3)∧∀ δ2,I ds.length δ2→D.nx δ2
theorem x8 {tg iter:Expr} {wi:DI} {g:DG} {tb:DS} (hp:PassesOwn (model X.prog X.w) X.A X.env X.xe) (hc:X.calm=true) (hi:PI X tg iter (upI K wi)) (hg:PG X tg (upG K g)) (hb:PSs X body (upS K tb))
    (hs:∀ x,foldedSetIterable iter X.env x=pure x:=by intro _; rfl):PS X (.For tg iter body [] pos) (upS K (dFor wi g tb)):=jq (ps_for hp hc hi hg hb hs) fun D σ H ⟨F0,H0,δ,F,D',W⟩=>by
  refine ⟨F0,H0,[],δ,F,_,W.rep,W.t,fun δ1 F1 H1 J ds R1 e1 wk ⟨I,i0,is,id⟩=>?_⟩
  refine ⟨fun i m σ2 H2=>m=ds.length - i∧i≤ds.length∧∃ δ2 F2,RepS K F0 H0 [] δ2 σ2 F2 H2∧Ex F1 F2∧I i δ2,⟨_,rfl,Nat.zero_le _,δ1,F1,R1,Ex.refl F1,i0⟩,?_⟩
  rintro i m σ2 H2 ⟨rfl,hi,δ2,F2,R2,e2,q2⟩
  by_cases hlt:i < ds.length
  · have hd:ds[i]? = some ds[i]:=List.getElem?_eq_getElem hlt
    refine .inr ⟨wk.go i H2 hlt (e2.trans R2.e3),fun σ3 H3=>∃ δ3 F3,RepS K F0 H0 [] δ3 σ3 F3 H3∧Ex F1 F3∧I (i + 1) δ3,fun σ3 H3 ⟨δ3,F3,R3,e3,q3⟩=>⟨_,by omega,rfl,hlt,δ3,F3,R3,e3,q3⟩,fun x H3 y=>?_⟩
    obtain ⟨F3,R3,e3,rx⟩:=(wk.yld i _ F2 H2 x H3 hd e2 R2.e3 R2.tp y).rep R2
    refine ⟨F0,H0,[],δ2,F3,_,_,R3,rx,is i _ δ2 hd q2,fun δ4 σ4 F4 H4 R4 e4 q4=>?_⟩
    exact ⟨F0,H0,δ4,F4,_,⟨R4,q4,fun δ5 σ5 F5 H5 R5 e5 q5=>⟨δ5,F5,R5,((e2.trans e3).trans e4).trans e5,q5⟩,fun δ5 σ5 F5 H5 R5 e5 q5=>W.nx δ5 σ5 F5 H5 R5 ((((e1.trans e2).trans e3).trans e4).trans e5) q5,fun δ5 σ5 F5 H5 R5 e5 q5=>⟨δ5,F5,R5,((e2.trans e3).trans e4).trans e5,q5⟩,W.rt⟩⟩
  · have e:i=ds.length:=by omega
    subst e
    exact .inl ⟨wk.stop H2 (e2.trans R2.e3),W.nx δ2 σ2 F2 H2 R2 (e1.trans e2) (id δ2 q2)⟩
end
inductive Vw where
  | inl (i:Nat) | inr (d:D) | cel (a:Addr)
def wlO (δ:Dl):Wl:=match δ.getLast? with
  | some (some (.wld W))=>W
  | _=>[]
abbrev DV:=Dl→(Dl→Vw→Prop)→Prop
def vwD (δ:Dl):Vw→Option D
  | .inr d=>some d
  | .inl i=>match δ[i]? with
    | some (some (.own o))=>some o.d
    | _=>none
  | .cel a=>(valG (wlO δ) a).map O.d
def VwOk (K:Frag) (σ:L2.St) (F:Hp) (v:V):Vw→Prop
  | .inr d=>Rep K F v d
  | .inl i=>σ[i]? = some (some v)
  | .cel a=>v = .ref a
def upV (K:Frag) (t:DV):TE:=fun σ H Q=>∃ F0 H0 P δ F Q',RepS K F0 H0 P δ σ F H∧t δ Q'∧∀ δ' F' H' v x,RepS K F0 H0 P δ' σ F' H'→Ex F F'→VwOk K σ F' v x→Q' δ' x→Q v H'
inductive View (K:Frag) (F H:Hp):V→D→Prop
  | flat {v d}:Rep K F v d→Ex F H→View K F H v d
  | lst {a vs ds}:H a=some (.lst vs)→RepL K F vs ds→View K F H (.ref a) (.lst ds)
  | dk {a ws kvs}:H a=some (.dK ws)→RepK K F ws kvs→View K F H (.ref a) (.dk kvs)
  | dt {a ws kvs}:H a=some (.dT ws)→RepT K F ws kvs→View K F H (.ref a) (.dt kvs)
  | ins {a C dx ws fs}:H a=some (.ins C dx ws)→RepF K F ws fs→View K F H (.ref a) (.ins C fs)
theorem OwnAt.view {K:Frag} {F H:Hp} {a:Addr} {o:O} (h:OwnAt K F H a o):View K F H (.ref a) o.d:=by
  cases o with
  | lst ds=>obtain ⟨vs,h1,h2⟩:=h; exact .lst h1 h2
  | dk ds=>obtain ⟨vs,h1,h2⟩:=h; exact .dk h1 h2
  | dt ds=>obtain ⟨vs,h1,h2⟩:=h; exact .dt h1 h2
  | ins C fs=>obtain ⟨vs,h1,h2⟩:=h; exact .ins h1 h2
theorem zlq {κ α:Type} [DecidableEq κ]:∀ {t:List (κ×α)} {k:κ} {v:α},valG t k=some v→(k,v)∈t
  | q :: t,k,v,h=>by
    by_cases e:q.1=k
    · have:valG (q :: t) k=some q.2:=by simp [valG,e]
      rw [this] at h; cases h; subst e; exact List.mem_cons_self
    · have:valG (q :: t) k=valG t k:=by simp [valG,e]
      rw [this] at h; exact List.mem_cons_of_mem _ (zlq h)
theorem zx8 {δ:Dl} {W:Wl} (h:wlO δ=W) (n:W≠[]):δ[δ.length - 1]? = some (some (.wld W)):=by
  unfold wlO at h
  rw [List.getLast?_eq_getElem?] at h
  split at h
  · rename_i e; rw [e,h]
  · exact absurd h.symm n
theorem RepS.wl {K:Frag} {F0 H0 F H:Hp} {P:Pl} {δ:Dl} {σ:L2.St} (R:RepS K F0 H0 P δ σ F H) {a:Addr} {o:O} (h:(a,o)∈wlO δ):OwnAt K F H a o∧F a=none∧H0 a=none∧a ∉ pk P:=by
  have e:=zx8 (δ:=δ) rfl fun z=>by rw [z] at h; exact nomatch h
  obtain ⟨w,h1,hw⟩:=R.own
  obtain ⟨v,ev,_,q,_⟩:=hw _ _ e
  obtain ⟨q1,q2⟩:=q _ h
  obtain ⟨a1,a2,a3,a4⟩:=h1 _ _ q1
  exact ⟨q2,a2,a1,a4⟩
section
variable {K:Frag} {F0 H0 F H F1:Hp} {P:Pl} {δ:Dl} {σ:L2.St} {v:V} {x:Vw} {d:D}
theorem RepS.view (R:RepS K F0 H0 P δ σ F H) (ok:VwOk K σ F1 v x) (e:Ex F1 F) (h:vwD δ x=some d):View K F H v d:=by
  cases x with
  | inr d'=>cases h; exact .flat (Rep.mono e ok) R.e3
  | inl i =>
    unfold vwD at h
    simp only at h
    split at h
    · rename_i o eo
      cases h
      obtain ⟨a,ea,q,_⟩:=R.ownd eo
      have ok':σ[i]? = some (some v):=ok
      rw [ok'] at ea; cases ea
      exact q.view
    · cases h
  | cel a =>
    obtain rfl:v = .ref a:=ok
    obtain ⟨o,e1,rfl⟩:=Option.map_eq_some_iff.mp h
    exact (R.wl (zlq e1)).1.view
theorem View.lst' {ds:List D} (h:View K F H v (.lst ds)):∃ a vs,v = .ref a∧Rd H a (.lst vs)∧RepL K F vs ds:=by
  cases h with
  | flat r e=>cases r with | lst h r=>exact ⟨_,_,rfl,.inr ⟨_,e _ _ h⟩,r⟩
  | lst h r=>exact ⟨_,_,rfl,.inl h,r⟩
theorem View.scr' {ns:List Int} (h:View K F H v (.scr ns)):∃ a,v = .ref a∧SqL K H a (ns.map V.int):=by
  cases h with
  | flat r e=>cases r with | scr h=>exact ⟨_,rfl,e.sql h⟩
theorem View.tup' {ds:List D} (h:View K F H v (.tup ds)):∃ a vs,v = .ref a∧H a=some (.tup vs)∧RepL K F vs ds:=by
  cases h with
  | flat r e=>cases r with | tup h r=>exact ⟨_,_,rfl,e _ _ h,r⟩
theorem View.dk' {kvs:List (Key×D)} (h:View K F H v (.dk kvs)):∃ a ws,v = .ref a∧Rd H a (.dK ws)∧RepG K F ws kvs:=by
  cases h with
  | flat r e=>cases r with | dk h r=>exact ⟨_,_,rfl,.inr ⟨_,e _ _ h⟩,r.g⟩
  | dk h r=>exact ⟨_,_,rfl,.inl h,r.g⟩
theorem View.dt' {kvs:List (List Key×D)} (h:View K F H v (.dt kvs)):∃ a ws,v = .ref a∧Rd H a (.dT ws)∧RepG K F ws kvs:=by
  cases h with
  | flat r e=>cases r with | dt h r=>exact ⟨_,_,rfl,.inr ⟨_,e _ _ h⟩,r.g⟩
  | dt h r=>exact ⟨_,_,rfl,.inl h,r.g⟩
theorem View.str' {z:Str} (h:View K F H v (.str z)):v = .str z:=by
  cases h with
  | flat r e=>cases r; rfl
theorem zhz {F:Hp} {v:V} {d:D} {k:List Key} (r:Rep K F v d) (h:tkey d=some k):∃ b,v = .ref b∧F b=some (.tup (k.map kV)):=by
  cases r with
  | tup h1 rs=>exact ⟨_,rfl,by rw [h1,znv rs h]⟩
  | _=>simp [tkey] at h
inductive DLook:D→D→Option D→Prop
  | k {kvs kd k}:dkey kd=some k→DLook (.dk kvs) kd (valG kvs k)
  | t {kvs kd k}:tkey kd=some k→DLook (.dt kvs) kd (valG kvs k)
theorem View.dget {kd:D} {r:Option D} {y:V} (h:View K F H v d) (ry:Rep K F y kd) (e:Ex F H) (l:DLook d kd r):∃ a o,v = .ref a∧DGet H a y o∧(∀ x,r=some x→∃ u,o=some u∧Rep K F u x)∧(r=none→o=none):=by
  cases l with
  | @k kvs _ k hk =>
    obtain ⟨a,ws,rfl,hd,rg⟩:=h.dk'
    refine ⟨a,_,rfl,.inl ⟨ws,k,hd,ye ry hk,rfl⟩,fun x hx=>?_,fun hx=>?_⟩
    · rcases rg.val k with ⟨u,d',e1,e2,r⟩ | ⟨e1,e2⟩
      · rw [hx] at e2; cases e2; exact ⟨u,e1,r⟩
      · rw [hx] at e2; cases e2
    · rcases rg.val k with ⟨u,d',e1,e2,r⟩ | ⟨e1,e2⟩
      · rw [hx] at e2; cases e2
      · exact e1
  | @t kvs _ k hk =>
    obtain ⟨a,ws,rfl,hd,rg⟩:=h.dt'
    obtain ⟨b,rfl,hb⟩:=zhz ry hk
    refine ⟨a,_,rfl,.inr ⟨ws,k,b,hd,rfl,e _ _ hb,rfl⟩,fun x hx=>?_,fun hx=>?_⟩
    · rcases rg.val k with ⟨u,d',e1,e2,r⟩ | ⟨e1,e2⟩
      · rw [hx] at e2; cases e2; exact ⟨u,e1,r⟩
      · rw [hx] at e2; cases e2
    · rcases rg.val k with ⟨u,d',e1,e2,r⟩ | ⟨e1,e2⟩
      · rw [hx] at e2; cases e2
      · exact e1
end
section
variable {X:Cx} {K:Frag} {e a b c o:Expr} {es:List Expr} {ta tb tc te tk tv:DE} {tw:DV} {st:Stmt} {rest body:List Stmt} {t u:DS} {ts:DA} {pos p apos cpos:Pos}
def dVV (i:Nat):DV:=fun δ Q=>match δ[i]? with
  | some (some (.fz d))=>Q δ (.inr d)
  | some (some (.own _))=>Q δ (.inl i)
  | _=>False
theorem zx9 {i:Nat} (h:PE X e (tVar i)):PE X e (upV K (dVV i)):=pimp h fun σ H Q ⟨F0,H0,P,δ,F,Q',R,ht,k⟩=>by
  unfold dVV at ht
  split at ht
  · rename_i d e1
    obtain ⟨v,ev,r⟩:=R.fz e1
    exact ⟨v,ev,k δ F H v (.inr d) R (Ex.refl F) r ht⟩
  · rename_i o e1
    obtain ⟨a,ea,_⟩:=R.ownd e1
    exact ⟨_,ea,k δ F H _ (.inl i) R (Ex.refl F) ea ht⟩
  · exact ht.elim
theorem vdv (i:Nat) {x:Str} {pos:Pos} (hN:X.N[i]? = some x:=by rfl) (hv:Vis X.env.scope x:=by first | exact Or.inl rfl | exact Or.inr (Or.inl rfl) | exact Or.inr (Or.inr rfl)) (hd:(x == ("__debug__" : Str))=false:=by decide)
    (hcd:(x == ("__classdict__" : Str))=false:=by decide):PE X (.Name x pos) (upV K (dVV i)):=zx9 (pv i hN hv hd hcd)
def dVF (te:DE):DV:=fun δ Q=>te δ fun δ1 d=>Q δ1 (.inr d)
theorem vf (h:PE X e (upE K te)):PE X e (upV K (dVF te)):=pimp h fun σ H Q ⟨F0,H0,P,δ,F,Q',R,ht,k⟩ =>
  ⟨F0,H0,P,δ,F,_,R,ht,fun δ1 F1 H1 v d R1 e1 r q=>k δ1 F1 H1 v (.inr d) R1 e1 r q⟩
def d2V (g:D→D→(D→Prop)→Prop) (tw:DV) (tb:DE):DE:=fun δ Q=>tw δ fun δ1 x=>tb δ1 fun δ2 y=>∃ d,vwD δ2 x=some d∧g d y fun r=>Q δ2 r
def Op2V (K:Frag) (r:R2) (g:D→D→(D→Prop)→Prop):Prop :=
  ∀ (x y:V) (F H:Hp) (dx dy:D) (Q:VK) (Q':D→Prop),View K F H x dx→Rep K F y dy→Ex F H→g dx dy Q'→(∀ v d,Rep K F v d→Q' d→Q v H)→r x y H Q
theorem up2V {r:R2} {g:D→D→(D→Prop)→Prop} (ho:Op2V K r g) {σ:L2.St} {H:Hp} {Q:VK} (h:upE K (d2V g tw tb) σ H Q):tOp r (upV K tw) (upE K tb) σ H Q:=by
  obtain ⟨F0,H0,P,δ,F,Q',R,ht,k⟩:=h
  refine ⟨F0,H0,P,δ,F,_,R,ht,fun δ1 F1 H1 x vx R1 e1 rx ht=>?_⟩
  refine ⟨F0,H0,P,δ1,F1,_,R1,ht,fun δ2 F2 H2 y dy R2 e2 ry ⟨d,hd,ht⟩=>?_⟩
  exact ho x y F2 H2 d dy Q _ (R2.view rx e2 hd) ry R2.e3 ht fun v d rv q=>k δ2 F2 H2 v d R2 (e1.trans e2) rv q
def d2W (g:D→D→(D→Prop)→Prop) (ta:DE) (tw:DV):DE:=fun δ Q=>ta δ fun δ1 y=>tw δ1 fun δ2 x=>∃ d,vwD δ2 x=some d∧g y d fun r=>Q δ2 r
def Op2W (K:Frag) (r:R2) (g:D→D→(D→Prop)→Prop):Prop :=
  ∀ (x y:V) (F H:Hp) (dx dy:D) (Q:VK) (Q':D→Prop),Rep K F x dx→View K F H y dy→Ex F H→g dx dy Q'→(∀ v d,Rep K F v d→Q' d→Q v H)→r x y H Q
theorem up2W {r:R2} {g:D→D→(D→Prop)→Prop} (ho:Op2W K r g) {σ:L2.St} {H:Hp} {Q:VK} (h:upE K (d2W g ta tw) σ H Q):tOp r (upE K ta) (upV K tw) σ H Q:=by
  obtain ⟨F0,H0,P,δ,F,Q',R,ht,k⟩:=h
  refine ⟨F0,H0,P,δ,F,_,R,ht,fun δ1 F1 H1 x dx R1 e1 rx ht=>?_⟩
  refine ⟨F0,H0,P,δ1,F1,_,R1,ht,fun δ2 F2 H2 y vy R2 e2 ry ⟨d,hd,ht⟩=>?_⟩
  exact ho x y F2 H2 dx d Q _ (rx.mono e2) (R2.view ry (Ex.refl F2) hd) R2.e3 ht fun v d rv q=>k δ2 F2 H2 v d R2 (e1.trans e2) rv q
def gIx:D→D→(D→Prop)→Prop
  | .scr ns,.int i,Q=>∃ z,atI ns i=some z∧Q (.int z)
  | .lst ds,.int i,Q=>∃ d,atI ds i=some d∧Q d
  | .tup ds,.int i,Q=>∃ d,atI ds i=some d∧Q d
  | .str z,.int i,Q=>∃ c,z.length≤sizeLine∧atI z.cps.toList i=some c∧Q (.str ⟨#[c]⟩)
  | .dk kvs,kd,Q=>∃ k d,dkey kd=some k∧valG kvs k=some d∧Q d
  | .dt kvs,kd,Q=>∃ k d,tkey kd=some k∧valG kvs k=some d∧Q d
  | _,_,_=>False
def rIxD:R2:=fun x y H Q=>∃ a v,x = .ref a∧DGet H a y (some v)∧Q v H
theorem zp8 (hu:X.A.units + 1 < cLine):IxR X rIxD:=by
  intro value slice pins s σ H x y v u Q I rx ry ⟨a,z,e,g,q⟩ hs
  subst e
  cases rx
  exact tail_any (dict_typeIs I g) PySem.F.slot_dict_getitem.lookup (d_getItem hu I g ry fun w' s3 I3 rw'=>⟨z,H,I3,rw',q⟩) hs
theorem zp9 {F:Hp} {vs:List V} {ds:List D} {i:Int} {d:D} (r:RepL K F vs ds) (h:atI ds i=some d):∃ v,atI vs i=some v∧Rep K F v d:=by
  unfold atI at h ⊢
  rw [r.length]
  cases e:ixN ds.length i with
  | none=>rw [e] at h; cases h
  | some j=>rw [e] at h; exact r.get h
theorem zzs:Op2V K (fun x y H Q=>(rIxL K x y H Q∨rIxT K x y H Q∨rIxS x y H Q)∨rIxD x y H Q) gIx:=by
  intro x y F H dx dy Q Q' rx ry ex g k
  unfold gIx at g
  split at g
  · obtain ⟨z,hz,g⟩:=g
    cases ry
    obtain ⟨a,rfl,hs⟩:=rx.scr'
    have hv:∀ (ns:List Int) (i:Int),atI ns i=some z→atI (ns.map V.int) i=some (V.int z):=fun ns i h=>by
      unfold atI at h ⊢
      rw [List.length_map]
      cases e:ixN ns.length i with
      | none=>rw [e] at h; cases h
      | some j =>
        rw [e] at h
        have h':ns[j]? = some z:=h
        show (ns.map V.int)[j]? = _
        rw [List.getElem?_map,h']; rfl
    exact .inl (.inl ⟨_,_,_,_,rfl,rfl,hs,hv _ _ hz,k _ _ (.int _) g⟩)
  · obtain ⟨d,hd,g⟩:=g
    cases ry
    obtain ⟨a,vs,rfl,hs,rs⟩:=rx.lst'
    obtain ⟨v,hv,rv⟩:=zp9 rs hd
    exact .inl (.inl ⟨_,_,_,_,rfl,rfl,.inl hs,hv,k _ _ rv g⟩)
  · obtain ⟨d,hd,g⟩:=g
    cases ry
    obtain ⟨a,vs,rfl,hs,rs⟩:=rx.tup'
    obtain ⟨v,hv,rv⟩:=zp9 rs hd
    exact .inl (.inr (.inl ⟨_,_,_,_,rfl,rfl,.inl (.inl hs),hv,k _ _ rv g⟩))
  · obtain ⟨c,hl,hc,g⟩:=g
    cases ry
    cases rx.str'
    exact .inl (.inr (.inr ⟨_,_,_,rfl,rfl,hl,hc,k _ _ (.str _) g⟩))
  · obtain ⟨kk,d,hk,hd,g⟩:=g
    obtain ⟨a,o,rfl,dg,h1,_⟩:=rx.dget ry ex (.k hk)
    obtain ⟨u,rfl,ru⟩:=h1 d hd
    exact .inr ⟨_,_,rfl,dg,k _ _ ru g⟩
  · obtain ⟨kk,d,hk,hd,g⟩:=g
    obtain ⟨a,o,rfl,dg,h1,_⟩:=rx.dget ry ex (.t hk)
    obtain ⟨u,rfl,ru⟩:=h1 d hd
    exact .inr ⟨_,_,rfl,dg,k _ _ ru g⟩
  · exact g.elim
theorem qj (hu:X.A.units + 1 < cLine) (ha:PE X a (upV K tw)) (hb:PE X b (upE K tb)) (hs:PlainIx b:=by exact fun _ _=>rfl) (hK:X.K=K:=by rfl):PE X (.Subscript a b pos) (upE K (d2V gIx tw tb)):=by
  subst hK
  have h:IxR X (fun x y H Q=>(rIxL X.K x y H Q∨rIxT X.K x y H Q∨rIxS x y H Q)∨rIxD x y H Q):=ix_seq.or (zp8 hu)
  exact pimp (pe_ix h ha hb hs) fun _ _ _ q=>up2V zzs q
def zck:D→Option V
  | .non=>some .non | .bl b=>some (.bl b) | .int i=>some (.int i) | .str s=>some (.str s)
  | _=>none
def uh:List D→Option (List V)
  | []=>some []
  | d :: ds=>match zck d,uh ds with
    | some v,some vs=>some (v :: vs)
    | _,_=>none
theorem zcy {F:Hp} {v u:V} {d:D} (r:Rep K F v d) (h:zck d=some u):v=u∧flatV v=true:=by
  cases r <;> simp [zck] at h <;> subst h <;> exact ⟨rfl,rfl⟩
theorem zdg {F:Hp}:∀ {vs:List V} {ds:List D} {us:List V},RepL K F vs ds→uh ds=some us→vs=us∧vs.all flatV=true
  | _,_,us,.nil,h=>by simp [uh] at h; subst h; exact ⟨rfl,rfl⟩
  | _,_,us,.cons r t,h=>by
    unfold uh at h
    split at h
    · rename_i v vs e1 e2
      cases h
      obtain ⟨h1,h2⟩:=zcy r e1
      obtain ⟨h3,h4⟩:=zdg t e2
      subst h1 h3
      exact ⟨rfl,by simp [h2,h4]⟩
    · cases h
def gInB (neg:Bool):D→D→(D→Prop)→Prop
  | kd,.lst ds,Q=>∃ v vs,zck kd=some v∧uh ds=some vs∧Q (.bl (if neg then !inV v vs else inV v vs))
  | kd,.tup ds,Q=>∃ v vs,zck kd=some v∧uh ds=some vs∧Q (.bl (if neg then !inV v vs else inV v vs))
  | .str x,.str z,Q=>∃ c,x=⟨#[c]⟩∧Q (.bl (if neg then !decide (c∈z.cps.toList) else decide (c∈z.cps.toList)))
  | kd,.dk kvs,Q=>∃ k,dkey kd=some k∧Q (.bl (if neg then !(valG kvs k).isSome else (valG kvs k).isSome))
  | kd,.dt kvs,Q=>∃ k,tkey kd=some k∧Q (.bl (if neg then !(valG kvs k).isSome else (valG kvs k).isSome))
  | _,_,_=>False
def rDIn (neg:Bool):R2:=fun y x H Q=>∃ a o,x = .ref a∧DGet H a y o∧Q (.bl (if neg then !o.isSome else o.isSome)) H
def rSgn (neg:Bool):R2:=fun x y H Q=>∃ (c:Nat) (z:Str),x = .str ⟨#[c]⟩∧y = .str z∧Q (.bl (if neg then !decide (c∈z.cps.toList) else decide (c∈z.cps.toList))) H
theorem zrh (hu:X.A.units + 1 < cLine):OpR X (compareOp .In) (rDIn false):=by
  intro pins s σ H x y v u Q I rx ry ⟨a,o,e,g,q⟩
  subst e
  cases ry
  exact d_in hu I g rx fun s3 I3=>⟨.bl _,H,I3,rfl,q⟩
theorem zps (hu:X.A.units + 1 < cLine):OpR X (compareOp .NotIn) (rDIn true):=by
  intro pins s σ H x y v u Q I rx ry ⟨a,o,e,g,q⟩
  subst e
  cases ry
  exact d_notIn hu I g rx fun s3 I3=>⟨.bl _,H,I3,rfl,q⟩
theorem zi0 (neg:Bool):Op2W K (fun x y H Q=>rIn K neg x y H Q∨rSgn neg x y H Q∨rDIn neg x y H Q) (gInB neg):=by
  intro x y F H dx dy Q Q' rx ry ex g k
  unfold gInB at g
  split at g
  · obtain ⟨v,vs,h1,h2,g⟩:=g
    obtain ⟨a,ws,rfl,hs,rs⟩:=ry.lst'
    obtain ⟨e1,f1⟩:=zcy rx h1
    obtain ⟨e2,f2⟩:=zdg rs h2
    subst e1 e2
    exact .inl ⟨_,_,rfl,.inl (.inl hs),f1,f2,k _ _ (.bl _) g⟩
  · obtain ⟨v,vs,h1,h2,g⟩:=g
    obtain ⟨a,ws,rfl,hs,rs⟩:=ry.tup'
    obtain ⟨e1,f1⟩:=zcy rx h1
    obtain ⟨e2,f2⟩:=zdg rs h2
    subst e1 e2
    exact .inl ⟨_,_,rfl,.inr (.inl (.inl hs)),f1,f2,k _ _ (.bl _) g⟩
  · obtain ⟨c,h1,g⟩:=g
    subst h1
    cases rx
    cases ry.str'
    exact .inr (.inl ⟨c,_,rfl,rfl,k _ _ (.bl _) g⟩)
  · obtain ⟨kk,h1,g⟩:=g
    rename_i kvs
    obtain ⟨a,o,rfl,dg,q1,q2⟩:=ry.dget rx ex (.k h1)
    refine .inr (.inr ⟨a,o,rfl,dg,?_⟩)
    have e:o.isSome=(valG kvs kk).isSome:=by
      cases hv:valG kvs kk with
      | none=>rw [q2 hv]; rfl
      | some z=>obtain ⟨u,rfl,_⟩:=q1 z hv; rfl
    rw [e]
    exact k _ _ (.bl _) g
  · obtain ⟨kk,h1,g⟩:=g
    rename_i kvs
    obtain ⟨a,o,rfl,dg,q1,q2⟩:=ry.dget rx ex (.t h1)
    refine .inr (.inr ⟨a,o,rfl,dg,?_⟩)
    have e:o.isSome=(valG kvs kk).isSome:=by
      cases hv:valG kvs kk with
      | none=>rw [q2 hv]; rfl
      | some z=>obtain ⟨u,rfl,_⟩:=q1 z hv; rfl
    rw [e]
    exact k _ _ (.bl _) g
  · exact g.elim
theorem znx (hu:X.A.units + 1 < cLine):OpR X (compareOp .In) (fun x y H Q=>rIn X.K false x y H Q∨rSgn false x y H Q∨rDIn false x y H Q) :=
  op_in_seq.or (OpR.or (r:=rSgn false) op_in_sign (zrh hu))
theorem zg5 (hu:X.A.units + 1 < cLine):OpR X (compareOp .NotIn) (fun x y H Q=>rIn X.K true x y H Q∨rSgn true x y H Q∨rDIn true x y H Q) :=
  op_notIn_seq.or (OpR.or (r:=rSgn true) op_notIn_sign (zps hu))
theorem zzt (hu:X.A.units + 1 < cLine) (ha:PE X a (upE K ta)) (hb:PE X b (upV K tw)) (hm:behindInMarks .In b=false:=by rfl) (hK:X.K=K:=by rfl):PE X (.Compare a [.In] [b] pos) (upE K (d2W (gInB false) ta tw)):=by
  subst hK
  exact pimp (pe_cmpR (znx hu) ha hb hm) fun _ _ _ q=>up2W (zi0 false) q
theorem qt_w {op:CmpOp} {r:R2} {g:D→D→(D→Prop)→Prop} (hr:OpR X (compareOp op) r) (ho:Op2W K r g) (ha:PE X a (upE K ta)) (hb:PE X b (upV K tw)) (hm:behindInMarks op b=false):PT X (.Compare a [op] [b] pos) (upT K (dTst (d2W g ta tw))) :=
  zne (pt_cmpR hr ha hb hm) fun σ H Q ⟨F0,H0,P,δ,F,Q',R,ht,k⟩=>by
    refine ⟨F0,H0,P,δ,F,_,R,ht,fun δ1 F1 H1 x dx R1 e1 rx ht=>?_⟩
    refine ⟨F0,H0,P,δ1,F1,_,R1,ht,fun δ2 F2 H2 y vy R2 e2 ry ⟨d,hd,ht⟩=>?_⟩
    refine ho x y F2 H2 dx d _ _ (rx.mono e2) (R2.view ry (Ex.refl F2) hd) R2.e3 ht fun v d rv ⟨q,e,ht⟩=>?_
    subst e
    cases rv
    exact ⟨q,rfl,k δ2 F2 H2 _ R2 (e1.trans e2) ht⟩
theorem zg6 (hu:X.A.units + 1 < cLine) (ha:PE X a (upE K ta)) (hb:PE X b (upV K tw)) (hm:behindInMarks .In b=false:=by rfl) (hK:X.K=K:=by rfl):PT X (.Compare a [.In] [b] pos) (upT K (dTst (d2W (gInB false) ta tw))):=by
  subst hK
  exact qt_w (znx hu) (zi0 false) ha hb hm
theorem zya (hu:X.A.units + 1 < cLine) (ha:PE X a (upE K ta)) (hb:PE X b (upV K tw)) (hm:behindInMarks .NotIn b=false:=by rfl) (hK:X.K=K:=by rfl):PT X (.Compare a [.NotIn] [b] pos) (upT K (dTst (d2W (gInB true) ta tw))):=by
  subst hK
  exact qt_w (zg5 hu) (zi0 true) ha hb hm
def d1V (g:D→(D→Prop)→Prop) (tw:DV):DE:=fun δ Q=>tw δ fun δ1 x=>∃ d,vwD δ1 x=some d∧g d fun r=>Q δ1 r
def gLen:D→(D→Prop)→Prop:=fun d Q=>match d with
  | .lst ds=>Q (.int ds.length)
  | .scr ns=>Q (.int ns.length)
  | .tup ds=>Q (.int ds.length)
  | .str z=>z.length≤sizeLine∧Q (.int z.length)
  | .dk kvs=>Q (.int kvs.length)
  | _=>False
theorem zri:CallR X (.builtin "len") (fun xs H Q=>∃ a kvs,xs=[V.ref a]∧Rd H a (.dK kvs)∧Q (.int kvs.length) H):=by
  intro pins s σ H xs us Q I r h
  obtain ⟨a,kvs,rfl,ha,q⟩:=h
  obtain ⟨u,rfl,ru⟩:=vals1 r
  cases ru
  exact d_len I ha fun t s' I'=>⟨.int kvs.length,H,I',⟨t,rfl⟩,q⟩
theorem ym (hg:Gl X "len") (hm:X.mg "len" = none) (ha:PE X a (upV K tw)) (hK:X.K=K:=by rfl) (hs:starEach [a] X.env=(false,eval a X.env) :: starEach [] X.env:=by rfl) (hpl:(backTo pos (starEach [] X.env)).any (·.1)=false:=by rfl) :
    PE X (.Call (.Name "len" p) [a] [] pos) (upE K (d1V gLen tw)):=by
  subst hK
  refine pimp (pe_callB ((call_len_seq).or (call_len_str.or zri)) hg hm PySem.boot_len (pa_cons ha pa_nil hs) (by decide) (by decide) hs hpl) fun σ H Q ⟨F0,H0,P,δ,F,Q',R,ht,k⟩=>?_
  refine ⟨F0,H0,P,δ,F,_,R,ht,fun δ1 F1 H1 v x R1 e1 ok ⟨d,hd,g⟩=>?_⟩
  have vw:=R1.view ok (Ex.refl F1) hd
  unfold gLen at g
  split at g
  · obtain ⟨a,vs,rfl,hs,rs⟩:=vw.lst'
    exact .inl ⟨a,vs,rfl,.inl (.inl hs),k _ _ _ _ _ R1 e1 (by rw [rs.length]; exact .int _) g⟩
  · obtain ⟨a,rfl,hs⟩:=vw.scr'
    exact .inl ⟨a,_,rfl,.inl hs,k _ _ _ _ _ R1 e1 (by rw [List.length_map]; exact .int _) g⟩
  · obtain ⟨a,vs,rfl,hs,rs⟩:=vw.tup'
    exact .inl ⟨a,vs,rfl,.inr (.inl (.inl hs)),k _ _ _ _ _ R1 e1 (by rw [rs.length]; exact .int _) g⟩
  · cases vw.str'
    exact .inr (.inl ⟨_,rfl,g.1,k _ _ _ _ _ R1 e1 (.int _) g.2⟩)
  · obtain ⟨a,ws,rfl,hs,rs⟩:=vw.dk'
    exact .inr (.inr ⟨a,ws,rfl,hs,k _ _ _ _ _ R1 e1 (by rw [rs.length]; exact .int _) g⟩)
  · exact g.elim
abbrev DP:=Dl→(Dl→Option Int→Prop)→Prop
end
section
variable {K:Frag} {F0 H0 F H F' H':Hp} {P:Pl} {δ:Dl} {σ:L2.St} {p:Addr}
theorem RepS.growP (R:RepS K F0 H0 P δ σ F H) (G:Grown F H F' H') {ho:HO} (h1:H p=none) (h2:H' p=some ho) (h3:F' p=none):RepS K F0 H0 ((p,ho) :: P) δ σ F' H'∧p ∉ pk P:=by
  have R1:=R.grow G.e1 G.e2 G.e3 G.fr G.tp
  have hP:=R.fresh h1
  refine ⟨?_,hP⟩
  obtain ⟨w,a1,hw⟩:=R.own
  have keep:∀ a,F a=none→H a≠none→F' a=none:=fun a h1 h2=>by
    cases q:F' a with
    | none=>rfl
    | some o =>
      rcases G.fr a o q with z | z
      · rw [h1] at z; cases z
      · exact absurd z h2
  refine ⟨R1.e1,R1.e2,R1.e3,R1.fr,R1.tp,R1.len,⟨w,fun a i e=>?_,fun i s e=>?_⟩,R.low,fun q ho' hq=>?_⟩
  · obtain ⟨b1,b2,b3,b4⟩:=a1 a i e
    have ne:a≠p:=fun z=>b3 (z ▸ h1)
    exact ⟨b1,keep a b2 b3,G.e2.sm b3,by simpa [pk,ne] using b4⟩
  · obtain ⟨v,ev,q⟩:=hw i s e
    refine ⟨v,ev,q.keep G.e1 fun a ew=>⟨ew,fun nn=>?_⟩⟩
    cases hh:H a with
    | none=>exact absurd hh nn
    | some ho=>exact G.e2 _ _ hh
  · rcases List.mem_cons.mp hq with e | hq
    · cases e; exact ⟨R.e2.nn h1,h3,h2⟩
    · exact R1.rsv q ho' hq
end
abbrev DSp:=List D→(S→Prop)→Prop
def spD (K:Frag) (n:Nat) (sp:DSp):Sp:=fun vs H Q _=>∃ F ds Q',Ex F H∧Tp F H∧Low F∧RepL K F vs ds∧ds.length=n∧sp ds Q'∧∀ F' H' v r,Grown F H F' H'→zrf K H F' H' v r→Q' r→Q v H'
def zp (n:Nat) (ds:List D):Dl:=ds.map (fun d=>some (S.fz d))++List.replicate (n - ds.length) none
section
variable {P:Program} {w:World} {K:Frag} {mg:Str→Option Value} {base:Heap}
theorem zf4 {N:List Str} {vs:List V} {ds:List D} {F H:Hp} (e:Ex F H) (tp:Tp F H) (lo:Low F) (r:RepL K F vs ds):RepS K F H [] (zp N.length ds) (L2.start N vs) F H:=by
  refine ⟨Ex.refl F,Ex.refl H,e,fun a o h=>.inl h,tp,?_,⟨fun _=>none,⟨fun _ _ h=>(nomatch h),fun i s h=>?_⟩⟩,lo,fun _ _ h=>nomatch h⟩
  · simp [zp,L2.start,r.length]
  · unfold zp at h
    unfold L2.start
    by_cases hi:i < ds.length
    · rw [List.getElem?_append_left (by simpa using hi),List.getElem?_map] at h
      cases hd:ds[i]? with
      | none=>rw [hd] at h; simp at h
      | some d =>
        rw [hd] at h
        simp at h
        subst h
        obtain ⟨v,hv,rv⟩:=r.get hd
        refine ⟨v,?_,rv⟩
        rw [List.getElem?_append_left (by simp [r.length]; exact hi),List.getElem?_map,hv]; rfl
    · rw [List.getElem?_append_right (by simpa using hi)] at h
      have:=List.mem_of_getElem? h
      simp at this
theorem okD {x qual:Str} {st:Stmt} {f:Addr} {fd:FuncData} {N ps:List Str} {k:Nat} {sp:DSp} (Fn:Fun K x qual st f fd) (S':FnScope N ps (defScope st))
    (hbody:∀ (cdv:Value) (A:Around) (outer:List Env) (s:Shared) (H:Hp) (E:XK),Room k (A.deeper (envOfC qual (defScope st) s.heap.objs.size f cdv)) →
      ∃ t,PSs (cxOf CX0 P w K mg base N qual (defScope st) f cdv A outer s H E).nox (defBody st) (upS K t)∧∀ ds Q',ds.length=ps.length→sp ds Q'→t { nx:=fun _=>Q' (.fz .non),rt:=Q' } (zp N.length ds)):FnOk P w K mg base CX0 (k + 1) f fd ps (spD K ps.length sp):=by
  refine Fn.ok S' (fun vs H Q E h=>?_) (fun cdv A outer s H vs Q E hr h=>?_)
  · obtain ⟨F,ds,Q',_,_,_,r,l,_⟩:=h
    rw [r.length,l]
  · obtain ⟨F,ds,Q',e,tp,lo,r,l,hs,k'⟩:=h
    obtain ⟨t,ht,hq⟩:=hbody cdv A outer s H E hr
    refine ⟨_,ht,F,H,zp N.length ds,F,_,⟨zf4 e tp lo r,hq ds Q' l hs,fun δ' σ' F' H' R _ q=>?_,fun _ _ _ _ _ _ q=>q.elim,fun _ _ _ _ _ _ q=>q.elim,fun F' H' v r G ok q=>k' F' H' v r G ok q⟩⟩
    exact k' F' H' .non (.fz .non) R.grown .non q
end
section
variable {X:Cx} {K:Frag} {e a b c o:Expr} {es:List Expr} {ta tb tc te tk tv:DE} {tw:DV} {st:Stmt} {rest body:List Stmt} {t u:DS} {ts:DA} {tA:DT} {pos p apos cpos:Pos}
def dCall (n:Nat) (sp:DSp) (ts:DA):DE:=fun δ Q=>ts δ fun δ1 ds=>ds.length=n∧sp ds fun r=>Q δ1 r.d
def zi1 (n:Nat) (sp:DSp) (ts:DA):DOw:=fun δ Q=>ts δ fun δ1 ds=>ds.length=n∧sp ds fun r=>∃ o,r = .own o∧Q δ1 o
theorem xm {n:Nat} {sp:DSp} {E:XK} (h:PE X e (tCall (spD K n sp) [] E (upA K ts))):PE X e (upE K (dCall n sp ts)):=pimp (zew h) fun σ H Q ⟨F0,H0,P,δ,F,Q',R,ht,k⟩=>by
  refine ⟨F0,H0,P,δ,F,_,R,ht,fun δ1 F1 H1 vs ds R1 e1 rs ⟨hn,ht⟩=>?_⟩
  show spD K n sp (vs++[]) H1 _ E
  rw [List.append_nil]
  refine ⟨F1,ds,_,R1.e3,R1.tp,R1.low.mono R1.e1,rs,hn,ht,fun F2 H2 v r G ok q=>?_⟩
  induction r with
  | nk _=>exact ok.elim
  | nt _=>exact ok.elim
  | wld _=>exact ok.elim
  | rw s W ih=>exact ih ok.1 q
  | fz d=>exact .inl (k δ1 F2 H2 v d (R1.grow G.e1 G.e2 G.e3 G.fr G.tp) (e1.trans G.e1) ok q)
  | own o =>
    obtain ⟨a,rfl,h1,h3,oa⟩:=ok
    obtain ⟨ho,hh,mu,rp⟩:=oa.rep h3
    obtain ⟨R2,hP⟩:=R1.growP G h1 hh h3
    exact .inr ⟨a,ho,hh,mu,fun od=>k δ1 _ _ _ _ (R2.frzP hP _) ((e1.trans G.e1).trans (Ex.new h3)) (rp od) q⟩
theorem zsc {n:Nat} {sp:DSp} {E:XK} (h:PE X e (tCall (spD K n sp) [] E (upA K ts))):PE X e (upO K (zi1 n sp ts)):=pimp h fun σ H Q ⟨F0,H0,P,δ,F,Q',R,ht,k⟩=>by
  refine ⟨F0,H0,P,δ,F,_,R,ht,fun δ1 F1 H1 vs ds R1 e1 rs ⟨hn,ht⟩=>?_⟩
  show spD K n sp (vs++[]) H1 _ E
  rw [List.append_nil]
  refine ⟨F1,ds,_,R1.e3,R1.tp,R1.low.mono R1.e1,rs,hn,ht,fun F2 H2 v r G ok ⟨o,er,q⟩=>?_⟩
  subst er
  obtain ⟨a,rfl,h1,h3,oa⟩:=ok
  obtain ⟨ho,hh,mu,rp⟩:=oa.rep h3
  obtain ⟨R2,hP⟩:=R1.growP G h1 hh h3
  exact k δ1 F2 H2 a ho o R2 hP (e1.trans G.e1) oa q
def zf5 (c:DT) (tb:DS):DS:=fun D δ=>∃ W:Nat→Dl→Prop,(∃ m,W m δ)∧∀ m δ1,W m δ1→c δ1 fun δ2 b=>if b=true then tb { D with nx:=fun δ'=>∃ m',m' < m∧W m' δ',ct:=fun δ'=>∃ m',m' < m∧W m' δ',bk:=D.nx } δ2 else D.nx δ2
theorem zny {tb:DS} (hp:PassesOwn (model X.prog X.w) X.A X.env X.xe) (hc:PT X c (upT K tA)) (hb:PSs X body (upS K tb)):PS X (.While c body [] pos) (upS K (zf5 tA tb)):=jq (ps_while hp hc hb) fun D σ H ⟨F0,H0,δ,F,D',W⟩=>by
  obtain ⟨Wd,⟨m0,w0⟩,turn⟩:=W.t
  refine ⟨fun m σ2 H2=>∃ δ2 F2,RepS K F0 H0 [] δ2 σ2 F2 H2∧Ex F F2∧Wd m δ2,⟨m0,δ,F,W.rep,Ex.refl F,w0⟩,?_⟩
  rintro m σ2 H2 ⟨δ2,F2,R2,e2,w2⟩
  refine ⟨F0,H0,[],δ2,F2,_,R2,turn m δ2 w2,fun δ3 F3 H3 b R3 e3 ht=>?_⟩
  cases b with
  | true =>
    rw [if_pos rfl] at ht ⊢
    refine ⟨fun σ4 H4=>∃ m',m' < m∧∃ δ4 F4,RepS K F0 H0 [] δ4 σ4 F4 H4∧Ex F F4∧Wd m' δ4,fun σ4 H4 q=>q,F0,H0,δ3,F3,_,⟨R3,ht,fun δ5 σ5 F5 H5 R5 e5 ⟨m',hm,q⟩=>⟨m',hm,δ5,F5,R5,(e2.trans e3).trans e5,q⟩,fun δ5 σ5 F5 H5 R5 e5 q=>W.nx δ5 σ5 F5 H5 R5 ((e2.trans e3).trans e5) q,fun δ5 σ5 F5 H5 R5 e5 ⟨m',hm,q⟩=>⟨m',hm,δ5,F5,R5,(e2.trans e3).trans e5,q⟩,W.rt⟩⟩
  | false =>
    rw [if_neg (by decide)] at ht ⊢
    exact W.nx δ3 σ2 F3 H3 R3 (e2.trans e3) ht
def gIL:D→(List D→Prop)→Prop
  | .lst ds,Q=>Q ds
  | .scr ns,Q=>Q (ns.map D.int)
  | _,_=>False
def dIL (te:DE):DI:=fun δ Q=>te δ fun δ1 d=>gIL d (Q δ1)
def dIT (te:DE):DI:=fun δ Q=>te δ fun δ1 d=>∃ ds,d = .tup ds∧Q δ1 ds
theorem zqa {K:Frag} {F:Hp} {a:Addr} {vs:List V} {ds:List D} (hs:SqL K F a vs) (rs:RepL K F vs ds):WalkD K F (Itl K a) ds:=by
  refine ⟨fun i H hi ex=>?_,fun H ex=>⟨vs,ex.sql hs,by rw [rs.length]; exact Nat.le_refl _⟩,fun i d F2 H x H' hd x1 x2 _ ⟨eH,hx⟩=>?_⟩
  · obtain ⟨v,hv,_⟩:=rs.get (List.getElem?_eq_getElem hi)
    exact ⟨vs,v,ex.sql hs,hv⟩
  · subst eH
    obtain ⟨v,hv,rv⟩:=rs.get hd
    have:=hx vs ((x1.trans x2).sql hs)
    rw [hv] at this; cases this
    exact .plain (rv.mono x1)
theorem zbh {tg:Expr} (hl:PE X e (upE K te)) (hK:X.K=K:=by rfl):PI X tg e (upI K (dIL te)):=by
  subst hK
  refine iimp (pi_list hl) fun σ H R ⟨F0,H0,P,δ,F,Q',Rp,ht,k⟩=>?_
  refine ⟨F0,H0,P,δ,F,_,Rp,ht,fun δ1 F1 H1 v d R1 e1 r q=>?_⟩
  unfold gIL at q
  split at q
  · cases r with
    | @lst a od vs _ hs rs =>
      have hs:SqL X.K F1 a vs:=.inl (.inr ⟨_,hs⟩)
      exact ⟨a,rfl,⟨vs,R1.e3.sql hs⟩,k δ1 F1 H1 _ _ R1 e1 (zqa hs rs) q⟩
  · cases r with
    | @scr a ns hs=>exact ⟨a,rfl,⟨_,R1.e3.sql hs⟩,k δ1 F1 H1 _ _ R1 e1 (zqa hs (RepL.ints _)) q⟩
  · exact q.elim
theorem zeb {tg:Expr} (hl:PE X e (upE K te)) (hK:X.K=K:=by rfl):PI X tg e (upI K (dIT te)):=by
  subst hK
  refine iimp (pi_tup hl) fun σ H R ⟨F0,H0,P,δ,F,Q',Rp,ht,k⟩=>?_
  refine ⟨F0,H0,P,δ,F,_,Rp,ht,fun δ1 F1 H1 v d R1 e1 r ⟨ds,ed,q⟩=>?_⟩
  subst ed
  cases r with
  | @tup a vs _ hs rs =>
    have sq:∀ {H},Ex F1 H→SqT X.K H a vs:=fun ex=>.inl (.inl (ex _ _ hs))
    refine ⟨a,rfl,⟨vs,sq R1.e3⟩,k δ1 F1 H1 _ ds R1 e1 ?_ q⟩
    refine ⟨fun i H hi ex=>?_,fun H ex=>⟨vs,sq ex,by rw [rs.length]; exact Nat.le_refl _⟩,fun i d F2 H x H' hd x1 x2 _ ⟨eH,hx⟩=>?_⟩
    · obtain ⟨v,hv,_⟩:=rs.get (List.getElem?_eq_getElem hi)
      exact ⟨vs,v,sq ex,hv⟩
    · subst eH
      obtain ⟨v,hv,rv⟩:=rs.get hd
      have:=hx vs (sq (x1.trans x2))
      rw [hv] at this; cases this
      exact .plain (rv.mono x1)
def rngD (lo hi:Int):List D:=(List.range (hi - lo).toNat).map fun (i:Nat)=>D.int (lo + (i:Int))
theorem znz {F:Hp} {lo:Int} {n:Nat}:WalkD K F (Itr lo n) ((List.range n).map fun (i:Nat)=>D.int (lo + (i:Int))) where
  go:=fun i H hi _=>by show i < n; simpa using hi
  stop:=fun H _=>by show n≤_; simp
  yld:=fun i d F2 H x H' hd _ _ _ ⟨eH,ex⟩=>by
    subst eH ex
    simp only [List.getElem?_map] at hd
    by_cases h:i < n
    · rw [List.getElem?_range h] at hd
      simp at hd; subst hd
      exact .plain (.int _)
    · rw [List.getElem?_eq_none (by simpa using h)] at hd
      simp at hd
def dIR1 (ts:DA):DI:=fun δ Q=>ts δ fun δ1 ds=>∃ n:Int,ds=[.int n]∧(-(2 ^ 62)≤n∧n < 2 ^ 62)∧Q δ1 (rngD 0 n)
def dIR2 (ts:DA):DI:=fun δ Q=>ts δ fun δ1 ds=>∃ lo n:Int,ds=[.int lo,.int n]∧(-(2 ^ 62)≤lo∧lo < 2 ^ 62∧-(2 ^ 62)≤n∧n < 2 ^ 62)∧Q δ1 (rngD lo n)
theorem zkp {tg:Expr} (hg:Gl X "range") (hm:X.mg "range" = none) (ha:PA X [a] (upA K ts)) (hs:starEach [a] X.env=[(false,eval a X.env)]:=by rfl):PI X tg (.Call (.Name "range" p) [a] [] pos) (upI K (dIR1 ts)):=by
  refine iimp (pi_range1 hg hm ha hs) fun σ H R ⟨F0,H0,P,δ,F,Q',Rp,ht,k⟩=>?_
  refine ⟨F0,H0,P,δ,F,_,Rp,ht,fun δ1 F1 H1 vs ds R1 e1 rs ⟨n,ed,hn,q⟩=>?_⟩
  subst ed
  cases rs with
  | cons r t =>
    cases t
    cases r
    have e:rngD 0 n=(List.range n.toNat).map fun (i:Nat)=>D.int (0 + (i:Int)):=by simp [rngD]
    exact ⟨n,rfl,hn.1,hn.2,k δ1 F1 H1 _ _ R1 e1 (by rw [e]; exact znz) q⟩
theorem zwb {tg:Expr} (hg:Gl X "range") (hm:X.mg "range" = none) (ha:PA X [a,b] (upA K ts)) (hs:starEach [a,b] X.env=[(false,eval a X.env),(false,eval b X.env)]:=by rfl) (hs2:starEach [b] X.env=[(false,eval b X.env)]:=by rfl):PI X tg (.Call (.Name "range" p) [a,b] [] pos) (upI K (dIR2 ts)):=by
  refine iimp (pi_range2 hg hm ha hs hs2) fun σ H R ⟨F0,H0,P,δ,F,Q',Rp,ht,k⟩=>?_
  refine ⟨F0,H0,P,δ,F,_,Rp,ht,fun δ1 F1 H1 vs ds R1 e1 rs ⟨lo,n,ed,hn,q⟩=>?_⟩
  subst ed
  cases rs with
  | cons r t =>
    cases t with
    | cons r2 t =>
      cases t
      cases r; cases r2
      exact ⟨lo,n,rfl,hn,k δ1 F1 H1 _ _ R1 e1 znz q⟩
def dIKs (te:DE):DI:=fun δ Q=>te δ fun δ1 d=>match d with
  | .dk kvs=>Q δ1 (kvs.map fun kv=>keyD kv.1)
  | .dt kvs=>Q δ1 (kvs.map fun kv=>D.tup (kv.1.map keyD))
  | _=>False
theorem zg7 {tg:Expr} (hl:PE X e (upE K te)):PI X tg e (upI K (dIKs te)):=by
  refine iimp (pi_keys hl) fun σ H R ⟨F0,H0,P,δ,F,Q',Rp,ht,k⟩=>?_
  refine ⟨F0,H0,P,δ,F,_,Rp,ht,fun δ1 F1 H1 v d R1 e1 r q=>?_⟩
  cases r <;> try exact q.elim
  · rename_i a od ws kvs h rg
    · skip
      have rg:=rg.g
      refine ⟨a,od,rfl,.inl ⟨ws,R1.e3 _ _ h,k δ1 F1 H1 _ _ R1 e1 ⟨fun i H hi ex=>⟨ex _ _ h,by rw [rg.length]; simpa using hi⟩,fun H ex=>⟨ex _ _ h,by rw [rg.length]; simp⟩,fun i d F2 H x H' hd _ _ _ ⟨eH,kk,vv,hk,ex⟩=>?_⟩ q⟩⟩
      subst eH ex
      have hks:=rg.keys
      have:(ws.map (·.1))[i]? = some kk:=by rw [List.getElem?_map,hk]; rfl
      rw [hks,List.getElem?_map] at this
      rw [List.getElem?_map] at hd
      cases hz:kvs[i]? with
      | none=>rw [hz] at hd; simp at hd
      | some z =>
        rw [hz] at hd this
        simp at hd this
        subst this hd
        exact .plain (zko _)
  · rename_i a od ws kvs h rg
    · skip
      have rg:=rg.g
      refine ⟨a,od,rfl,.inr ⟨ws,R1.e3 _ _ h,k δ1 F1 H1 _ _ R1 e1 ⟨fun i H hi ex=>⟨ex _ _ h,by rw [rg.length]; simpa using hi⟩,fun H ex=>⟨ex _ _ h,by rw [rg.length]; simp⟩,fun i d F2 H x H' hd _ _ tp ⟨eH,kk,vv,q,hk,ex,hq⟩=>?_⟩ q⟩⟩
      subst eH ex
      have hks:=rg.keys
      have:(ws.map (·.1))[i]? = some kk:=by rw [List.getElem?_map,hk]; rfl
      rw [hks,List.getElem?_map] at this
      rw [List.getElem?_map] at hd
      cases hz:kvs[i]? with
      | none=>rw [hz] at hd; simp at hd
      | some z =>
        rw [hz] at hd this
        simp at hd this
        subst this hd
        exact .plain (.tup (tp _ _ hq) (zbf _))
def dIIt (te:DE):DI:=fun δ Q=>te δ fun δ1 d=>∃ kvs,d = .dk kvs∧Q δ1 (kvs.map fun kv=>D.tup [keyD kv.1,kv.2])
theorem zcz {elts:List Expr} {kk:Nat} {tpos:Pos} (hl:PE X e (upE K te)) (hbase:attributeBase e "items" X.env (eval e X.env)=eval e X.env:=by rfl) (hline:(apos.endLine == cpos.line)=true:=by rfl) :
    PI X (.Tuple elts kk tpos) (.Call (.Attribute e "items" apos) [] [] cpos) (upI K (dIIt te)):=by
  refine iimp (pi_items hl hbase hline) fun σ H R ⟨F0,H0,P,δ,F,Q',Rp,ht,k⟩=>?_
  refine ⟨F0,H0,P,δ,F,_,Rp,ht,fun δ1 F1 H1 v d R1 e1 r ⟨kvs,ed,q⟩=>?_⟩
  subst ed
  cases r with
  | @dk a od ws _ h rg =>
    have rg:=rg.g
    refine ⟨a,od,ws,rfl,R1.e3 _ _ h,k δ1 F1 H1 _ _ R1 e1 ⟨fun i H hi ex=>⟨ex _ _ h,by rw [rg.length]; simpa using hi⟩,fun H ex=>⟨ex _ _ h,by rw [rg.length]; simp⟩,fun i d F2 H x H' hd x1 _ _ ⟨T,kk,vv,hk,ex,hT,eH⟩=>?_⟩ q⟩
    subst eH ex
    rw [List.getElem?_map] at hd
    cases hz:kvs[i]? with
    | none=>rw [hz] at hd; simp at hd
    | some z =>
      obtain ⟨zk,zd⟩:=z
      rw [hz] at hd
      simp at hd
      subst hd
      obtain ⟨v,hv,rv⟩:=rg.get hz
      rw [hk] at hv; cases hv
      exact .pair hT (.cons (zko _) (.cons (rv.mono x1) .nil))
def dIEn (ts:DA):DI:=fun δ Q=>ts δ fun δ1 ds=>∃ xs,ds=[.lst xs]∧Q δ1 ((List.range xs.length).zip xs |>.map fun ix=>D.tup [.int (ix.1:Nat),ix.2])
theorem zec {elts:List Expr} {kk:Nat} {tpos:Pos} (hg:Gl X "enumerate") (hm:X.mg "enumerate" = none) (ha:PA X [e] (upA K ts)) (hs:starEach [e] X.env=[(false,eval e X.env)]:=by rfl) (hK:X.K=K:=by rfl) :
    PI X (.Tuple elts kk tpos) (.Call (.Name "enumerate" p) [e] [] pos) (upI K (dIEn ts)):=by
  subst hK
  refine iimp (pi_enum hg hm ha hs) fun σ H R ⟨F0,H0,P,δ,F,Q',Rp,ht,k⟩=>?_
  refine ⟨F0,H0,P,δ,F,_,Rp,ht,fun δ1 F1 H1 vs ds R1 e1 rs ⟨xs,ed,q⟩=>?_⟩
  subst ed
  cases rs with
  | cons r t =>
    cases t
    cases r with
    | @lst a od vs _ hs rs =>
      have hs:SqL X.K F1 a vs:=.inl (.inr ⟨_,hs⟩)
      refine ⟨a,vs,rfl,R1.e3.sql hs,k δ1 F1 H1 _ _ R1 e1 ⟨fun i H hi ex=>?_,fun H ex=>⟨vs,ex.sql hs,by rw [rs.length]; simp⟩,fun i d F2 H x H' hd x1 x2 _ ⟨T,y,ex,hT,eH,hx⟩=>?_⟩ q⟩
      · have hi:i < xs.length:=by simpa using hi
        obtain ⟨v,hv,_⟩:=rs.get (List.getElem?_eq_getElem hi)
        exact ⟨vs,v,ex.sql hs,hv⟩
      · subst eH ex
        have e:=hx vs ((x1.trans x2).sql hs)
        obtain ⟨z,hz,rz⟩:=rs.getV e
        have hi:i < xs.length:=(List.getElem?_eq_some_iff.mp hz).1
        have:((List.range xs.length).zip xs)[i]? = some (i,z):=by
          rw [List.getElem?_zip_eq_some]
          exact ⟨List.getElem?_range hi,hz⟩
        rw [List.getElem?_map,this] at hd
        simp at hd
        subst hd
        exact .pair hT (.cons (.int _) (.cons (rz.mono x1) .nil))
def zg8 (tw:DV) (tk:DE):DE:=fun δ Q=>tw δ fun δ1 x=>(∃ d,vwD δ1 x=some d∧((∃ kvs,d = .dk kvs)∨∃ kvs,d = .dt kvs))∧tk δ1 fun δ2 kd=>∃ d r,vwD δ2 x=some d∧DLook d kd r∧Q δ2 (r.getD .non)
def zi2 (tw:DV) (tk tx:DE):DE:=fun δ Q=>tw δ fun δ1 x=>(∃ d,vwD δ1 x=some d∧((∃ kvs,d = .dk kvs)∨∃ kvs,d = .dt kvs))∧tk δ1 fun δ2 kd=>tx δ2 fun δ3 xd=>∃ d r,vwD δ3 x=some d∧DLook d kd r∧Q δ3 (r.getD xd)
theorem View.isD {F H:Hp} {v:V} {d:D} (h:View K F H v d) (q:(∃ kvs,d = .dk kvs)∨∃ kvs,d = .dt kvs):∃ a,v = .ref a∧IsD H a:=by
  rcases q with ⟨kvs,rfl⟩ | ⟨kvs,rfl⟩
  · obtain ⟨a,ws,rfl,hd,_⟩:=h.dk'
    exact ⟨a,rfl,.inl ⟨ws,hd⟩⟩
  · obtain ⟨a,ws,rfl,hd,_⟩:=h.dt'
    exact ⟨a,rfl,.inr ⟨ws,hd⟩⟩
theorem zg9 (hu:X.A.units + 1 < cLine) (ho:PE X o (upV K tw)) (he:PE X e (upE K tk)) (m:M1 X o "get" apos e cpos:=by exact ⟨rfl,rfl,rfl,rfl⟩):PE X (.Call (.Attribute o "get" apos) [e] [] cpos) (upE K (zg8 tw tk)):=by
  refine pimp (pe_dget1 hu ho he m) fun σ H Q ⟨F0,H0,P,δ,F,Q',R,ht,k⟩=>?_
  refine ⟨F0,H0,P,δ,F,_,R,ht,fun δ1 F1 H1 v x R1 e1 ok ⟨⟨d,hd,q⟩,ht⟩=>?_⟩
  obtain ⟨a,rfl,isd⟩:=(R1.view ok (Ex.refl F1) hd).isD q
  refine ⟨a,rfl,isd,F0,H0,P,δ1,F1,_,R1,ht,fun δ2 F2 H2 y yd R2 e2 ry ⟨d,r,hd,lk,q⟩=>?_⟩
  obtain ⟨b,o',eb,dg,q1,q2⟩:=(R2.view ok e2 hd).dget ry R2.e3 lk
  cases eb
  refine ⟨o',dg,?_⟩
  cases r with
  | none=>rw [q2 rfl]; exact k δ2 F2 H2 _ _ R2 (e1.trans e2) .non q
  | some z=>obtain ⟨u,rfl,ru⟩:=q1 z rfl; exact k δ2 F2 H2 _ _ R2 (e1.trans e2) ru q
theorem zqb {f:Expr} {tx:DE} (hu:X.A.units + 1 < cLine) (ho:PE X o (upV K tw)) (he:PE X e (upE K tk)) (hf:PE X f (upE K tx)) (m:M2 X o "get" apos e f cpos:=by exact ⟨rfl,rfl,rfl,rfl⟩):PE X (.Call (.Attribute o "get" apos) [e,f] [] cpos) (upE K (zi2 tw tk tx)):=by
  refine pimp (pe_dget2 hu ho he hf m) fun σ H Q ⟨F0,H0,P,δ,F,Q',R,ht,k⟩=>?_
  refine ⟨F0,H0,P,δ,F,_,R,ht,fun δ1 F1 H1 v x R1 e1 ok ⟨⟨d,hd,q⟩,ht⟩=>?_⟩
  obtain ⟨a,rfl,isd⟩:=(R1.view ok (Ex.refl F1) hd).isD q
  refine ⟨a,rfl,isd,F0,H0,P,δ1,F1,_,R1,ht,fun δ2 F2 H2 y yd R2 e2 ry ht=>?_⟩
  refine ⟨F0,H0,P,δ2,F2,_,R2,ht,fun δ3 F3 H3 z zd R3 e3 rz ⟨d,r,hd,lk,q⟩=>?_⟩
  obtain ⟨b,o',eb,dg,q1,q2⟩:=(R3.view ok (e2.trans e3) hd).dget (ry.mono e3) R3.e3 lk
  cases eb
  refine ⟨o',dg,?_⟩
  cases r with
  | none=>rw [q2 rfl]; exact k δ3 F3 H3 _ _ R3 ((e1.trans e2).trans e3) rz q
  | some x=>obtain ⟨u,rfl,ru⟩:=q1 x rfl; exact k δ3 F3 H3 _ _ R3 ((e1.trans e2).trans e3) ru q
def zed (i:Nat) (tk:DE):DE:=fun δ Q=>match δ[i]? with
  | some (some (.own (.lst _)))=>tk δ fun δ1 kd=>match δ1[i]? with
    | some (some (.own (.lst ds)))=>∃ (z:Int) (k:Nat) (d:D),kd = .int z∧-(2 ^ 63)≤z∧z < 2 ^ 63∧seqIndex? z ds.length=some k∧ds[k]? = some d∧Q (δ1.set i (some (.own (.lst (ds.eraseIdx k))))) d
    | _=>False
  | _=>False
theorem zue {i:Nat} (h:PE X (.Call (.Attribute o "pop" apos) [e] [] pos) (tBM X.K "list" rPopAt (tVar i) (tCons (upE K tk) tNil))):PE X (.Call (.Attribute o "pop" apos) [e] [] pos) (upE K (zed i tk)):=pimp h fun σ H Q ⟨F0,H0,P,δ,F,Q',R,ht,k⟩=>by
  unfold zed at ht
  split at ht
  · rename_i ds0 e1
    obtain ⟨a,ea,⟨vs,hv,rs⟩,n1,n2⟩:=R.ownd e1
    refine ⟨_,ea,.inl ⟨rfl,vs,.inl (.inl hv)⟩,F0,H0,P,δ,F,_,R,ht,fun δ1 F1 H1 x dx R1 ex1 rx ht=>?_⟩
    split at ht
    · rename_i ds e2
      obtain ⟨z,kk,d,ez,z1,z2,hk,hd,q⟩:=ht
      subst ez
      cases rx
      obtain ⟨b,eb,⟨ws,hw,rw⟩,n3,n4⟩:=R1.ownd e2
      rw [ea] at eb; cases eb
      obtain ⟨v,hv2,rv⟩:=rw.get hd
      refine ⟨a,ws,z,kk,v,rfl,rfl,hw,z1,z2,by rw [rw.length]; exact hk,hv2,?_⟩
      exact k _ F1 _ v d (R1.write e2 ea (o':=.lst (ds.eraseIdx kk)) (show OwnAt K F1 _ a (.lst _) from ⟨_,upd_same,rw.eraseIdx kk⟩)) ex1 rv q
    · exact ht.elim
  · exact ht.elim
def gSet (i:Nat) (tk:DE):DG:=fun d δ Q=>(∃ o,δ[i]? = some (some (.own o)))∧tk δ fun δ1 kd=>match δ1[i]? with
  | some (some (.own (.lst ds)))=>∃ (z:Int) (k:Nat),kd = .int z∧ixN ds.length z=some k∧Q (δ1.set i (some (.own (.lst (ds.set k d)))))
  | some (some (.own (.dk kvs)))=>∃ k,dkey kd=some k∧kvs.length < sizeLine∧Q (δ1.set i (some (.own (.dk (putG kvs k d)))))
  | some (some (.own (.dt kvs)))=>∃ k,tkey kd=some k∧kvs.length < sizeLine∧Q (δ1.set i (some (.own (.dt (putG kvs k d)))))
  | _=>False
def rSetD:V→V→V→Hp→(Hp→Prop)→Prop:=fun o i v H Q=>∃ a H',o = .ref a∧DPut H a i v H'∧Q H'
theorem set_dict (hu:X.A.units + 1 < cLine):PSet X rSetD:=by
  intro pins s σ H o i v ov iv u Q I ro ri rv ⟨a,H',e,g,q⟩
  subst e
  cases ro
  exact d_setItem hu I g ri rv fun s4 I4=>⟨H',I4,q⟩
theorem PSet.or' {r r':TSet} (h:PSet X r) (h':PSet X r'):PSet X (fun o i v H Q=>r o i v H Q∨r' o i v H Q):=by
  intro pins s σ H o i v ov iv u Q I ro ri rv q
  rcases q with q | q
  · exact h pins s σ H o i v ov iv u Q I ro ri rv q
  · exact h' pins s σ H o i v ov iv u Q I ro ri rv q
theorem u4 {i:Nat} (hu:X.A.units + 1 < cLine) (ho:PE X o (tVar i)) (hi:PE X e (upE K tk)) (ha:∀ v,assign (.Subscript o e pos) X.env v=(do
      let ov ← holding [v] (eval o X.env)
      let iv ← holding [v,ov] (eval e X.env)
      standAt pos
      holding [v,ov,iv] (setItem ov iv v)
      release [v,ov,iv] []):=by intro _; rfl):PG X (.Subscript o e pos) (upG K (gSet i tk)):=by
  refine gimp (pg_sub ho hi (PSet.or' set_list (set_dict hu)) ha) fun v σ H Q ⟨F0,H0,P,δ,F,d,Q',R,r,⟨⟨o0,eo⟩,g⟩,k⟩=>?_
  obtain ⟨a,ea,_⟩:=R.ownd eo
  refine ⟨_,ea,F0,H0,P,δ,F,_,R,g,fun δ1 F1 H1 y yd R1 e1 ry g=>?_⟩
  split at g
  · rename_i ds e2
    obtain ⟨z,kk,ez,hk,q⟩:=g
    subst ez
    cases ry
    obtain ⟨b,eb,⟨ws,hw,rw⟩,_⟩:=R1.ownd e2
    rw [ea] at eb; cases eb
    exact .inl ⟨a,ws,z,kk,rfl,rfl,hw,by rw [rw.length]; exact hk,k _ _ F1 _ (R1.write e2 ea (o':=.lst (ds.set kk d)) (show OwnAt K F1 _ a (.lst _) from ⟨_,upd_same,rw.set (r.mono e1) kk⟩)) e1 q⟩
  · rename_i kvs e2
    obtain ⟨kk,hk,hl,q⟩:=g
    obtain ⟨b,eb,⟨ws,hw,rw⟩,_⟩:=R1.ownd e2
    rw [ea] at eb; cases eb
    exact .inr ⟨a,_,rfl,.inl ⟨ws,kk,hw,ye ry hk,by rw [rw.g.length]; exact hl,rfl⟩,k _ _ F1 _ (R1.write e2 ea (o':=.dk (putG kvs kk d)) (show OwnAt K F1 _ a (.dk _) from ⟨_,upd_same,(rw.g.put kk (r.mono e1)).k⟩)) e1 q⟩
  · rename_i kvs e2
    obtain ⟨kk,hk,hl,q⟩:=g
    obtain ⟨b,eb,⟨ws,hw,rw⟩,_⟩:=R1.ownd e2
    rw [ea] at eb; cases eb
    obtain ⟨c,rfl,hc⟩:=zhz ry hk
    exact .inr ⟨a,_,rfl,.inr ⟨ws,kk,c,hw,rfl,R1.e3 _ _ hc,by rw [rw.g.length]; exact hl,rfl⟩,k _ _ F1 _ (R1.write e2 ea (o':=.dt (putG kvs kk d)) (show OwnAt K F1 _ a (.dt _) from ⟨_,upd_same,(rw.g.put kk (r.mono e1)).t⟩)) e1 q⟩
  · exact g.elim
end
def zq (δ:Dl):List Nat→Dl
  | []=>δ
  | v :: vs=>(zq δ vs).set v none
def zrj:Option (Option S)→Option S
  | some (some (.fz d))=>some (.fz d)
  | _=>none
def zi3 (z:Option S):Option S:=zrj (some z)
def y4 (δ0:Dl) (δ:Dl):List Nat→Dl
  | []=>δ
  | v :: vs=>(y4 δ0 δ vs).set v (zrj δ0[v]?)
section
variable {K:Frag} {F0 H0 F H F' H':Hp} {P:Pl} {δ δ0:Dl} {σ:L2.St}
theorem RepS.wipe (R:RepS K F0 H0 P δ σ F H):∀ vs:List Nat,RepS K F0 H0 P (zq δ vs) (wipe σ vs) F H
  | []=>R
  | v :: vs=>(RepS.wipe R vs).unset v none
theorem zi4:∀ {vs:List Nat} {i:Nat} {s:S},(zq δ vs)[i]? = some (some s)→i ∉ vs∧δ[i]? = some (some s)
  | [],i,s,h=>⟨by simp,h⟩
  | v :: vs,i,s,h=>by
    unfold zq at h
    by_cases e:v=i
    · subst e
      by_cases hl:v < (zq δ vs).length
      · rw [List.getElem?_set_self hl] at h; cases h
      · rw [List.getElem?_eq_none (by simpa using hl)] at h; cases h
    · rw [List.getElem?_set_ne e] at h
      obtain ⟨h1,h2⟩:=zi4 h
      exact ⟨by simp [h1,Ne.symm e],h2⟩
theorem zh0:∀ {vs:List Nat} {i:Nat},i ∉ vs→(L2.wipe σ vs)[i]? = σ[i]?
  | [],_,_=>rfl
  | v :: vs,i,h=>by
    unfold L2.wipe
    rw [List.getElem?_set_ne (by intro z; subst z; simp at h)]
    exact zh0 (by intro z; exact h (by simp [z]))
theorem RepS.unwipe {vs:List Nat} (R:RepS K F0 H0 P (zq δ vs) (L2.wipe σ vs) F H):RepS K F0 H0 P (zq δ vs) σ F H:=by
  obtain ⟨w,h1,hw⟩:=R.own
  refine ⟨R.e1,R.e2,R.e3,R.fr,R.tp,by rw [R.len,L2.wipe_length],⟨w,h1,fun i s e=>?_⟩,R.low,R.rsv⟩
  obtain ⟨v,ev,q⟩:=hw i s e
  rw [zh0 (zi4 e).1] at ev
  exact ⟨v,ev,q⟩
theorem RepS.rest2 {P0:Pl} {F1 H1:Hp} (R0:RepS K F0 H0 P0 δ0 σ F1 H1) (ex:Ex F1 F):∀ {vs:List Nat} {δ:Dl},RepS K F0 H0 P δ σ F H→RepS K F0 H0 P (y4 δ0 δ vs) σ F H
  | [],δ,R=>R
  | v :: vs,δ,R=>by
    have ih:=RepS.rest2 R0 ex (vs:=vs) R
    unfold y4 zrj
    split
    · rename_i d e
      obtain ⟨u,eu,r⟩:=R0.fz e
      have:=ih.setF v (r.mono ex)
      have es:σ.set v (some u)=σ:=by
        apply List.ext_getElem?
        intro i
        by_cases hi:v=i
        · subst hi
          have:=(List.getElem?_eq_some_iff.mp eu).1
          rw [List.getElem?_set_self this,eu]
        · rw [List.getElem?_set_ne hi]
      rw [es] at this
      exact this
    · have hl:(y4 δ0 δ vs).length=(y4 δ0 δ vs).length:=rfl
      refine ih.weak (by simp) fun i s e=>?_
      by_cases hi:v=i
      · subst hi
        by_cases hl:v < (y4 δ0 δ vs).length
        · rw [List.getElem?_set_self hl] at e; cases e
        · rw [List.getElem?_eq_none (by simpa using hl)] at e; cases e
      · rw [List.getElem?_set_ne hi] at e; exact e
end
section
variable {X:Cx} {K:Frag} {e a b c o:Expr} {es:List Expr} {ta tb tc te tk tv:DE} {tw:DV} {st:Stmt} {rest body:List Stmt} {t u:DS} {ts:DA} {tA tB:DT} {pos p apos cpos:Pos}
def dYes:DT:=fun δ Q=>Q δ true
theorem vi:PTs X [] (upT K dYes):=⟨fun pins s σ H Q I h=>pts_nil.run pins s σ H Q I (by
  obtain ⟨F0,H0,P,δ,F,Q',R,ht,k⟩:=h
  exact k δ F H true R (Ex.refl F) ht)⟩
theorem zdh (h:PT X c (upT K tA)):PTs X [c] (upT K tA):=pts_one h
def dLc (wi:DI) (g:DG) (tt:DT) (te:DE) (vs:List Nat):DOw:=fun δ Q=>wi δ fun δ1 ds=>ds.length≤sizeLine∧∃ I:Nat→Dl→List D→Prop,I 0 (zq δ1 vs) [] ∧
  (∀ i d δ2 acc,ds[i]? = some d→I i δ2 acc→g d δ2 fun δ3=>tt δ3 fun δ4 b=>if b=true then te δ4 fun δ5 y=>I (i + 1) (zq δ5 vs) (acc++[y]) else I (i + 1) (zq δ4 vs) acc) ∧
  ∀ δ2 acc,I ds.length δ2 acc→Q (y4 δ1 (zq δ2 vs) vs) (.lst acc)
def CT (K:Frag) (vs:List Nat) (g0:TG) (g:DG):Prop:=∀ (F0 H0:Hp) (P:Pl) (δ:Dl) (σ:L2.St) (F H:Hp) (x:V) (d:D) (Q':Dl→Prop) (Q:L2.St→Hp→Prop),
  RepS K F0 H0 P δ σ F H→Rep K F x d→g d δ Q'→(∀ δ' σ',RepS K F0 H0 P δ' σ' F H→L2.wipe σ' vs=L2.wipe σ vs→Q' δ'→Q σ' H)→g0 x σ H Q
def CTs (K:Frag) (vs:List Nat) (g0:TGs) (g:DGs):Prop:=∀ (F0 H0:Hp) (P:Pl) (δ:Dl) (σ:L2.St) (F H:Hp) (x:List V) (d:List D) (Q':Dl→Prop) (Q:L2.St→Hp→Prop),
  RepS K F0 H0 P δ σ F H→RepL K F x d→g d δ Q'→(∀ δ' σ',RepS K F0 H0 P δ' σ' F H→L2.wipe σ' vs=L2.wipe σ vs→Q' δ'→Q σ' H)→g0 x σ H Q
theorem yn {σ:L2.St} {j:Nat}:∀ {vs:List Nat},(L2.wipe σ vs)[j]? = if j∈vs∧j < σ.length then some none else σ[j]?
  | []=>by simp [L2.wipe]
  | v :: vs=>by
    unfold L2.wipe
    by_cases e:v=j
    · subst e
      rw [List.getElem?_set]
      by_cases hl:v < σ.length
      · simp [L2.wipe_length,hl]
      · simp [L2.wipe_length,hl]
    · rw [List.getElem?_set_ne e,yn (vs:=vs)]
      simp [Ne.symm e]
theorem zuf {σ:L2.St} {x:Option V} {vs:List Nat} {i:Nat} (h:i∈vs):L2.wipe (σ.set i x) vs=L2.wipe σ vs:=by
  apply List.ext_getElem?
  intro j
  rw [yn,yn]
  simp only [List.length_set]
  by_cases e:i=j
  · subst e
    by_cases hl:i < σ.length
    · simp [h,hl]
    · simp [hl]
  · rw [List.getElem?_set_ne e]
theorem zay {σ:L2.St} {vs:List Nat}:L2.wipe (L2.wipe σ vs) vs=L2.wipe σ vs:=by
  apply List.ext_getElem?
  intro j
  rw [yn,yn,L2.wipe_length]
  split <;> rfl
theorem xn {vs:List Nat} {i:Nat} (h:i∈vs:=by decide):CT K vs (gName i) (gN i):=fun F0 H0 P δ σ F H x d Q' Q R r g k=>k _ _ (R.setF i r) (zuf h) g
theorem zee {vs:List Nat}:CTs K vs gNil jr:=fun F0 H0 P δ σ F H x d Q' Q R r ⟨e,g⟩ k=>by
  subst e
  cases r
  exact ⟨rfl,k δ σ R rfl g⟩
theorem ue {vs:List Nat} {g0:TG} {g:DG} {gs0:TGs} {gs:DGs} (h1:CT K vs g0 g) (h2:CTs K vs gs0 gs):CTs K vs (gCons g0 gs0) (zu g gs):=fun F0 H0 P δ σ F H x d Q' Q R r ⟨d1,dr,e,g⟩ k=>by
  subst e
  cases r with
  | cons r rr=>exact ⟨_,_,rfl,h1 F0 H0 P δ σ F H _ d1 _ _ R r g fun δ1 σ1 R1 w1 g1=>h2 F0 H0 P δ1 σ1 F H _ dr _ _ R1 rr g1 fun δ2 σ2 R2 w2 q=>k δ2 σ2 R2 (w2.trans w1) q⟩
theorem zf6 {vs:List Nat} {gs0:TGs} {gs:DGs} {n:Nat} (h:CTs K vs gs0 gs):CT K vs (gTup K n gs0) (gTp n gs):=fun F0 H0 P δ σ F H x d Q' Q R r ⟨ds,e,hl,g⟩ k=>by
  subst e
  cases r with
  | tup h1 rs=>exact ⟨_,_,rfl,.inl (.inl (R.e3 _ _ h1)),by rw [rs.length]; exact hl,h F0 H0 P δ σ F H _ ds _ _ R rs g k⟩
theorem zrk {wi:DI} {g0:TG} {g:DG} {tt:DT} {vs:List Nat} {σ:L2.St} {H:Hp} {Q:VK} (gk:CT K vs g0 g) (h:upO K (dLc wi g tt te vs) σ H Q) :
    tLc (upI K wi) g0 (upT K tt) (upE K te) vs σ H Q:=by
  obtain ⟨F0,H0,P,δ,F,Q',R,ht,k⟩:=h
  refine ⟨F0,H0,P,δ,F,_,R,ht,fun δ1 F1 H1 J ds R1 e1 wk ⟨hsz,I,i0,is,id⟩ D hD=>?_⟩
  have hDP:=R1.fresh hD
  have RD:RepS K F0 H0 ((D,.lst []) :: P) (zq δ1 vs) (L2.wipe σ vs) F1 (upd H1 D (.lst [])):=(R1.newP hD).wipe vs
  refine ⟨fun i m H2=>m=ds.length - i∧i≤ds.length∧∃ δ2 F2 acc ws,RepS K F0 H0 ((D,.lst ws) :: P) δ2 (L2.wipe σ vs) F2 H2∧Ex F1 F2∧RepL K F2 ws acc∧acc.length≤i∧I i δ2 acc,⟨_,rfl,Nat.zero_le _,_,F1,[],[],RD,Ex.refl F1,.nil,Nat.le_refl _,i0⟩,?_⟩
  rintro i m H2 ⟨rfl,hi,δ2,F2,acc,ws,R2,e2,ra,hacc,q2⟩
  by_cases hlt:i < ds.length
  · have hd:ds[i]? = some ds[i]:=List.getElem?_eq_getElem hlt
    refine .inr ⟨wk.go i H2 hlt (e2.trans R2.e3),fun H3=>∃ δ3 F3 acc ws,RepS K F0 H0 ((D,.lst ws) :: P) δ3 (L2.wipe σ vs) F3 H3∧Ex F1 F3∧RepL K F3 ws acc∧acc.length≤i + 1∧I (i + 1) δ3 acc,
      fun H3 ⟨δ3,F3,acc,ws,a1,a2,a4,a5,a6⟩=>⟨_,by omega,rfl,hlt,δ3,F3,acc,ws,a1,a2,a4,a5,a6⟩,fun x H3 y=>?_⟩
    have y':=wk.yld i _ F2 H2 x H3 hd e2 R2.e3 R2.tp y
    obtain ⟨F3,R3,e3,rx⟩:=y'.rep R2
    refine gk F0 H0 _ _ _ F3 H3 x _ _ _ R3 rx (is i _ _ acc hd q2) fun δ4 σ4 R4 w4 q4=>⟨w4.trans zay,?_⟩
    have w5:L2.wipe σ4 vs=L2.wipe σ vs:=w4.trans zay
    refine ⟨F0,H0,_,δ4,F3,_,R4,q4,fun δ5 F5 H5 b R5 e5 q5=>?_⟩
    cases b with
    | true =>
      rw [if_pos rfl] at q5 ⊢
      refine ⟨F0,H0,_,δ5,F5,_,R5,q5,fun δ6 F6 H6 z zd R6 e6 rz q6=>⟨ws,(R6.rsv D _ (by simp)).2.2,?_,?_⟩⟩
      · rw [ra.length]; exact Nat.lt_of_le_of_lt hacc (Nat.lt_of_lt_of_le hlt hsz)
      · have e36:Ex F2 F6:=(e3.trans e5).trans e6
        exact ⟨_,F6,_,_,w5 ▸ ((R6.wrP hDP _).wipe vs),e2.trans e36,(ra.mono e36).app (.cons rz .nil),by simp; exact hacc,q6⟩
    | false =>
      rw [if_neg (by decide)] at q5 ⊢
      have e36:Ex F2 F5:=e3.trans e5
      exact ⟨_,F5,_,_,w5 ▸ (R5.wipe vs),e2.trans e36,ra.mono e36,Nat.le_succ_of_le hacc,q5⟩
  · have e:i=ds.length:=by omega
    subst e
    refine .inl ⟨wk.stop H2 (e2.trans R2.e3),?_⟩
    have R3:RepS K F0 H0 ((D,.lst ws) :: P) (zq δ2 vs) σ F2 H2:=by
      refine RepS.unwipe (vs:=vs) ?_
      have:=R2.wipe vs
      rwa [zay] at this
    have R4:RepS K F0 H0 ((D,.lst ws) :: P) (y4 δ1 (zq δ2 vs) vs) σ F2 H2:=RepS.rest2 R1 e2 R3
    exact k _ F2 H2 D _ _ R4 hDP (e1.trans e2) (show OwnAt K F2 H2 D (.lst acc) from ⟨ws,(R2.rsv D _ (by simp)).2.2,ra⟩) (id _ acc q2)
end
def keyP:Key→PyData
  | .inl i=>.int i
  | .inr s=>.str s
mutual
def toP:D→Option PyData
  | .non=>some .none
  | .bl b=>some (.bool b)
  | .int i=>some (.int i)
  | .str s=>some (.str s)
  | .tup xs=>(toPs xs).map .tuple
  | .lst xs=>(toPs xs).map .list
  | .dk kvs=>(toPk kvs).map .dict
  | .dt kvs=>(toPt kvs).map .dict
  | _=>none
def toPs:List D→Option (List PyData)
  | []=>some []
  | d :: ds=>(toP d).bind fun p=>(toPs ds).map (p :: ·)
def toPk:List (Key×D)→Option (List (PyData×PyData))
  | []=>some []
  | (k,d) :: ds=>(toP d).bind fun p=>(toPk ds).map ((keyP k,p) :: ·)
def toPt:List (List Key×D)→Option (List (PyData×PyData))
  | []=>some []
  | (k,d) :: ds=>(toP d).bind fun p=>(toPt ds).map ((.tuple (k.map keyP),p) :: ·)
end
theorem zf7 {h:Heap} {P:Program} {w:World} {H:Hp} (ok:HOk P w H h) {a:Addr} {vs:List V} (e:H a=some (.tup vs)):∃ (its:List Value) (o:Obj) (n:Nat),Vals vs its∧h.get? a=some o∧o.cls = .type "tuple" ∧ o.data = .seq its.toArray n:=by
  obtain ⟨_,its,r,o,h1,h2,n,h3⟩:=ok a _ e
  exact ⟨its,o,n,r,h1,h2,h3⟩
theorem zey {h:Heap}:∀ {ks:List Key} {us:List Value},Vals (ks.map kV) us→ReadsAll h us (ks.map keyP) []
  | [],_,.nil=>.nil
  | .inl i :: ks,_,.cons r t=>by
    obtain ⟨tk,rfl⟩:=r
    exact .cons (as:=[]) (bs:=[]) (.int i tk) (zey t)
  | .inr z :: ks,_,.cons r t=>by
    obtain ⟨tk,rfl⟩:=r
    exact .cons (as:=[]) (bs:=[]) (.str z tk) (zey t)
theorem zpt {h:Heap} {k:Key} {v:Value} (e:keyIs k v=true):Reads h v (keyP k) []:=by
  rcases keyIs_shape e with ⟨i,t,rfl,rfl⟩ | ⟨x,t,rfl,rfl⟩
  · exact .int i t
  · exact .str x t
section
variable {K:Frag} {F H:Hp} {h:Heap} {P:Program} {w:World}
def Rds (h:Heap) (u:Value) (p:PyData):Prop:=∃ as,Reads h u p as∧sysModules ∉ as
def RdsAll (h:Heap) (u:List Value) (p:List PyData):Prop:=∃ as,ReadsAll h u p as∧sysModules ∉ as
theorem RdsAll.cons {u:Value} {us:List Value} {p:PyData} {ps:List PyData} (a:Rds h u p) (b:RdsAll h us ps):RdsAll h (u :: us) (p :: ps):=by
  obtain ⟨as,r,n⟩:=a
  obtain ⟨bs,r2,n2⟩:=b
  exact ⟨_,.cons r r2,by simp [n,n2]⟩
theorem zqc {a:Addr} {o:HO} {vs:List V} (ok:HOk P w H h) (e:Rd H a (.lst vs)) (na:a≠sysModules) {ps:List PyData} (q:∀ us,Vals vs us→RdsAll h us ps):Rds h (.ref a) (.list ps):=by
  obtain ⟨_,its,n,r,ho⟩:=e.ok ok
  obtain ⟨as,ra,nn⟩:=q _ r
  exact ⟨_,.list ho rfl rfl (by simpa using ra),by simp [nn,Ne.symm na]⟩
theorem zwc {a:Addr} {vs:List V} (ok:HOk P w H h) (e:H a=some (.tup vs)) {ps:List PyData} (q:∀ us,Vals vs us→RdsAll h us ps):Rds h (.ref a) (.tuple ps):=by
  obtain ⟨its,o,n,r,h1,h2,h3⟩:=zf7 ok e
  obtain ⟨as,ra,nn⟩:=q _ r
  exact ⟨_,.tuple h1 h2 h3 (by simpa using ra),nn⟩
theorem zlr {P:Program} {w:World}:∀ {es:List DictEntry} {vs:List (Key×Value)},Pairs (mixKind P w) es vs→ReadsAll h (es.map (·.key)) ((vs.map (·.1)).map keyP) []∧es.map (·.val)=vs.map (·.2)
  | _,_,.nil=>⟨.nil,rfl⟩
  | _,_,.cons h1 h2 t=>by
    obtain ⟨a,b⟩:=zlr t
    exact ⟨.cons (as:=[]) (bs:=[]) (zpt h1) a,by simp [h2,b]⟩
theorem paired_keys {κ:Type}:∀ {ws:List (κ×V)} {vs:List (κ×Value)},KV ws vs→ws.map (·.1)=vs.map (·.1)∧Vals (ws.map (·.2)) (vs.map (·.2))
  | _,_,.nil=>⟨rfl,.nil⟩
  | _,_,.cons ⟨e,r⟩ t=>by
    obtain ⟨a,b⟩:=paired_keys t
    exact ⟨by simp [e,a],.cons r b⟩
theorem zsd {a:Addr} {ws:List (Key×V)} (ok:HOk P w H h) (e:Rd H a (.dK ws)) {ps:List PyData} (q:∀ us,Vals (ws.map (·.2)) us→RdsAll h us ps):Rds h (.ref a) (.dict (((ws.map (·.1)).map keyP).zip ps)):=by
  obtain ⟨_,na,vs,kv,o,es,ep,ho,hx,hd,_,hp,_⟩:=e.ok ok
  obtain ⟨k1,k2⟩:=paired_keys kv
  obtain ⟨r1,r2⟩:=zlr (h:=h) hp
  obtain ⟨bs,rb,nb⟩:=q _ k2
  have hl:ps.length=ws.length:=by
    have e1:∀ {us:List Value} {ps:List PyData} {as:List Addr},ReadsAll h us ps as→us.length=ps.length:=by
      intro us ps as r
      induction us generalizing ps as with
      | nil=>cases r; rfl
      | cons u us ih=>cases r with | cons a b=>simp [ih b]
    have:=e1 rb
    have e2:=congrArg List.length k1
    simp at this e2
    omega
  refine ⟨_,.dict (as:=[]) (bs:=bs) ho hx.1 hd ?_ ?_,?_⟩
  · rw [List.map_fst_zip (by simp [hl]),k1]; exact r1
  · rw [List.map_snd_zip (by simp [hl]),r2]; exact rb
  · have:a≠sysModules:=by simpa using na
    simp [nb,Ne.symm this]
theorem zqd (ok:HOk P w H h):∀ {ws:List (List Key×V)} {xs:List (List Key×Addr×Value)},Paired (fun (p:List Key×V) (q:List Key×Addr×Value)=>p.1=q.1∧H q.2.1=some (.tup (p.1.map kV))∧RelV p.2 q.2.2) ws xs →
    ReadsAll h ((xs.map (entryOfKey (tupleKind (mixKind P w)))).map (·.key)) ((ws.map (·.1)).map fun k=>.tuple (k.map keyP)) []∧Vals (ws.map (·.2)) ((xs.map (entryOfKey (tupleKind (mixKind P w)))).map (·.val))
  | _,_,.nil=>⟨.nil,.nil⟩
  | _,_,.cons ⟨e,ht,r⟩ t=>by
    obtain ⟨a,b⟩:=zqd ok t
    obtain ⟨its,o,n,rv,h1,h2,h3⟩:=zf7 ok ht
    exact ⟨.cons (as:=[]) (bs:=[]) (.tuple h1 h2 h3 (by simpa using zey rv)) a,.cons r b⟩
theorem zse {a:Addr} {ws:List (List Key×V)} (ok:HOk P w H h) (e:Rd H a (.dT ws)) {ps:List PyData} (q:∀ us,Vals (ws.map (·.2)) us→RdsAll h us ps):Rds h (.ref a) (.dict (((ws.map (·.1)).map fun k=>.tuple (k.map keyP)).zip ps)):=by
  obtain ⟨_,na,xs,kt,o,es,ep,ho,hx,hd,he,_⟩:=e.ok ok
  obtain ⟨r1,k2⟩:=zqd ok kt
  obtain ⟨bs,rb,nb⟩:=q _ k2
  have hl:ps.length=ws.length:=by
    have e1:∀ {us:List Value} {ps:List PyData} {as:List Addr},ReadsAll h us ps as→us.length=ps.length:=by
      intro us ps as r
      induction us generalizing ps as with
      | nil=>cases r; rfl
      | cons u us ih=>cases r with | cons a b=>simp [ih b]
    have:=e1 rb
    have e2:=k2.length
    simp at this e2
    omega
  refine ⟨_,.dict (as:=[]) (bs:=bs) ho hx.1 hd ?_ ?_,?_⟩
  · rw [List.map_fst_zip (by simp [hl]),he]; exact r1
  · rw [List.map_snd_zip (by simp [hl]),he]; exact rb
  · have:a≠sysModules:=by simpa using na
    simp [nb,Ne.symm this]
theorem Low.ne {a:Addr} {o:Obj} {u:HO} (lo:Low F) (e:F a=some (.frz o u)) (nx:∀ φ,u≠.ext φ):a≠sysModules:=fun z=>by
  subst z
  obtain ⟨o',h⟩:=lo
  rw [e] at h; cases h
  exact nx _ rfl
mutual
theorem Rep.reads (ok:HOk P w H h) (ex:Ex F H) (lo:Low F):∀ {v:V} {d:D} {p:PyData} {u:Value},Rep K F v d→toP d=some p→RelV v u→Rds h u p
  | _,_,_,_,.non,e,r=>by cases r; cases e; exact ⟨_,.none,by simp⟩
  | _,_,_,_,.bl b,e,r=>by cases r; cases e; exact ⟨_,.bool b,by simp⟩
  | _,_,_,_,.int i,e,r=>by obtain ⟨t,rfl⟩:=r; cases e; exact ⟨_,.int i t,by simp⟩
  | _,_,_,_,.str x,e,r=>by obtain ⟨t,rfl⟩:=r; cases e; exact ⟨_,.str x t,by simp⟩
  | _,_,_,_,.tup h1 rs,e,r=>by
    cases r
    simp only [toP,Option.map_eq_some_iff] at e
    obtain ⟨ps,e,rfl⟩:=e
    exact zwc ok (ex _ _ h1) fun us rv=>RepL.reads ok ex lo rs e rv
  | _,_,_,_,.lst h1 rs,e,r=>by
    cases r
    simp only [toP,Option.map_eq_some_iff] at e
    obtain ⟨ps,e,rfl⟩:=e
    exact zqc (o:=.lst []) ok (.inr ⟨_,ex _ _ h1⟩) (lo.ne h1 (fun φ z=>nomatch z)) fun us rv=>RepL.reads ok ex lo rs e rv
  | _,_,_,_,.dk (ws:=ws) (kvs:=kvs) h1 rs,e,r=>by
    cases r
    simp only [toP,Option.map_eq_some_iff] at e
    obtain ⟨ps,e,rfl⟩:=e
    obtain ⟨qs,eq,q⟩:=RepK.reads ok ex lo rs e
    subst eq
    exact zsd ok (.inr ⟨_,ex _ _ h1⟩) q
  | _,_,_,_,.dt (ws:=ws) (kvs:=kvs) h1 rs,e,r=>by
    cases r
    simp only [toP,Option.map_eq_some_iff] at e
    obtain ⟨ps,e,rfl⟩:=e
    obtain ⟨qs,eq,q⟩:=RepT.reads ok ex lo rs e
    subst eq
    exact zse ok (.inr ⟨_,ex _ _ h1⟩) q
  | _,_,_,_,.scr _,e,r=>by simp [toP] at e
  | _,_,_,_,.obj _ _,e,r=>by simp [toP] at e
  | _,_,_,_,.emp _,e,r=>by simp [toP] at e
  | _,_,_,_,.cel _,e,r=>by simp [toP] at e
  | _,_,_,_,.ins _ _,e,r=>by simp [toP] at e
theorem RepL.reads (ok:HOk P w H h) (ex:Ex F H) (lo:Low F):∀ {vs:List V} {ds:List D} {ps:List PyData} {us:List Value},RepL K F vs ds→toPs ds=some ps→Vals vs us→RdsAll h us ps
  | _,_,_,_,.nil,e,r=>by cases r; cases e; exact ⟨_,.nil,by simp⟩
  | _,_,_,_,.cons r1 rs,e,r=>by
    cases r with
    | cons a b =>
      simp only [toPs,Option.bind_eq_some_iff,Option.map_eq_some_iff] at e
      obtain ⟨p,e1,ps,e2,rfl⟩:=e
      exact RdsAll.cons (Rep.reads ok ex lo r1 e1 a) (RepL.reads ok ex lo rs e2 b)
theorem RepK.reads (ok:HOk P w H h) (ex:Ex F H) (lo:Low F):∀ {ws:List (Key×V)} {kvs:List (Key×D)} {ps:List (PyData×PyData)},RepK K F ws kvs→toPk kvs=some ps→∃ qs,ps=((ws.map (·.1)).map keyP).zip qs∧∀ us,Vals (ws.map (·.2)) us→RdsAll h us qs
  | _,_,_,.nil,e=>by cases e; exact ⟨[],rfl,fun us r=>by cases r; exact ⟨_,.nil,by simp⟩⟩
  | _,_,_,.cons r1 rs,e=>by
    simp only [toPk,Option.bind_eq_some_iff,Option.map_eq_some_iff] at e
    obtain ⟨p,e1,ps,e2,rfl⟩:=e
    obtain ⟨qs,rfl,q⟩:=RepK.reads ok ex lo rs e2
    refine ⟨p :: qs,rfl,fun us r=>?_⟩
    cases r with
    | cons a b=>exact RdsAll.cons (Rep.reads ok ex lo r1 e1 a) (q _ b)
theorem RepT.reads (ok:HOk P w H h) (ex:Ex F H) (lo:Low F):∀ {ws:List (List Key×V)} {kvs:List (List Key×D)} {ps:List (PyData×PyData)},RepT K F ws kvs→toPt kvs=some ps→∃ qs,ps=((ws.map (·.1)).map fun k=>PyData.tuple (k.map keyP)).zip qs∧∀ us,Vals (ws.map (·.2)) us→RdsAll h us qs
  | _,_,_,.nil,e=>by cases e; exact ⟨[],rfl,fun us r=>by cases r; exact ⟨_,.nil,by simp⟩⟩
  | _,_,_,.cons r1 rs,e=>by
    simp only [toPt,Option.bind_eq_some_iff,Option.map_eq_some_iff] at e
    obtain ⟨p,e1,ps,e2,rfl⟩:=e
    obtain ⟨qs,rfl,q⟩:=RepT.reads ok ex lo rs e2
    refine ⟨p :: qs,rfl,fun us r=>?_⟩
    cases r with
    | cons a b=>exact RdsAll.cons (Rep.reads ok ex lo r1 e1 a) (q _ b)
end
end
def EqIn (prog:Program) (w:World) (A:Around) (s:Shared) (y x:Value) (b:Bool):Prop :=
  ∀ (E:Value→Shared→Prop) (Q:Bool→Shared→Prop),Q b s→wpAny (model prog w) A (eqBool y x) Q E s
section
variable {prog:Program} {w:World} {A:Around} {E:Value→Shared→Prop} {s:Shared}
def Hits (prog:Program) (w:World) (A:Around) (s:Shared) (b:Addr) (es es':Array DictEntry) (f:Nat→Option Nat) (e:Nat→Bool):Prop :=
  ∀ i (h:i < es.size),(∀ (E:Value→Shared→Prop) (Q:Option Nat→Shared→Prop),Q (f i) s→wpAny (model prog w) A (dictFind b es[i].key es[i].hash) Q E s) ∧
    ∀ j,f i=some j→∃ h':j < es'.size,EqIn prog w A s es[i].val es'[j].val (e i)
theorem zi5 {nm:String} {a b:Addr} {oa ob:Obj} {es es':Array DictEntry} {ep ep':Nat} {f:Nat→Option Nat} {e:Nat→Bool} {Q:Bool→Shared→Prop} (ha:(a == sysModules)=false) (hb:(b == sysModules)=false)
    (hoa:s.heap.get? a=some oa) (hda:oa.data = .dict es ep) (hob:s.heap.get? b=some ob) (hdb:ob.data = .dict es' ep') (hits:es.size=es'.size→Hits prog w A s b es es' f e)
    (h:Q (es.size == es'.size && (List.range' 0 es.size).all fun k=>(f k).isSome && e k) s):wpAny (model prog w) A (Builtin.Dict.samePairs nm a b) Q E s:=by
  unfold Builtin.Dict.samePairs Builtin.Dict.showsAll
  rw [if_neg (show ¬ (a == sysModules)=true by rw [ha]; exact Bool.false_ne_true),if_neg (show ¬ (b == sysModules)=true by rw [hb]; exact Bool.false_ne_true)]
  refine wpAny_bind (wpAny_pure (wpAny_bind (wpAny_pure ?_)))
  refine wpAny_bind (wpAny_dictEntries hoa hda ?_)
  dsimp only
  refine wpAny_bind (wpAny_dictEntries hob hdb ?_)
  by_cases hsz:es.size=es'.size
  case neg =>
    rw [if_pos (by simpa using hsz)]
    have hbf:(es.size == es'.size)=false:=by simpa using hsz
    rw [hbf,Bool.false_and] at h
    exact wpAny_bind (wpAny_rule (wpAny_pure h))
  case pos =>
    have h':Q ((List.range' 0 es.size).all fun k=>(f k).isSome && e k) s:=by simpa [hsz] using h
    have hits':=hits hsz
    rw [if_neg (by rw [hsz]; simp)]
    refine wpAny_bind (wpAny_dictEpoch hoa hda ?_)
    refine wpAny_bind ?_
    rw [Std.Legacy.Range.forIn_eq_forIn_range']
    simp only [Std.Legacy.Range.size,Nat.sub_zero,Nat.add_sub_cancel,Nat.div_one]
    refine wpAny_forIn_list _ (fun rest q s'=>s'=s∧q=(none,())∧∃ i,rest=List.range' i (es.size - i)∧i≤es.size∧((List.range' 0 es.size).all fun k=>(f k).isSome && e k)=((List.range' i (es.size - i)).all fun k=>(f k).isSome && e k))
      _ ?_ ?_ _ _ ⟨rfl,rfl,0,by simp,Nat.zero_le _,rfl⟩
    · rintro x rest q s' ⟨rfl,rfl,i,hr,hi,hpre⟩
      have hlt:i < es.size:=by
        rcases Nat.lt_or_ge i es.size with h | h
        · exact h
        · rw [Nat.sub_eq_zero_of_le h] at hr; simp at hr
      have e1:es.size - i=(es.size - (i + 1)) + 1:=by omega
      rw [e1,List.range'_succ] at hr hpre
      injection hr with h1 h2
      subst h1 h2
      rw [List.all_cons] at hpre
      obtain ⟨look,cmp⟩:=hits' x hlt
      refine wpAny_bind (wpAny_dictEntries hoa hda ?_)
      rw [Array.getElem?_eq_getElem hlt]
      show wpAny _ _ (holding [es[x].key,es[x].val] _ >>= _) _ _ _
      refine wpAny_bind (wpAny_holding (wpAny_bind (look _ _ ?_)))
      cases hj:f x with
      | none =>
        rw [hpre,hj] at h'
        refine wpAny_pure ?_
        show wpAny _ _ (if (!false)=true then _ else _) _ _ _
        rw [if_pos (by decide)]
        exact wpAny_pure (wpAny_pure (by simpa using h'))
      | some j =>
        obtain ⟨hjlt,he⟩:=cmp j hj
        refine wpAny_bind (wpAny_dictEntries hob hdb ?_)
        rw [Array.getElem?_eq_getElem hjlt]
        refine wpAny_holding (he _ _ ?_)
        cases hv:e x with
        | false =>
          rw [hpre,hj,hv] at h'
          show wpAny _ _ (if (!false)=true then _ else _) _ _ _
          rw [if_pos (by decide)]
          exact wpAny_pure (wpAny_pure (by simpa using h'))
        | true =>
          rw [hj,hv] at hpre
          show wpAny _ _ (if (!true)=true then _ else _) _ _ _
          rw [if_neg (by decide)]
          refine wpAny_bind (wpAny_dictEpoch hoa hda ?_)
          rw [if_neg (by simp)]
          exact wpAny_pure ⟨rfl,rfl,x + 1,rfl,hlt,by simpa using hpre⟩
    · rintro q s' ⟨rfl,rfl,i,hr,hi,hpre⟩
      have hin:i=es.size:=by
        rcases Nat.lt_or_ge i es.size with h | h
        · have e:es.size - i=(es.size - (i + 1)) + 1:=by omega
          rw [e,List.range'_succ] at hr; exact nomatch hr
        · exact Nat.le_antisymm hi h
      subst hin
      refine wpAny_pure ?_
      rw [hpre] at h'
      simpa using h'
theorem zn0 {a b:Addr} {oa ob:Obj} {es es':Array DictEntry} {ep ep':Nat} {f:Nat→Option Nat} {e:Nat→Bool} {Q:Value→Shared→Prop} (ha:(a == sysModules)=false) (hb:(b == sysModules)=false)
    (hoa:s.heap.get? a=some oa) (xa:oa.ExactDict) (hda:oa.data = .dict es ep) (hob:s.heap.get? b=some ob) (xb:ob.ExactDict) (hdb:ob.data = .dict es' ep') (hu:A.units < cLine) (hits:es.size=es'.size→Hits prog w A.in1 s b es es' f e)
    (h:Q (.bool (es.size == es'.size && (List.range' 0 es.size).all fun k=>(f k).isSome && e k)) s):wpAny (model prog w) A (compareOp .Eq (.ref a) (.ref b)) Q E s:=by
  have ta:s.TypeIs (.ref a) "dict" := ⟨_,hoa,xa.1⟩
  have tb:s.TypeIs (.ref b) "dict" := ⟨_,hob,xb.1⟩
  refine wpAny_richCompare_same_room (op:=.Eq) ta tb PySem.F.slot_dict_eq (wpAny_call_entry PySem.F.slot_dict_eq ta PySem.F.entry_dict_eq ?_ (PySem.F.args_dict_eq_2 _ _)) hu
  show wpAny _ _ (Builtin.Dict.dictSlotArgs "__eq__" ⟨[.ref a,.ref b],[]⟩ >>= _) _ _ s
  refine wpAny_bind ?_
  unfold Builtin.Dict.dictSlotArgs
  refine wpAny_bind (wpAny_notOrdered_dict ta ?_)
  show wpAny _ _ (pure (Value.ref a,Value.ref b)) _ _ s
  refine wpAny_pure ?_
  refine wpAny_bind (wpAny_isInstance (T:="dict") tb PySem.F.sub_dict_dict ?_)
  simp only [Bool.not_true,Bool.false_eq_true,if_false]
  refine wpAny_bind (wpAny_pure (wpAny_bind (wpAny_pure ?_)))
  refine wpAny_bind (zi5 ha hb hoa hda hob hdb hits ?_)
  refine wpAny_pure ⟨_,rfl,?_,?_⟩
  · exact fun x=>nomatch x
  · simpa using h
theorem zls {a b:Addr} {oa ob:Obj} {es es':Array DictEntry} {ep ep':Nat} {f:Nat→Option Nat} {e:Nat→Bool} {Q:Value→Shared→Prop} (ha:(a == sysModules)=false) (hb:(b == sysModules)=false)
    (hoa:s.heap.get? a=some oa) (xa:oa.ExactDict) (hda:oa.data = .dict es ep) (hob:s.heap.get? b=some ob) (xb:ob.ExactDict) (hdb:ob.data = .dict es' ep') (hu:A.units < cLine) (hits:es.size=es'.size→Hits prog w A.in1 s b es es' f e)
    (h:Q (.bool (!(es.size == es'.size && (List.range' 0 es.size).all fun k=>(f k).isSome && e k))) s):wpAny (model prog w) A (compareOp .NotEq (.ref a) (.ref b)) Q E s:=by
  have ta:s.TypeIs (.ref a) "dict" := ⟨_,hoa,xa.1⟩
  have tb:s.TypeIs (.ref b) "dict" := ⟨_,hob,xb.1⟩
  refine wpAny_richCompare_same_room (op:=.NotEq) ta tb PySem.F.slot_dict_ne (wpAny_call_entry PySem.F.slot_dict_ne ta PySem.F.entry_dict_ne ?_ (PySem.F.args_dict_ne_2 _ _)) hu
  show wpAny _ _ (Builtin.Dict.dictSlotArgs "__ne__" ⟨[.ref a,.ref b],[]⟩ >>= _) _ _ s
  refine wpAny_bind ?_
  unfold Builtin.Dict.dictSlotArgs
  refine wpAny_bind (wpAny_notOrdered_dict ta ?_)
  show wpAny _ _ (pure (Value.ref a,Value.ref b)) _ _ s
  refine wpAny_pure ?_
  refine wpAny_bind (wpAny_isInstance (T:="dict") tb PySem.F.sub_dict_dict ?_)
  simp only [Bool.not_true,Bool.false_eq_true,if_false]
  refine wpAny_bind (wpAny_pure (wpAny_bind (wpAny_pure ?_)))
  refine wpAny_bind (zi5 ha hb hoa hda hob hdb hits ?_)
  refine wpAny_pure ⟨_,rfl,?_,?_⟩
  · exact fun x=>nomatch x
  · simpa using h
end
def eqvD (x y:D):Bool:=match toP x,toP y with
  | some p,some q=>PyData.eqv p q
  | _,_=>false
def Pure (x:D):Prop:=∃ p,toP x=some p∧SeqAt.shaped p=true
section
variable {κ:Type} [DecidableEq κ]
def eqG (kvs lvs:List (κ×D)):Bool:=kvs.length == lvs.length && kvs.all fun kv=>match valG lvs kv.1 with
  | some d=>eqvD kv.2 d
  | none=>false
theorem zha {lvs:List (κ×D)} {k:κ}:(∀ j,lvs.findIdx? (fun q=>decide (q.1=k))=some j→∃ d,lvs[j]? = some (k,d)∧valG lvs k=some d)∧(lvs.findIdx? (fun q=>decide (q.1=k))=none→valG lvs k=none):=by
  induction lvs with
  | nil=>exact ⟨fun j h=>by simp at h,fun _=>rfl⟩
  | cons q r ih =>
    by_cases e:q.1=k
    · refine ⟨fun j h=>?_,fun h=>?_⟩
      · rw [List.findIdx?_cons] at h
        simp [e] at h
        subst h
        exact ⟨q.2,by simp [← e],by simp [valG,e]⟩
      · rw [List.findIdx?_cons] at h
        simp [e] at h
    · refine ⟨fun j h=>?_,fun h=>?_⟩
      · rw [List.findIdx?_cons] at h
        simp only [e,decide_false,Bool.false_eq_true,if_false,Option.map_eq_some_iff] at h
        obtain ⟨j',h,rfl⟩:=h
        obtain ⟨d,h1,h2⟩:=ih.1 j' h
        exact ⟨d,by simpa using h1,by simpa [valG,e] using h2⟩
      · rw [List.findIdx?_cons] at h
        simp only [e,decide_false,Bool.false_eq_true,if_false,Option.map_eq_none_iff] at h
        simpa [valG,e] using ih.2 h
def fG (kvs lvs:List (κ×D)) (i:Nat):Option Nat:=(kvs[i]?).bind fun kv=>lvs.findIdx? fun q=>decide (q.1=kv.1)
def eG (kvs lvs:List (κ×D)) (i:Nat):Bool:=match kvs[i]? with
  | some kv=>(match valG lvs kv.1 with
    | some d=>eqvD kv.2 d
    | none=>false)
  | none=>false
theorem all_range {α:Type} (g:Nat→Bool) (p:α→Bool):∀ (xs:List α) (s:Nat),(∀ i x,xs[i]? = some x→g (s + i)=p x)→(List.range' s xs.length).all g=xs.all p
  | [],_,_=>rfl
  | x :: xs,s,h=>by
    rw [List.length_cons,List.range'_succ,List.all_cons,List.all_cons,all_range g p xs (s + 1) fun i y e=>by rw [Nat.add_assoc,Nat.add_comm 1 i]; exact h (i + 1) y (by simpa using e)]
    have:=h 0 x rfl
    rw [Nat.add_zero] at this
    rw [this]
theorem zsf (kvs lvs:List (κ×D)):(kvs.length == lvs.length && (List.range' 0 kvs.length).all fun k=>(fG kvs lvs k).isSome && eG kvs lvs k)=eqG kvs lvs:=by
  unfold eqG
  congr 1
  refine all_range _ _ kvs 0 fun i x e=>?_
  rw [Nat.zero_add]
  unfold fG eG
  rw [e]
  show ((lvs.findIdx? fun q=>decide (q.1=x.1)).isSome && _)=_
  cases h:lvs.findIdx? fun q=>decide (q.1=x.1) with
  | none=>rw [zha.2 h]; rfl
  | some j =>
    obtain ⟨d,_,h2⟩:=zha.1 j h
    simp [h2]
end
section
variable {P:Program} {w:World} {A:Around} {s:Shared} {K:Frag} {F H:Hp}
theorem pure_eq (ok:HOk P w H s.heap) (ex:Ex F H) (lo:Low F) (hu:A.units + 64 < cLine) {x y:V} {u v:Value} {d e:D} (r1:Rep K F x d) (r2:Rep K F y e) (q1:RelV x u) (q2:RelV y v) (p1:Pure d) (p2:Pure e):EqIn P w A s u v (eqvD d e):=by
  obtain ⟨p,e1,s1⟩:=p1
  obtain ⟨q,e2,s2⟩:=p2
  obtain ⟨as,ra,_⟩:=r1.reads ok ex lo e1 q1
  obtain ⟨bs,rb,_⟩:=r2.reads ok ex lo e2 q2
  have:eqvD d e=PyData.eqv p q:=by unfold eqvD; rw [e1,e2]
  rw [this]
  exact fun E Q h=>SeqAt.eqAt_reads p q A s u v as bs ra rb (SeqAt.canLay_of_shaped s1) (SeqAt.canLay_of_shaped s2) (SeqAt.room_of_shaped s1 hu) P w E Q h
theorem zwd (es:Array DictEntry) (p:DictEntry→Bool):es.findIdx? p=es.toList.findIdx? p:=by
  cases es; simp
theorem zlt {k:Key}:∀ {es:List DictEntry} {vs:List (Key×Value)},Pairs (mixKind P w) es vs→es.findIdx? (fun e=>(mixKind P w).is k e.key)=vs.findIdx? fun q=>decide (q.1=k)
  | _,_,.nil=>rfl
  | _,_,.cons (e:=e) (kv:=kv) h1 h2 t=>by
    rw [List.findIdx?_cons,List.findIdx?_cons,zlt t]
    have:(mixKind P w).is k e.key=decide (kv.1=k):=by
      by_cases q:kv.1=k
      · subst q; simp [h1]
      · cases z:(mixKind P w).is k e.key with
        | false=>simp [q]
        | true=>exact absurd ((mixKind P w).inj _ _ _ h1 z) q
    rw [this]
theorem zez {κ α β:Type} [DecidableEq κ] {xs:List (κ×α)} {ys:List (κ×β)} (h:xs.map (·.1)=ys.map (·.1)) (k:κ):(xs.findIdx? fun q=>decide (q.1=k))=ys.findIdx? fun q=>decide (q.1=k):=by
  have e1:(xs.findIdx? fun q=>decide (q.1=k))=(xs.map (·.1)).findIdx? fun q=>decide (q=k):=by rw [List.findIdx?_map]; rfl
  have e2:(ys.findIdx? fun q=>decide (q.1=k))=(ys.map (·.1)).findIdx? fun q=>decide (q=k):=by rw [List.findIdx?_map]; rfl
  rw [e1,e2,h]
theorem Pairs.at {es:List DictEntry} {vs:List (Key×Value)} (h:Pairs (mixKind P w) es vs):∀ {i:Nat} {e:DictEntry} {q:Key×Value},es[i]? = some e→vs[i]? = some q→(mixKind P w).is q.1 e.key=true∧e.val=q.2:=by
  induction h with
  | nil=>intro i e q h; simp at h
  | cons h1 h2 t ih =>
    intro i e q a b
    cases i with
    | zero=>simp at a b; subst a b; exact ⟨h1,h2⟩
    | succ i=>exact ih (i:=i) (by simpa using a) (by simpa using b)
theorem KV.at {κ:Type} {ws:List (κ×V)} {vs:List (κ×Value)} (h:KV ws vs):∀ {i:Nat} {p:κ×V} {q:κ×Value},ws[i]? = some p→vs[i]? = some q→p.1=q.1∧RelV p.2 q.2:=by
  induction h with
  | nil=>intro i p q h; simp at h
  | cons h1 t ih =>
    intro i p q a b
    cases i with
    | zero=>simp at a b; subst a b; exact h1
    | succ i=>exact ih (i:=i) (by simpa using a) (by simpa using b)
theorem zwe (ok:HOk P w H s.heap) (ex:Ex F H) (lo:Low F) (hu:A.units + 64 < cLine) {a b:Addr} {wa wb:List (Key×V)} {ka kb:List (Key×D)} {ob:Obj} {va vb:List (Key×Value)} {es es':Array DictEntry} {ep':Nat}
    (ra:RepG K F wa ka) (rb:RepG K F wb kb) (xa:KV wa va) (xb:KV wb vb) (ha:KeysOf (mixKind P w) es) (pa:Pairs (mixKind P w) es.toList va) (hob:s.heap.get? b=some ob) (hdb:ob.data = .dict es' ep') (hb:KeysOf (mixKind P w) es') (pb:Pairs (mixKind P w) es'.toList vb)
    (pu:∀ q∈ka,Pure q.2) (pv:∀ q∈kb,Pure q.2):Hits P w A s b es es' (fG ka kb) (eG ka kb):=by
  intro i hi
  have la:es.toList.length=va.length:=pa.length
  have lb:es'.toList.length=vb.length:=pb.length
  have lka:wa.length=ka.length:=ra.length
  have lkb:wb.length=kb.length:=rb.length
  have kva:=(paired_keys xa).1
  have kvb:=(paired_keys xb).1
  have lwa:wa.length=va.length:=by simpa using congrArg List.length kva
  have lwb:wb.length=vb.length:=by simpa using congrArg List.length kvb
  have hiv:i < va.length:=by rw [← la]; simpa using hi
  have hik:i < ka.length:=by omega
  obtain ⟨⟨k,d⟩,hk⟩:∃ q,ka[i]? = some q:=⟨_,List.getElem?_eq_getElem hik⟩
  obtain ⟨v,hw,rv⟩:=ra.get hk
  obtain ⟨⟨k2,u⟩,hv⟩:∃ q,va[i]? = some q:=⟨_,List.getElem?_eq_getElem hiv⟩
  obtain ⟨ek,ru⟩:=KV.at xa hw hv
  simp only at ek ru
  subst ek
  have hes:es.toList[i]? = some es[i]:=by rw [Array.getElem?_toList]; exact Array.getElem?_eq_getElem hi
  obtain ⟨hkey,hval⟩:=Pairs.at pa hes hv
  obtain ⟨k',hk',hh⟩:=ha es[i] (Array.getElem_mem hi)
  have ekk:k'=k:=(mixKind P w).inj _ _ _ hk' hkey
  subst ekk
  have ef:fG ka kb i=es'.findIdx? fun e=>(mixKind P w).is k' e.key:=by
    unfold fG
    rw [hk]
    show (kb.findIdx? fun q=>decide (q.1=k'))=_
    rw [← zez (rb.keys) k',zez kvb k',← zlt pb,zwd]
  refine ⟨fun E Q h=>?_,fun j hj=>?_⟩
  · rw [hh]
    exact wpAny_dictFind_of hkey hob hdb hb (by rw [← ef]; exact h)
  · have hj':(kb.findIdx? fun q=>decide (q.1=k'))=some j:=by
      have:=hj; unfold fG at this; rw [hk] at this; exact this
    obtain ⟨d',hd',hv'⟩:=zha.1 j hj'
    obtain ⟨v',hw',rv'⟩:=rb.get hd'
    have hjlt:j < kb.length:=(List.getElem?_eq_some_iff.mp hd').1
    have hjv:j < vb.length:=by omega
    have hjes:j < es'.size:=by have:es'.toList.length=es'.size:=Array.length_toList; omega
    obtain ⟨⟨k3,u'⟩,hv3⟩:∃ q,vb[j]? = some q:=⟨_,List.getElem?_eq_getElem hjv⟩
    obtain ⟨_,ru'⟩:=KV.at xb hw' hv3
    have hes':es'.toList[j]? = some es'[j]:=by rw [Array.getElem?_toList]; exact Array.getElem?_eq_getElem hjes
    obtain ⟨_,hval'⟩:=Pairs.at pb hes' hv3
    refine ⟨hjes,?_⟩
    have ee:eG ka kb i=eqvD d d':=by unfold eG; rw [hk]; simp [hv']
    rw [ee,hval,hval']
    exact pure_eq ok ex lo hu rv rv' ru ru' (pu _ (List.mem_of_getElem? hk)) (pv _ (List.mem_of_getElem? hd'))
theorem KT.at {ws:List (List Key×V)} {xs:List (List Key×Addr×Value)} (h:KT H ws xs):∀ {i:Nat} {p:List Key×V} {q:List Key×Addr×Value},ws[i]? = some p→xs[i]? = some q→p.1=q.1∧H q.2.1=some (.tup (p.1.map kV))∧RelV p.2 q.2.2:=by
  induction h with
  | nil=>intro i p q h; simp at h
  | cons h1 t ih =>
    intro i p q a b
    cases i with
    | zero=>simp at a b; subst a b; exact h1
    | succ i=>exact ih (i:=i) (by simpa using a) (by simpa using b)
theorem zwf (ok:HOk P w H s.heap) (ex:Ex F H) (lo:Low F) (hu:A.units + 64 < cLine) {a b:Addr} {wa wb:List (List Key×V)} {ka kb:List (List Key×D)} {ob:Obj} {xa xb:List (List Key×Addr×Value)} {es es':Array DictEntry} {ep':Nat}
    (ra:RepG K F wa ka) (rb:RepG K F wb kb) (qa:KT H wa xa) (qb:KT H wb xb) (ha:es.toList=xa.map (entryOfKey (tupleKind (mixKind P w)))) (hob:s.heap.get? b=some ob) (hdb:ob.data = .dict es' ep') (hb:es'.toList=xb.map (entryOfKey (tupleKind (mixKind P w)))) (nb:(xb.map (·.1)).Nodup)
    (pu:∀ q∈ka,Pure q.2) (pv:∀ q∈kb,Pure q.2):Hits P w A s b es es' (fG ka kb) (eG ka kb):=by
  intro i hi
  have kof:∀ {wz:List (List Key×V)} {xz:List (List Key×Addr×Value)},KT H wz xz→wz.map (·.1)=xz.map (·.1):=by
    intro wz xz h
    induction h with
    | nil=>rfl
    | cons h1 t ih=>simp [h1.1,ih]
  have lka:wa.length=ka.length:=ra.length
  have lkb:wb.length=kb.length:=rb.length
  have lwa:wa.length=xa.length:=by simpa using congrArg List.length (kof qa)
  have lwb:wb.length=xb.length:=by simpa using congrArg List.length (kof qb)
  have se:es.size=xa.length:=size_of_entries ha
  have sb:es'.size=xb.length:=size_of_entries hb
  have hik:i < ka.length:=by omega
  obtain ⟨⟨k,d⟩,hk⟩:∃ q,ka[i]? = some q:=⟨_,List.getElem?_eq_getElem hik⟩
  obtain ⟨v,hw,rv⟩:=ra.get hk
  obtain ⟨⟨k2,ad,u⟩,hv⟩:∃ q,xa[i]? = some q:=⟨_,List.getElem?_eq_getElem (by omega)⟩
  obtain ⟨ek,hT,ru⟩:=KT.at qa hw hv
  simp only at ek hT ru
  subst ek
  have hes:es[i]=entryOfKey (tupleKind (mixKind P w)) (k,ad,u):=by
    have:=entry_at ha i
    rw [Array.getElem?_eq_getElem hi,hv] at this
    exact Option.some.inj this
  have his:∀ x∈xb,(tupleKind (mixKind P w)).is s.heap x.1 x.2.1:=fun x hx=>by
    obtain ⟨j,hj⟩:=List.getElem?_of_mem hx
    have hjl:j < wb.length:=by have:=(List.getElem?_eq_some_iff.mp hj).1; omega
    obtain ⟨p,hp⟩:∃ p,wb[j]? = some p:=⟨_,List.getElem?_eq_getElem hjl⟩
    obtain ⟨e1,e2,_⟩:=KT.at qb hp hj
    rw [← e1]
    exact key_of ok e2
  have keysB:xb.map (·.1)=kb.map (·.1):=(kof qb).symm.trans rb.keys
  have ef:fG ka kb i=kb.findIdx? fun q=>decide (q.1=k):=by unfold fG; rw [hk]; rfl
  have room:(tupleKind (mixKind P w)).room A:=Nat.lt_of_le_of_lt (Nat.le_add_right A.units 64) hu
  have kis:=key_of ok hT
  refine ⟨fun E Q h=>?_,fun j hj=>?_⟩
  · rw [hes]
    show wpAny _ _ (dictFind b (.ref ad) ((tupleKind (mixKind P w)).hash k)) _ _ _
    refine wpAny_dictFind_heap (knd:=tupleKind (mixKind P w)) (k:=k) room kis hob hdb hb his nb (fun hn=>?_) (fun j p hj=>?_)
    · have e0:(kb.findIdx? fun q=>decide (q.1=k))=none:=by
        rw [← zez keysB k]
        rw [List.findIdx?_eq_none_iff]
        intro x hx
        obtain ⟨j,hj⟩:=List.getElem?_of_mem hx
        by_cases z:x.1=k
        · exact absurd (by rw [hj,← z]) (hn j x.2)
        · simp [z]
      rw [ef,e0] at h
      exact h
    · have e0:(kb.findIdx? fun q=>decide (q.1=k))=some j:=by
        rw [← zez keysB k]
        rw [List.findIdx?_eq_some_iff_getElem]
        have hjl:=(List.getElem?_eq_some_iff.mp hj)
        obtain ⟨hl,hje⟩:=hjl
        refine ⟨hl,by simp [hje],fun m hm z=>?_⟩
        have hml:m < xb.length:=by omega
        have z:=of_decide_eq_true z
        have hm2:xb[m]? = some (k,xb[m].2):=by rw [List.getElem?_eq_getElem hml,← z]
        have:=idxH_unique nb hm2 hj
        omega
      rw [ef,e0] at h
      exact h
  · rw [ef] at hj
    obtain ⟨d',hd',hv'⟩:=zha.1 j hj
    obtain ⟨v',hw',rv'⟩:=rb.get hd'
    have hjlt:j < kb.length:=(List.getElem?_eq_some_iff.mp hd').1
    have hjes:j < es'.size:=by omega
    obtain ⟨⟨k3,ad',u'⟩,hv3⟩:∃ q,xb[j]? = some q:=⟨_,List.getElem?_eq_getElem (by omega)⟩
    obtain ⟨_,_,ru'⟩:=KT.at qb hw' hv3
    have hes':es'[j]=entryOfKey (tupleKind (mixKind P w)) (k3,ad',u'):=by
      have:=entry_at hb j
      rw [Array.getElem?_eq_getElem hjes,hv3] at this
      exact Option.some.inj this
    refine ⟨hjes,?_⟩
    have ee:eG ka kb i=eqvD d d':=by unfold eG; rw [hk]; simp [hv']
    rw [ee,hes,hes']
    exact pure_eq ok ex lo hu rv rv' ru ru' (pu _ (List.mem_of_getElem? hk)) (pv _ (List.mem_of_getElem? hd'))
end
structure Std (F H:Hp):Prop where
  ex:Ex F H
  tp:Tp F H
  lo:Low F
theorem RepS.std {K:Frag} {F0 H0:Hp} {P:Pl} {δ:Dl} {σ:L2.St} {F H:Hp} (R:RepS K F0 H0 P δ σ F H):Std F H:=⟨R.e3,R.tp,R.low.mono R.e1⟩
theorem Std.low {F H:Hp} (s:Std F H):∃ o,H sysModules=some (.frz o (.ext fun _=>True)):=let ⟨o,h⟩:=s.lo; ⟨o,s.ex _ _ h⟩
theorem Std.ne {F H:Hp} (s:Std F H) {a:Addr} {u:HO} (e:H a=some u) (nx:∀ o φ,u≠.frz o (.ext φ)):a≠sysModules:=fun z=>by
  subst z
  obtain ⟨o',h⟩:=s.low
  rw [e] at h; cases h
  exact nx _ _ rfl
theorem Grown.refl {F H:Hp} (s:Std F H):Grown F H F H:=⟨Ex.refl F,Ex.refl H,s.ex,fun a o h=>.inl h,s.tp⟩
theorem Grown.newF {F H:Hp} (s:Std F H) {p:Addr} {o:HO} (h:H p=none):Grown F H (upd F p o) (upd H p o) :=
  ⟨Ex.new (s.ex.nn h),Ex.new h,s.ex.both,fun a u q=>by
    by_cases z:a=p
    · subst z; exact .inr h
    · rw [upd_ne z] at q; exact .inl q,s.tp.both⟩
theorem Grown.newO {F H:Hp} (s:Std F H) {p:Addr} {o:HO} (h:H p=none) (no:∀ vs,o≠.tup vs:=by exact fun _ z=>nomatch z):Grown F H F (upd H p o) :=
  ⟨Ex.refl F,Ex.new h,s.ex.trans (Ex.new h),fun a u q=>.inl q,s.tp.put no⟩
theorem View.reads {K:Frag} {F H:Hp} {h:Heap} {P:Program} {w:World} (ok:HOk P w H h) (s:Std F H) {v:V} {d:D} {p:PyData} {u:Value} (vw:View K F H v d) (e:toP d=some p) (r:RelV v u):Rds h u p:=by
  cases vw with
  | flat rp ex=>exact rp.reads ok ex s.lo e r
  | lst h1 rs =>
    cases r
    simp only [toP,Option.map_eq_some_iff] at e
    obtain ⟨ps,e,rfl⟩:=e
    exact zqc (o:=.lst []) ok (.inl h1) (s.ne h1 fun _ _ z=>nomatch z) fun us rv=>rs.reads ok s.ex s.lo e rv
  | dk h1 rs =>
    cases r
    simp only [toP,Option.map_eq_some_iff] at e
    obtain ⟨ps,e,rfl⟩:=e
    obtain ⟨qs,eq,q⟩:=rs.reads ok s.ex s.lo e
    subst eq
    exact zsd ok (.inl h1) q
  | dt h1 rs =>
    cases r
    simp only [toP,Option.map_eq_some_iff] at e
    obtain ⟨ps,e,rfl⟩:=e
    obtain ⟨qs,eq,q⟩:=rs.reads ok s.ex s.lo e
    subst eq
    exact zse ok (.inl h1) q
  | ins _ _=>simp [toP] at e
abbrev G2:=D→D→(D→Prop)→Prop
abbrev G2O:=D→D→(O→Prop)→Prop
def rN (K:Frag) (g:G2):R2:=fun x y H Q=>∃ F dx dy Q',Std F H∧View K F H x dx∧View K F H y dy∧g dx dy Q'∧∀ F' H' v d,Grown F H F' H'→Rep K F' v d→Q' d→Q v H'
def rNO (K:Frag) (g:G2O):R2:=fun x y H Q=>∃ F dx dy Q',Std F H∧View K F H x dx∧View K F H y dy∧g dx dy Q'∧∀ F' H' p ho o,Grown F H F' H'→H p=none→H' p=some ho→F' p=none→OwnAt K F' H' p o→Q' o→Q (.ref p) H'
def d2VV (g:G2) (tw tz:DV):DE:=fun δ Q=>tw δ fun δ1 x=>tz δ1 fun δ2 y=>∃ d e,vwD δ2 x=some d∧vwD δ2 y=some e∧g d e (Q δ2)
def d2VO (g:G2O) (tw tz:DV):DOw:=fun δ Q=>tw δ fun δ1 x=>tz δ1 fun δ2 y=>∃ d e,vwD δ2 x=some d∧vwD δ2 y=some e∧g d e (Q δ2)
theorem up2N {K:Frag} {g:G2} {tw tz:DV} {σ:L2.St} {H:Hp} {Q:VK} (h:upE K (d2VV g tw tz) σ H Q):tOp (rN K g) (upV K tw) (upV K tz) σ H Q:=by
  obtain ⟨F0,H0,P,δ,F,Q',R,ht,k⟩:=h
  refine ⟨F0,H0,P,δ,F,_,R,ht,fun δ1 F1 H1 x vx R1 e1 rx ht=>?_⟩
  refine ⟨F0,H0,P,δ1,F1,_,R1,ht,fun δ2 F2 H2 y vy R2 e2 ry ⟨d,e,hd,he,ht⟩=>?_⟩
  exact ⟨F2,d,e,_,R2.std,R2.view rx e2 hd,R2.view ry (Ex.refl F2) he,ht,fun F' H' v d G r q=>k δ2 F' H' v d (R2.grow G.e1 G.e2 G.e3 G.fr G.tp) ((e1.trans e2).trans G.e1) r q⟩
theorem up2O {K:Frag} {g:G2O} {tw tz:DV} {σ:L2.St} {H:Hp} {Q:VK} (h:upO K (d2VO g tw tz) σ H Q):tOp (rNO K g) (upV K tw) (upV K tz) σ H Q:=by
  obtain ⟨F0,H0,P,δ,F,Q',R,ht,k⟩:=h
  refine ⟨F0,H0,P,δ,F,_,R,ht,fun δ1 F1 H1 x vx R1 e1 rx ht=>?_⟩
  refine ⟨F0,H0,P,δ1,F1,_,R1,ht,fun δ2 F2 H2 y vy R2 e2 ry ⟨d,e,hd,he,ht⟩=>?_⟩
  exact ⟨F2,d,e,_,R2.std,R2.view rx e2 hd,R2.view ry (Ex.refl F2) he,ht,fun F' H' p ho o G n1 n2 n3 r q =>
    let ⟨R3,hP⟩:=R2.growP G n1 n2 n3
    k δ2 F' H' p ho o R3 hP ((e1.trans e2).trans G.e1) r q⟩
abbrev DAV:=Dl→(Dl→List Vw→Prop)→Prop
def zni (K:Frag) (σ:L2.St) (F:Hp):List V→List Vw→Prop
  | [],[]=>True
  | v :: vs,x :: xs=>VwOk K σ F v x∧zni K σ F vs xs
  | _,_=>False
inductive ViewL (K:Frag) (F H:Hp):List V→List D→Prop
  | nil:ViewL K F H [] []
  | cons {v vs d ds}:View K F H v d→ViewL K F H vs ds→ViewL K F H (v :: vs) (d :: ds)
def vwsD (δ:Dl):List Vw→Option (List D)
  | []=>some []
  | x :: xs=>(vwD δ x).bind fun d=>(vwsD δ xs).map (d :: ·)
def upAV (K:Frag) (t:DAV):TA:=fun σ H Q=>∃ F0 H0 P δ F Q',RepS K F0 H0 P δ σ F H∧t δ Q'∧∀ δ' F' H' vs xs,RepS K F0 H0 P δ' σ F' H'→Ex F F'→zni K σ F' vs xs→Q' δ' xs→Q vs H'
theorem VwOk.mono {K:Frag} {σ:L2.St} {F F':Hp} {v:V} {x:Vw} (h:VwOk K σ F v x) (e:Ex F F'):VwOk K σ F' v x:=by
  cases x with
  | inl i=>exact h
  | cel i=>exact h
  | inr d=>exact Rep.mono e h
theorem RepS.views {K:Frag} {F0 H0 F H F1:Hp} {P:Pl} {δ:Dl} {σ:L2.St} (R:RepS K F0 H0 P δ σ F H) (e:Ex F1 F):∀ {vs:List V} {xs:List Vw} {ds:List D},zni K σ F1 vs xs→vwsD δ xs=some ds→ViewL K F H vs ds
  | [],[],ds,_,h=>by cases h; exact .nil
  | v :: vs,x :: xs,ds,⟨a,b⟩,h=>by
    simp only [vwsD,Option.bind_eq_some_iff,Option.map_eq_some_iff] at h
    obtain ⟨d,h1,ds',h2,rfl⟩:=h
    exact .cons (R.view a e h1) (R.views e b h2)
  | [],_ :: _,_,h,_=>h.elim
  | _ :: _,[],_,h,_=>h.elim
def vNil:DAV:=fun δ Q=>Q δ []
def v8 (tw:DV) (ts:DAV):DAV:=fun δ Q=>tw δ fun δ1 x=>ts δ1 fun δ2 xs=>Q δ2 (x :: xs)
abbrev G1:=List D→(D→Prop)→Prop
abbrev G1O:=List D→(O→Prop)→Prop
def cN (K:Frag) (g:G1):List V→Hp→VK→Prop:=fun vs H Q=>∃ F ds Q',Std F H∧ViewL K F H vs ds∧g ds Q'∧∀ F' H' v d,Grown F H F' H'→Rep K F' v d→Q' d→Q v H'
def cNO (K:Frag) (g:G1O):List V→Hp→VK→Prop:=fun vs H Q=>∃ F ds Q',Std F H∧ViewL K F H vs ds∧g ds Q'∧∀ F' H' p ho o,Grown F H F' H'→H p=none→H' p=some ho→F' p=none→OwnAt K F' H' p o→Q' o→Q (.ref p) H'
def d1 (g:G1) (ts:DAV):DE:=fun δ Q=>ts δ fun δ1 xs=>∃ ds,vwsD δ1 xs=some ds∧g ds (Q δ1)
def d1O (g:G1O) (ts:DAV):DOw:=fun δ Q=>ts δ fun δ1 xs=>∃ ds,vwsD δ1 xs=some ds∧g ds (Q δ1)
theorem up1N {K:Frag} {g:G1} {ts:DAV} {σ:L2.St} {H:Hp} {Q:VK} (h:upE K (d1 g ts) σ H Q):upAV K ts σ H fun vs H1=>cN K g vs H1 Q:=by
  obtain ⟨F0,H0,P,δ,F,Q',R,ht,k⟩:=h
  refine ⟨F0,H0,P,δ,F,_,R,ht,fun δ1 F1 H1 vs xs R1 e1 ok ⟨ds,hd,ht⟩=>?_⟩
  exact ⟨F1,ds,_,R1.std,R1.views (Ex.refl F1) ok hd,ht,fun F' H' v d G r q=>k δ1 F' H' v d (R1.grow G.e1 G.e2 G.e3 G.fr G.tp) (e1.trans G.e1) r q⟩
theorem up1O {K:Frag} {g:G1O} {ts:DAV} {σ:L2.St} {H:Hp} {Q:VK} (h:upO K (d1O g ts) σ H Q):upAV K ts σ H fun vs H1=>cNO K g vs H1 Q:=by
  obtain ⟨F0,H0,P,δ,F,Q',R,ht,k⟩:=h
  refine ⟨F0,H0,P,δ,F,_,R,ht,fun δ1 F1 H1 vs xs R1 e1 ok ⟨ds,hd,ht⟩=>?_⟩
  exact ⟨F1,ds,_,R1.std,R1.views (Ex.refl F1) ok hd,ht,fun F' H' p ho o G n1 n2 n3 r q =>
    let ⟨R3,hP⟩:=R1.growP G n1 n2 n3
    k δ1 F' H' p ho o R3 hP (e1.trans G.e1) r q⟩
section
variable {X:Cx} {K:Frag} {e a b c o:Expr} {es:List Expr} {tw tz:DV} {ts:DAV} {pos p:Pos} {g:G2} {go:G2O} {g1:G1} {g1o:G1O} {x:Str} {id T:String}
theorem vvn:PA X [] (upAV K vNil):=zev pa_nil fun σ H Q ⟨F0,H0,P,δ,F,Q',R,ht,k⟩=>k δ F H [] [] R (Ex.refl F) trivial ht
theorem vvc (he:PE X e (upV K tw)) (hr:PA X es (upAV K ts)) (hs:starEach (e :: es) X.env=(false,eval e X.env) :: starEach es X.env:=by rfl):PA X (e :: es) (upAV K (v8 tw ts)):=zev (pa_cons he hr hs) fun σ H Q ⟨F0,H0,P,δ,F,Q',R,ht,k⟩=>by
  refine ⟨F0,H0,P,δ,F,_,R,ht,fun δ1 F1 H1 v x R1 e1 ok ht=>?_⟩
  refine ⟨F0,H0,P,δ1,F1,_,R1,ht,fun δ2 F2 H2 vs xs R2 e2 oks ht=>?_⟩
  exact k δ2 F2 H2 (v :: vs) (x :: xs) R2 (e1.trans e2) (show VwOk K σ F2 v x∧zni K σ F2 vs xs from ⟨ok.mono e2,oks⟩) ht
theorem pb2O {op:Operator} (hr:OpR X (binaryOp op) (rNO K go)) (ha:PE X a (upV K tw)) (hb:PE X b (upV K tz)):PE X (.BinOp a op b pos) (upO K (d2VO go tw tz)):=pimp (pe_op hr ha hb) fun _ _ _ h=>up2O h
theorem pcm {op:CmpOp} (hr:OpR X (compareOp op) (rN K g)) (ha:PE X a (upV K tw)) (hb:PE X b (upV K tz)) (hm:behindInMarks op b=false):PE X (.Compare a [op] [b] pos) (upE K (d2VV g tw tz)):=pimp (pe_cmpR hr ha hb hm) fun _ _ _ h=>up2N h
theorem qcm {op:CmpOp} (hr:OpR X (compareOp op) (rN K g)) (ha:PE X a (upV K tw)) (hb:PE X b (upV K tz)) (hm:behindInMarks op b=false):PT X (.Compare a [op] [b] pos) (upT K (dTst (d2VV g tw tz))) :=
  zne (pt_cmpR hr ha hb hm) fun σ H Q ⟨F0,H0,P,δ,F,Q',R,ht,k⟩=>by
    refine up2N (K:=K) ⟨F0,H0,P,δ,F,_,R,ht,fun δ' F' H' v d R' e' r ⟨q,ed,ht⟩=>?_⟩
    subst ed
    cases r
    exact ⟨q,rfl,k δ' F' H' q R' e' ht⟩
theorem pcbO (hc:CallR X (.builtin id) (cNO K g1o)) (hg:Gl X x) (hm:X.mg x=none) (hv:bootBuiltins x=some (.builtin id)) (ha:PA X (e :: es) (upAV K ts)) (hn:x≠"__name__" := by decide) (hdb:(x == ("__debug__" : Str))=false:=by decide)
    (he:starEach (e :: es) X.env=(false,eval e X.env) :: starEach es X.env:=by rfl) (hpl:(backTo pos (starEach es X.env)).any (·.1)=false:=by rfl):PE X (.Call (.Name x p) (e :: es) [] pos) (upO K (d1O g1o ts)):=pimp (pe_callB hc hg hm hv ha hn hdb he hpl) fun _ _ _ h=>up1O h
theorem pct (hc:CallR X (.type T) (cN K g1)) (hg:Gl X x) (hm:X.mg x=none) (hv:bootBuiltins x=some (.type T)) (ha:PA X (e :: es) (upAV K ts)) (hn:x≠"__name__" := by decide) (hdb:(x == ("__debug__" : Str))=false:=by decide)
    (he:starEach (e :: es) X.env=(false,eval e X.env) :: starEach es X.env:=by rfl) (hpl:(backTo pos (starEach es X.env)).any (·.1)=false:=by rfl):PE X (.Call (.Name x p) (e :: es) [] pos) (upE K (d1 g1 ts)):=pimp (pe_callTy hc hg hm hv ha hn hdb he hpl) fun _ _ _ h=>up1N h
theorem pctO (hc:CallR X (.type T) (cNO K g1o)) (hg:Gl X x) (hm:X.mg x=none) (hv:bootBuiltins x=some (.type T)) (ha:PA X (e :: es) (upAV K ts)) (hn:x≠"__name__" := by decide) (hdb:(x == ("__debug__" : Str))=false:=by decide)
    (he:starEach (e :: es) X.env=(false,eval e X.env) :: starEach es X.env:=by rfl) (hpl:(backTo pos (starEach es X.env)).any (·.1)=false:=by rfl):PE X (.Call (.Name x p) (e :: es) [] pos) (upO K (d1O g1o ts)):=pimp (pe_callTy hc hg hm hv ha hn hdb he hpl) fun _ _ _ h=>up1O h
end
section
variable {X:Cx} {K:Frag}
def gEqP (neg:Bool):G2:=fun x y Q=>(Pure x∧Pure y∧Q (.bl (if neg then !eqvD x y else eqvD x y))) ∨
  (∃ ka kb,x = .dk ka∧y = .dk kb∧(∀ q∈ka,Pure q.2)∧(∀ q∈kb,Pure q.2)∧Q (.bl (if neg then !eqG ka kb else eqG ka kb))) ∨
  (∃ ka kb,x = .dt ka∧y = .dt kb∧(∀ q∈ka,Pure q.2)∧(∀ q∈kb,Pure q.2)∧Q (.bl (if neg then !eqG ka kb else eqG ka kb)))
def gEqA (neg:Bool):G2:=fun x y Q=>gEqP neg x y Q∨∃ b,eqF x y=some b∧Q (.bl (if neg then !b else b))
theorem zsg {A:Around} {E:Value→Shared→Prop} {P:Program} {w:World} {s:Shared} {F H:Hp} (ok:HOk P w H s.heap) (st:Std F H) (hu:A.units + 80 < cLine) (hi:A.in1.units≤A.units + 8) {x y:V} {u v:Value} {d e:D} {neg:Bool} {Q':D→Prop} {Q:Value→Shared→Prop}
    (vx:View K F H x d) (vy:View K F H y e) (rx:RelV x u) (ry:RelV y v) (g:gEqP neg d e Q') (k:∀ b,Q' (.bl b)→Q (.bool b) s):wpAny (model P w) A (compareOp (if neg then .NotEq else .Eq) u v) Q E s:=by
  rcases g with ⟨⟨p,e1,s1⟩,⟨q,e2,s2⟩,g⟩ | ⟨ka,kb,rfl,rfl,pu,pv,g⟩ | ⟨ka,kb,rfl,rfl,pu,pv,g⟩
  · obtain ⟨as,ra,_⟩:=vx.reads ok st e1 rx
    obtain ⟨bs,rb,_⟩:=vy.reads ok st e2 ry
    have hd:eqvD d e=PyData.eqv p q:=by unfold eqvD; rw [e1,e2]
    cases neg with
    | false=>exact SeqAt.compareEq_shaped ra rb s1 s2 (by omega) (k _ (by rw [← hd]; exact g))
    | true=>exact SeqAt.compareNe_shaped ra rb s1 s2 (by omega) (k _ (by rw [← hd]; exact g))
  · obtain ⟨a,wa,rfl,ha,ga⟩:=vx.dk'
    obtain ⟨b,wb,rfl,hb,gb⟩:=vy.dk'
    cases rx; cases ry
    obtain ⟨_,na,va,xa,oa,es,ep,hoa,cxa,hda,kka,pa,_⟩:=ha.ok ok
    obtain ⟨_,nb,vb,xb,ob,es',ep',hob,cxb,hdb,kkb,pb,_⟩:=hb.ok ok
    have hits:=zwe (A:=A.in1) (a:=a) (b:=b) ok st.ex st.lo (by omega) ga gb xa xb kka pa hob hdb kkb pb pu pv
    have lw:es.size=ka.length:=by
      have h1:=pa.length; have h2:=xa.length; have h3:=ga.length
      rw [Array.length_toList] at h1; omega
    have lw':es'.size=kb.length:=by
      have h1:=pb.length; have h2:=xb.length; have h3:=gb.length
      rw [Array.length_toList] at h1; omega
    have er:(es.size == es'.size && (List.range' 0 es.size).all fun k=>(fG ka kb k).isSome && eG ka kb k)=eqG ka kb:=by rw [lw,lw']; exact zsf ka kb
    cases neg with
    | false=>exact zn0 na nb hoa cxa hda hob cxb hdb (by omega) (fun _=>hits) (by rw [er]; exact k _ g)
    | true=>exact zls na nb hoa cxa hda hob cxb hdb (by omega) (fun _=>hits) (by rw [er]; exact k _ g)
  · obtain ⟨a,wa,rfl,ha,ga⟩:=vx.dt'
    obtain ⟨b,wb,rfl,hb,gb⟩:=vy.dt'
    cases rx; cases ry
    obtain ⟨_,na,xa,qa,oa,es,ep,hoa,cxa,hda,ea,_⟩:=ha.ok ok
    obtain ⟨_,nb,xb,qb,ob,es',ep',hob,cxb,hdb,eb,nd⟩:=hb.ok ok
    have hits:=zwf (A:=A.in1) (a:=a) (b:=b) ok st.ex st.lo (by omega) ga gb qa qb ea hob hdb eb nd pu pv
    have lw:es.size=ka.length:=by
      have h1:=size_of_entries ea; have h2:=qa.length; have h3:=ga.length
      omega
    have lw':es'.size=kb.length:=by
      have h1:=size_of_entries eb; have h2:=qb.length; have h3:=gb.length
      omega
    have er:(es.size == es'.size && (List.range' 0 es.size).all fun k=>(fG ka kb k).isSome && eG ka kb k)=eqG ka kb:=by rw [lw,lw']; exact zsf ka kb
    cases neg with
    | false=>exact zn0 na nb hoa cxa hda hob cxb hdb (by omega) (fun _=>hits) (by rw [er]; exact k _ g)
    | true=>exact zls na nb hoa cxa hda hob cxb hdb (by omega) (fun _=>hits) (by rw [er]; exact k _ g)
theorem zi6 {F H:Hp} {x y:V} {d e:D} {b:Bool} (vx:View K F H x d) (vy:View K F H y e) (h:eqF d e=some b):Rep K F x d∧Rep K F y e:=by
  cases vx with
  | flat r _ =>
    cases vy with
    | flat r2 _=>exact ⟨r,r2⟩
    | _=>cases d <;> cases h
  | _=>cases h
theorem zsh (hu:X.A.units + 80 < cLine) (hi:X.A.in1.units≤X.A.units + 8:=by exact Nat.add_le_add_left (show 1≤8 by decide) _):OpR X (compareOp .Eq) (rN X.K (gEqA false)):=by
  intro pins s σ H x y v u Q I rx ry ⟨F,dx,dy,Q',st,vx,vy,g,k⟩
  rcases g with g | ⟨b,hb,g⟩
  · exact zsg (neg:=false) I.hok st hu hi vx vy rx ry g fun b q=>⟨.bl b,H,I,rfl,k F H _ _ (Grown.refl st) (.bl b) q⟩
  · obtain ⟨rp1,rp2⟩:=zi6 vx vy hb
    obtain ⟨e1,e2⟩:=zsa rp1 rp2 hb
    exact op_eq pins s σ H x y v u Q I rx ry ⟨e1,by rw [e2]; exact k F H _ _ (Grown.refl st) (.bl b) g⟩
theorem za3 (hu:X.A.units + 80 < cLine) (hi:X.A.in1.units≤X.A.units + 8:=by exact Nat.add_le_add_left (show 1≤8 by decide) _):OpR X (compareOp .NotEq) (rN X.K (gEqA true)):=by
  intro pins s σ H x y v u Q I rx ry ⟨F,dx,dy,Q',st,vx,vy,g,k⟩
  rcases g with g | ⟨b,hb,g⟩
  · exact zsg (neg:=true) I.hok st hu hi vx vy rx ry g fun b q=>⟨.bl b,H,I,rfl,k F H _ _ (Grown.refl st) (.bl b) q⟩
  · obtain ⟨rp1,rp2⟩:=zi6 vx vy hb
    obtain ⟨e1,e2⟩:=zsa rp1 rp2 hb
    exact op_ne pins s σ H x y v u Q I rx ry ⟨e1,by rw [e2]; exact k F H _ _ (Grown.refl st) (.bl _) g⟩
def gCat:G2O:=fun x y Q=>∃ xs ys,x = .lst xs∧y = .lst ys∧xs.length + ys.length≤sizeLine∧Q (.lst (xs++ys))
theorem zn1 {H:Hp} {pins:List (Addr×Obj)} {σ:L2.St} {s:Shared} {a:Addr} {vs:List V} (I:Inv X pins σ H s) (e:Rd H a (.lst vs)):vs.length≤sizeLine∧∃ (its:List Value) (n:Nat),Vals vs its∧vs.length=its.length∧s.heap.get? a=some { cls:=.type "list", data:=.seq its.toArray n }:=by
  obtain ⟨z,its,n,r,h⟩:=e.ok I.hok
  exact ⟨z,its,n,r,r.length,h⟩
theorem zwg:OpR X (binaryOp .Add) (rNO X.K gCat):=by
  intro pins s σ H x y v u Q I rx ry h
  obtain ⟨F,dx,dy,Q',st,vx,vy,⟨xs,ys,rfl,rfl,hz,g⟩,k⟩:=h
  obtain ⟨l,vs,rfl,hl,rl⟩:=vx.lst'
  obtain ⟨b,ws,rfl,hb,rb⟩:=vy.lst'
  cases rx; cases ry
  obtain ⟨z,its,n,r,hl1,e⟩:=zn1 I hl
  obtain ⟨z2,its2,n2,r2,hl2,e2⟩:=zn1 I hb
  have l1:=rl.length
  have l2:=rb.length
  refine PySem.P.add_list e e2 ?_ (by rw [List.size_toArray,List.size_toArray]; omega)
  have ea:its.toArray++its2.toArray=(its++its2).toArray:=by simp
  rw [ea]
  refine ⟨.ref _,_,I.lnew (t':=s.toks) (r.append r2) (by rw [List.length_append]; omega),rfl,?_⟩
  exact k F _ _ _ (.lst (xs++ys)) (Grown.newO st I.fresh) I.fresh upd_same (st.ex.nn I.fresh) ⟨_,upd_same,rl.app rb⟩ g
theorem RepL.rep {F:Hp} {vs:List V} {ds:List D} (r:RepL K F vs ds):∀ n:Nat,RepL K F (List.replicate n vs).flatten (List.replicate n ds).flatten
  | 0=>.nil
  | n + 1=>by
    rw [List.replicate_succ,List.replicate_succ,List.flatten_cons,List.flatten_cons]
    exact r.app (RepL.rep r n)
def dRep (to:DOw) (tb:DE):DOw:=fun δ Q=>to δ fun δ1 o=>tb δ1 fun δ2 y=>∃ xs i,o = .lst xs∧y = .int i∧-(2 ^ 63)≤i∧i < 2 ^ 63∧xs.length * i.toNat≤sizeLine∧Q δ2 (.lst (List.replicate i.toNat xs).flatten)
theorem zyb {a b:Expr} {pos:Pos} {to:DOw} {tb:DE} (ha:PE X a (upO K to)) (hb:PE X b (upE K tb)):PE X (.BinOp a .Mult b pos) (upO K (dRep to tb)):=pimp (pe_op op_rep ha hb) fun σ H Q ⟨F0,H0,P,δ,F,Q',R,ht,k⟩=>by
  refine ⟨F0,H0,P,δ,F,_,R,ht,fun δ1 F1 H1 p ho o R1 hP e1 oa ht=>?_⟩
  refine ⟨F0,H0,_,δ1,F1,_,R1,ht,fun δ2 F2 H2 y dy R2 e2 ry ⟨xs,i,eo,ey,h1,h2,hz,q⟩=>?_⟩
  subst eo ey
  cases ry
  obtain ⟨vs,hv,rs⟩:=oa
  have e0:ho = .lst vs:=by
    have:=(R1.rsv p ho (by simp)).2.2
    rw [hv] at this; exact (Option.some.inj this).symm
  subst e0
  have l1:=rs.length
  refine ⟨p,i,vs,rfl,rfl,(R2.rsv p _ (by simp)).2.2,h1,h2,by rw [l1]; exact hz,fun p2 hp2=>?_⟩
  have R3:RepS K F0 H0 P δ2 σ F2 H2:=R2.unP fun q hq=>by simp [hq]
  exact k δ2 F2 _ p2 _ (.lst _) (R3.newP hp2) (R3.fresh hp2) (e1.trans e2) ⟨_,upd_same,(rs.mono e2).rep _⟩ q
theorem View.int' {F H:Hp} {v:V} {i:Int} (h:View K F H v (.int i)):v = .int i:=by
  cases h with
  | flat r e=>cases r; rfl
theorem View.bl' {F H:Hp} {v:V} {i:Bool} (h:View K F H v (.bl i)):v = .bl i:=by
  cases h with
  | flat r e=>cases r; rfl
def gInt:G1:=fun ds Q=>(∃ i,ds=[.int i]∧Q (.int i))∨∃ b,ds=[.bl b]∧Q (.int (if b then 1 else 0))
theorem zvo:CallR X (.type "int") (cN K gInt):=by
  intro pins s σ H xs us Q I r h
  obtain ⟨F,ds,Q',st,vw,⟨i,rfl,g⟩ | ⟨i,rfl,g⟩,k⟩:=h
  · cases vw with
    | cons v1 t=>cases t; cases v1.int'; exact call_int1 pins s σ H _ us Q I r (.inl ⟨i,rfl,k F H _ _ (Grown.refl st) (.int _) g⟩)
  · cases vw with
    | cons v1 t=>cases t; cases v1.bl'; exact call_int1 pins s σ H _ us Q I r (.inr ⟨i,rfl,k F H _ _ (Grown.refl st) (.int _) g⟩)
def zf8:G1O:=fun ds Q=>(∃ xs,(ds=[.lst xs]∨ds=[.tup xs])∧Q (.lst xs))∨(∃ kvs,ds=[.dk kvs]∧Q (.lst (kvs.map fun kv=>keyD kv.1)))
theorem zsi (hc:X.calm=true):CallR X (.type "list") (cNO X.K zf8):=by
  intro pins s σ H xs us Q I r h
  obtain ⟨F,ds,Q',st,vw,g,k⟩:=h
  rcases g with ⟨xs,e | e,g⟩ | ⟨kvs,e,g⟩
  · subst e
    cases vw with
    | cons v1 t =>
      cases t
      obtain ⟨a,vs,rfl,hs,rs⟩:=v1.lst'
      exact call_list_of pins s σ H _ us Q I r ⟨a,vs,rfl,.inl (.inl hs),fun p hp=>k F _ p _ (.lst xs) (Grown.newO st hp) hp upd_same (st.ex.nn hp) ⟨_,upd_same,rs⟩ g⟩
  · subst e
    cases vw with
    | cons v1 t =>
      cases t
      obtain ⟨a,vs,rfl,hs,rs⟩:=v1.tup'
      exact call_list_of pins s σ H _ us Q I r ⟨a,vs,rfl,.inr (.inl (.inl hs)),fun p hp=>k F _ p _ (.lst xs) (Grown.newO st hp) hp upd_same (st.ex.nn hp) ⟨_,upd_same,rs⟩ g⟩
  · subst e
    cases vw with
    | cons v1 t =>
      cases t
      obtain ⟨a,ws,rfl,hs,rs⟩:=v1.dk'
      have e:(ws.map fun kv=>kV kv.1)=(kvs.map fun kv=>kV kv.1):=by
        have:=congrArg (List.map kV) rs.keys
        simpa [List.map_map,Function.comp_def] using this
      have e2:(kvs.map fun kv=>kV kv.1)=(kvs.map (·.1)).map kV:=by simp
      have e3:(kvs.map fun kv=>keyD kv.1)=(kvs.map (·.1)).map keyD:=by simp
      refine call_listD hc pins s σ H _ us Q I r ⟨a,ws,rfl,hs,fun p hp=>k F _ p _ (.lst _) (Grown.newO st hp) hp upd_same (st.ex.nn hp) ⟨_,upd_same,?_⟩ g⟩
      rw [e,e2,e3]
      exact zbf _
def zkq:G1:=fun ds Q=>∃ xs,(ds=[.lst xs]∨ds=[.tup xs])∧Q (.tup xs)
theorem zwh:CallR X (.type "tuple") (cN X.K zkq):=by
  intro pins s σ H xs us Q I r h
  obtain ⟨F,ds,Q',st,vw,⟨xs,e | e,g⟩,k⟩:=h
  · subst e
    cases vw with
    | cons v1 t =>
      cases t
      obtain ⟨a,vs,rfl,hs,rs⟩:=v1.lst'
      exact call_tuple_of pins s σ H _ us Q I r ⟨a,vs,rfl,.inl ⟨.inl hs,fun p hp =>
        have G:=Grown.newF st (o:=.tup vs) hp
        k _ _ _ _ G (.tup upd_same (rs.mono G.e1)) g⟩⟩
  · subst e
    cases vw with
    | cons v1 t =>
      cases t
      cases v1 with
      | flat r1 e=>cases r1 with
        | @tup a vs _ h1 rs=>exact call_tuple_of pins s σ H _ us Q I r ⟨a,vs,rfl,.inr ⟨.inl (.inl (st.ex _ _ h1)),k F H _ _ (Grown.refl st) (.tup h1 rs) g⟩⟩
end
def toPD (d:D):PyData:=(toP d).getD .none
def zdi (ds:List D):List D:=ds.mergeSort (dataLe false toPD)
structure SortOk (ds:List D):Prop where
  pu:∀ d∈ds,Pure d
  al:PySem.W.AllAlike (ds.map toPD)
  so:PySem.W.Sortable (ds.map toPD)
  sz:ds.length≤sizeLine
mutual
theorem reads_in {h:Heap}:∀ {v:Value} {d:PyData} {as:List Addr},Reads h v d as→∀ a∈as,a < h.objs.size
  | _,_,_,.none,a,ha=>by simp at ha
  | _,_,_,.bool _,a,ha=>by simp at ha
  | _,_,_,.int _ _,a,ha=>by simp at ha
  | _,_,_,.str _ _,a,ha=>by simp at ha
  | _,_,_,.list h1 _ _ h4,a,ha=>by
    rcases List.mem_cons.mp ha with rfl | ha
    · exact Heap.lt_size h1
    · exact readsAll_in h4 a ha
  | _,_,_,.tuple _ _ _ h4,a,ha=>readsAll_in h4 a ha
  | _,_,_,.dict h1 _ _ h4 h5,a,ha=>by
    rcases List.mem_append.mp ha with ha | ha
    · rcases List.mem_cons.mp ha with rfl | ha
      · exact Heap.lt_size h1
      · exact readsAll_in h4 a ha
    · exact readsAll_in h5 a ha
theorem readsAll_in {h:Heap}:∀ {v:List Value} {d:List PyData} {as:List Addr},ReadsAll h v d as→∀ a∈as,a < h.objs.size
  | _,_,_,.nil,a,ha=>by simp at ha
  | _,_,_,.cons h1 h2,a,ha=>by
    rcases List.mem_append.mp ha with ha | ha
    · exact reads_in h1 a ha
    · exact readsAll_in h2 a ha
end
def zf9 (K:Frag) (F:Hp) (v:Value) (d:D):Prop:=∃ x,RelV x v∧Rep K F x d
theorem zi7 {K:Frag} {F:Hp}:∀ {vs:List V} {us:List Value} {ds:List D},Vals vs us→RepL K F vs ds→PySem.W.EachIs (zf9 K F) us ds
  | _,_,_,.nil,.nil=>.nil
  | _,_,_,.cons a b,.cons r t=>.cons ⟨_,a,r⟩ (zi7 b t)
theorem zhp {K:Frag} {F:Hp}:∀ {us:List Value} {ds:List D},PySem.W.EachIs (zf9 K F) us ds→∃ vs,Vals vs us∧RepL K F vs ds
  | _,_,.nil=>⟨[],.nil,.nil⟩
  | _,_,.cons ⟨x,a,r⟩ t=>by
    obtain ⟨vs,b,rs⟩:=zhp t
    exact ⟨x :: vs,.cons a b,.cons r rs⟩
theorem zi8 {K:Frag} {F H:Hp} {h h':Heap} {P:Program} {w:World} {a:Addr} (ok:HOk P w H h) (st:Std F H) (kp:∀ b o,h.get? b=some o→h'.get? b=some o) (ha:h.objs.size≤a):∀ {us:List Value} {ds:List D},PySem.W.EachIs (zf9 K F) us ds→(∀ d∈ds,Pure d) →
    PySem.W.EachIs (fun v b=>∃ as,Reads h' v (toPD b) as∧a ∉ as) us ds
  | _,_,.nil,_=>.nil
  | _,d :: ds,.cons ⟨x,r,rp⟩ t,pu=>by
    obtain ⟨p,e,_⟩:=pu d (by simp)
    obtain ⟨as,ra,_⟩:=rp.reads ok st.ex st.lo e r
    have e2:toPD d=p:=by unfold toPD; rw [e]; rfl
    refine .cons ⟨as,by rw [e2]; exact PyProof.Rows.Reads.keeps kp ra,fun z=>?_⟩ (zi8 ok st kp ha t fun d hd=>pu d (by simp [hd]))
    exact absurd (reads_in ra a z) (Nat.not_lt.mpr ha)
section
variable {X:Cx} {K:Frag}
theorem zpu {pins:List (Addr×Obj)} {σ:L2.St} {F H:Hp} {s:Shared} {u:Value} {ds:List D} {Q:VK} (I:Inv X pins σ H s) (st:Std F H) (ok:SortOk ds) (hu:X.A.units + 200 < cLine) (hin:X.A.in1.units≤X.A.units + 8)
    (hcol:∀ R:List Value→Shared→Prop,(∀ h' tk acc vs,(∀ b o,s.heap.get? b=some o→h'.get? b=some o)→Vals vs acc→RepL X.K F vs ds→R acc { s with heap:=h',toks:=tk })→wpAny (model X.prog X.w) X.A.in1 (collect u) R X.xe s)
    (k:∀ p vs,H p=none→RepL X.K F vs (zdi ds)→Q (.ref p) (upd H p (.lst vs))):wpAny (model X.prog X.w) X.A (call (.builtin "sorted") [u]) (EP X pins σ Q) X.xe s:=by
  refine Calls.call_function_entry PyProof.Rows.kind_sorted PyProof.Rows.plain_sorted PyProof.Rows.entry_sorted (PyProof.Rows.args_sorted1 _) ?_
  unfold Builtin.«sorted»
  refine wpAny_bind (m:=checkCount "sorted" 1 1 _) (wpAny_pure ?_)
  refine wpAny_bind (hcol _ fun h' tk acc vs hk rv rs=>?_)
  have I1:Inv X pins σ H { s with heap:=h',toks:=tk }:=I.kept hk
  have hl:acc.length=ds.length:=by rw [← rv.length,rs.length]
  refine wpAny_bind (wpAny_newList ?_ (by rw [hl]; exact ok.sz))
  have hoL:(h'.push (seqObj "list" acc.toArray 0)).get? h'.objs.size=some (seqObj "list" acc.toArray 0):=Heap.get?_push_size _ rfl
  show wpAny _ _ _ _ _ { s with heap:=h'.push (seqObj "list" acc.toArray 0),toks:=tk }
  have es:=zi7 rv rs
  have er:=zi8 (h':=h'.push (seqObj "list" acc.toArray 0)) (a:=h'.objs.size) I1.hok st (fun b o e=>Heap.get?_push_of_some _ e) (Nat.le_refl _) es ok.pu
  refine wpAny_bind (wpAny_holding (PySem.W.list_sort_data (s:={ s with heap:=h'.push (seqObj "list" acc.toArray 0),toks:=tk }) hoL es er ok.al ok.so ok.sz (fun d hd=>?_) fun out h1 h2=>?_))
  · obtain ⟨p,e,sh⟩:=ok.pu d hd
    have e2:toPD d=p:=by unfold toPD; rw [e]; rfl
    have:=SeqAt.depth_of_shaped sh
    rw [e2]; omega
  · obtain ⟨e',he'⟩:=PyProof.Rows.sortedHeap_at (vs:=acc) (out:=out.toArray) hoL
    obtain ⟨vs',rv',rs'⟩:=zhp h2
    have hlen:vs'.length≤sizeLine:=by rw [rv'.length,h1]; exact ok.sz
    have hn:H h'.objs.size=none:=I1.hok.fresh (Nat.le_refl _)
    refine wpAny_pure ⟨_,rfl,.ref h'.objs.size,upd H h'.objs.size (.lst vs'),I1.laid (t':=tk) (fun b u e=>?_) (Nat.le_refl _)
      (show ObjOk X.prog X.w _ _ _ (.lst vs') from ⟨hlen,out,e',rv',he'⟩),rfl,k _ vs' hn rs'⟩
    have hb:b < h'.objs.size:=Heap.lt_size e
    show (sortedHeap (h'.push (seqObj "list" acc.toArray 0)) h'.objs.size acc out.toArray).get? b=some u
    rw [PyProof.Rows.sortedHeap_old (Nat.ne_of_lt hb) (by rw [size_push']; exact Nat.lt_succ_of_lt hb)]
    exact Heap.get?_push_of_some _ e
def srcD:D→Option (List D)
  | .lst xs=>some xs
  | .tup xs=>some xs
  | .dk kvs=>some (kvs.map fun kv=>keyD kv.1)
  | .dt kvs=>some (kvs.map fun kv=>D.tup (kv.1.map keyD))
  | _=>none
theorem zqe {P:Program} {w:World} {F:Hp}:∀ {es:List DictEntry} {vs:List (Key×Value)},Pairs (mixKind P w) es vs→Vals ((vs.map (·.1)).map kV) (es.map (·.key))
  | _,_,.nil=>.nil
  | _,(k,x) :: _,.cons h1 h2 t=>.cons (by
      rcases keyIs_shape h1 with ⟨i,t,e,e2⟩ | ⟨z,t,e,e2⟩
      · simp only at e; subst e; exact ⟨t,e2⟩
      · simp only at e; subst e; exact ⟨t,e2⟩) (zqe (F:=F) t)
theorem zqf {P:Program} {w:World} {F H:Hp} (st:Std F H):∀ {ws:List (List Key×V)} {xs:List (List Key×Addr×Value)},KT H ws xs →
    ∃ vs,Vals vs ((xs.map (entryOfKey (tupleKind (mixKind P w)))).map (·.key))∧RepL K F vs ((ws.map (·.1)).map fun k=>D.tup (k.map keyD))
  | _,_,.nil=>⟨[],.nil,.nil⟩
  | _,_,.cons ⟨e,ht,r⟩ t=>by
    obtain ⟨vs,a,b⟩:=zqf (P:=P) (w:=w) st t
    exact ⟨.ref _ :: vs,.cons (show RelV (.ref _) (.ref _) from rfl) a,.cons (.tup (st.tp _ _ ht) (zbf _)) b⟩
theorem zn2 {es:Array DictEntry} {acc:Array Value} (h:ItemsOf (fun i v=>∃ en:DictEntry,es[i]? = some en∧v=en.key) acc es.size):acc.toList=es.toList.map (·.key):=by
  apply List.ext_getElem?
  intro i
  rw [List.getElem?_map,Array.getElem?_toList,Array.getElem?_toList]
  by_cases hi:i < es.size
  · have hi2:i < acc.size:=by rw [h.1]; exact hi
    obtain ⟨en,e1,e2⟩:=h.2 i _ (Array.getElem?_eq_getElem hi2)
    rw [e1,Array.getElem?_eq_getElem hi2,e2]; rfl
  · rw [Array.getElem?_eq_none (by rw [h.1]; omega),Array.getElem?_eq_none (by omega)]; rfl
theorem zpv {pins:List (Addr×Obj)} {σ:L2.St} {F H:Hp} {s:Shared} {v:V} {u:Value} {d:D} {ds:List D} {A:Around} (I:Inv X pins σ H s) (hh:A.handled=none) (st:Std F H) (vw:View X.K F H v d) (e:srcD d=some ds) (hz:ds.length≤sizeLine) (r:RelV v u) (R:List Value→Shared→Prop)
    (h:∀ h' tk acc vs,(∀ b o,s.heap.get? b=some o→h'.get? b=some o)→Vals vs acc→RepL X.K F vs ds→R acc { s with heap:=h',toks:=tk }) {E:Value→Shared→Prop}:wpAny (model X.prog X.w) A (collect u) R E s:=by
  unfold srcD at e
  split at e
  · cases e
    obtain ⟨a,vs,rfl,hs,rs⟩:=vw.lst'
    cases r
    obtain ⟨z,its,n,rv,hl,ho⟩:=zn1 I hs
    exact wpAny_collect_seq a (.inl rfl) ho rfl rfl (fun h' hk=>h h' s.toks _ vs hk (by simpa using rv) rs) (by rw [List.size_toArray,← hl]; exact z)
  · cases e
    obtain ⟨a,vs,rfl,hs,rs⟩:=vw.tup'
    cases r
    obtain ⟨its,o,n,rv,h1,h2,h3⟩:=zf7 I.hok hs
    exact wpAny_collect_seq a (.inr rfl) h1 h2 h3 (fun h' hk=>h h' s.toks _ vs hk (by simpa using rv) rs) (by rw [List.size_toArray,← rv.length,rs.length]; exact hz)
  · cases e
    obtain ⟨a,ws,rfl,hs,rs⟩:=vw.dk'
    cases r
    obtain ⟨_,na,va,xa,oa,es,ep,hoa,cxa,hda,kka,pa,_⟩:=hs.ok I.hok
    have lw:es.size=ws.length:=by
      have h1:=pa.length; have h2:=xa.length
      rw [Array.length_toList] at h1; omega
    have hn:es.size≤sizeLine:=by rw [lw,rs.length]; simpa using hz
    refine PySem.W.kdu_collect (kdl_raw na cxa hda) hh hoa hn fun h' tk acc hk hacc=>?_
    rw [zn2 hacc]
    have hv:=zqe (F:=F) pa
    have e1:(va.map (·.1))=ws.map (·.1):=(paired_keys xa).1.symm
    have e3:∀ kvs:List (Key×D),(kvs.map fun kv=>keyD kv.1)=(kvs.map (·.1)).map keyD:=fun _=>by simp
    refine h h' tk _ _ hk hv ?_
    rw [e1,rs.keys,e3]
    exact zbf _
  · cases e
    obtain ⟨a,ws,rfl,hs,rs⟩:=vw.dt'
    cases r
    obtain ⟨_,na,xa,qa,oa,es,ep,hoa,cxa,hda,ea,_⟩:=hs.ok I.hok
    have lw:es.size=ws.length:=by
      have h1:=size_of_entries ea; have h2:=qa.length
      omega
    have hn:es.size≤sizeLine:=by rw [lw,rs.length]; simpa using hz
    refine PySem.W.kdu_collect (kdl_raw na cxa hda) hh hoa hn fun h' tk acc hk hacc=>?_
    rw [zn2 hacc,ea]
    obtain ⟨vs,hv,rv⟩:=zqf (K:=X.K) (P:=X.prog) (w:=X.w) st qa
    have e3:∀ kvs:List (List Key×D),(kvs.map fun kv=>D.tup (kv.1.map keyD))=(kvs.map (·.1)).map fun k=>D.tup (k.map keyD):=fun _=>by simp
    refine h h' tk _ _ hk hv ?_
    rw [e3,← rs.keys]
    exact rv
  · cases e
def vn:G1O:=fun ds Q=>∃ d xs,ds=[d]∧srcD d=some xs∧SortOk xs∧Q (.lst (zdi xs))
theorem ut (hc:X.calm=true) (hu:X.A.units + 200 < cLine) (hin:X.A.in1.units≤X.A.units + 8:=by exact Nat.add_le_add_left (show 1≤8 by decide) _) (hh:X.A.in1.handled=X.A.handled:=by rfl):CallR X (.builtin "sorted") (cNO X.K vn):=by
  intro pins s σ H xs us Q I r h
  obtain ⟨F,ds,Q',st,vw,⟨d,xs,rfl,hs,ok,g⟩,k⟩:=h
  cases vw with
  | cons v1 t =>
    cases t
    obtain ⟨u,rfl,ru⟩:=vals1 r
    exact zpu I st ok hu hin (fun R hR=>zpv I (hh.trans (I.ok.hd hc)) st v1 hs ok.sz ru R hR) fun p vs hp rv=>k F _ p _ (.lst _) (Grown.newO st hp) hp upd_same (st.ex.nn hp) ⟨vs,upd_same,rv⟩ g
end
section
variable {K:Frag} {F0 H0 F H F' H':Hp} {P:Pl} {δ:Dl} {σ:L2.St}
theorem RepS.congrP {Q:Pl} (R:RepS K F0 H0 P δ σ F H) (h:∀ q,q∈Q↔q∈P):RepS K F0 H0 Q δ σ F H:=R.unP fun q hq=>(h q).mp hq
inductive MixL (K:Frag) (F H:Hp):List V→List S→Pl→Prop
  | nil:MixL K F H [] [] []
  | fz {v:V} {d:D} {vs:List V} {ss:List S} {P:Pl}:Rep K F v d→MixL K F H vs ss P→MixL K F H (v :: vs) (.fz d :: ss) P
  | own {p:Addr} {ho:HO} {o:O} {vs:List V} {ss:List S} {P:Pl}:OwnAt K F H p o→MixL K F H vs ss P→MixL K F H (.ref p :: vs) (.own o :: ss) ((p,ho) :: P)
def zc0:Dl→List Nat→List S→Dl
  | δ,i :: is,s :: ss=>zc0 (δ.set i (some s)) is ss
  | δ,_,_=>δ
def zvp:L2.St→List Nat→List V→L2.St
  | σ,i :: is,v :: vs=>zvp (σ.set i (some v)) is vs
  | σ,_,_=>σ
theorem RepS.setMix {vs:List V} {ss:List S} {P':Pl} (m:MixL K F H vs ss P'):∀ {is:List Nat} {δ:Dl} {σ:L2.St},RepS K F0 H0 (P'++P) δ σ F H→(pk P').Nodup∧(∀ p∈pk P',p ∉ pk P)→is.length=vs.length →
    RepS K F0 H0 P (zc0 δ is ss) (zvp σ is vs) F H:=by
  induction m with
  | nil =>
    intro is δ σ R _ hl
    cases is with
    | nil=>exact R
    | cons i is=>exact absurd hl (by simp)
  | fz r m ih =>
    intro is δ σ R nd hl
    cases is with
    | nil=>exact absurd hl (by simp)
    | cons i is=>exact ih (R.setF i r) nd (by simpa using hl)
  | @own p ho o vs ss P'' oa m ih =>
    intro is δ σ R nd hl
    cases is with
    | nil=>exact absurd hl (by simp)
    | cons i is =>
      obtain ⟨n1,n2⟩:=nd
      have n1:(p :: pk P'').Nodup:=n1
      have h2:=List.nodup_cons.mp n1
      have np:p ∉ pk (P''++P):=fun z=>by
        have z:p∈pk P''++pk P:=by simpa [pk] using z
        rcases List.mem_append.mp z with z | z
        · exact h2.1 z
        · exact n2 p (List.mem_cons_self ..) z
      exact ih (RepS.setO R np i oa) ⟨h2.2,fun q hq=>n2 q (List.mem_cons_of_mem _ hq)⟩ (by simpa using hl)
end
abbrev DM:=Dl→(Dl→List S→Prop)→Prop
def upAM (K:Frag) (t:DM):TA:=fun σ H Q=>∃ F0 H0 P δ F Q',RepS K F0 H0 P δ σ F H∧t δ Q'∧∀ δ' F' H' P' vs ss,RepS K F0 H0 (P'++P) δ' σ F' H'→MixL K F' H' vs ss P'→(pk P').Nodup∧(∀ p∈pk P',p ∉ pk P)→Ex F F'→Q' δ' ss→Q vs H'
def zhb:DM:=fun δ Q=>Q δ []
def dmF (te:DE) (ts:DM):DM:=fun δ Q=>te δ fun δ1 d=>ts δ1 fun δ2 ss=>Q δ2 (.fz d :: ss)
def dmO (to:DOw) (ts:DM):DM:=fun δ Q=>to δ fun δ1 o=>ts δ1 fun δ2 ss=>Q δ2 (.own o :: ss)
section
variable {X:Cx} {K:Frag} {e a b c o:Expr} {es:List Expr} {te:DE} {to:DOw} {tm:DM} {tw:DV} {pos p apos cpos:Pos}
theorem mmn:PA X [] (upAM K zhb):=zev pa_nil fun σ H Q ⟨F0,H0,P,δ,F,Q',R,ht,k⟩=>k δ F H [] [] [] R .nil ⟨List.nodup_nil,fun _ h=>nomatch h⟩ (Ex.refl F) ht
theorem mmf (he:PE X e (upE K te)) (hr:PA X es (upAM K tm)) (hs:starEach (e :: es) X.env=(false,eval e X.env) :: starEach es X.env:=by rfl):PA X (e :: es) (upAM K (dmF te tm)):=zev (pa_cons he hr hs) fun σ H Q ⟨F0,H0,P,δ,F,Q',R,ht,k⟩=>by
  refine ⟨F0,H0,P,δ,F,_,R,ht,fun δ1 F1 H1 x dx R1 e1 rx ht=>?_⟩
  refine ⟨F0,H0,P,δ1,F1,_,R1,ht,fun δ2 F2 H2 P' vs ss R2 m nd e2 ht=>?_⟩
  exact k δ2 F2 H2 P' (x :: vs) _ R2 (.fz (rx.mono e2) m) nd (e1.trans e2) ht
theorem mmo (he:PE X e (upO K to)) (hr:PA X es (upAM K tm)) (hs:starEach (e :: es) X.env=(false,eval e X.env) :: starEach es X.env:=by rfl):PA X (e :: es) (upAM K (dmO to tm)):=zev (pa_cons he hr hs) fun σ H Q ⟨F0,H0,P,δ,F,Q',R,ht,k⟩=>by
  refine ⟨F0,H0,P,δ,F,_,R,ht,fun δ1 F1 H1 p ho o R1 hP e1 oa ht=>?_⟩
  refine ⟨F0,H0,_,δ1,F1,_,R1,ht,fun δ2 F2 H2 P' vs ss R2 m nd e2 ht=>?_⟩
  have hH:H2 p=some ho:=(R2.rsv p ho (by simp)).2.2
  have hH1:H1 p=some ho:=(R1.rsv p ho (by simp)).2.2
  have np:p ∉ pk P':=fun z=>nd.2 p z (List.mem_cons_self ..)
  refine k δ2 F2 H2 ((p,ho) :: P') (.ref p :: vs) _ (R2.congrP fun q=>?_) (.own (oa.mono e2 (hH1.trans hH.symm)) m) ⟨List.nodup_cons.mpr ⟨np,nd.1⟩,fun q hq=>?_⟩ (e1.trans e2) ht
  · simp only [List.cons_append,List.mem_cons,List.mem_append]
    constructor
    · rintro (h | h | h)
      · exact .inr (.inl h)
      · exact .inl h
      · exact .inr (.inr h)
    · rintro (h | h | h)
      · exact .inr (.inl h)
      · exact .inl h
      · exact .inr (.inr h)
  · rcases List.mem_cons.mp hq with e | hq
    · rw [e]; exact hP
    · exact fun z=>nd.2 q hq (List.mem_cons_of_mem _ z)
theorem MixL.length {F H:Hp} {vs:List V} {ss:List S} {P:Pl} (m:MixL K F H vs ss P):vs.length=ss.length:=by
  induction m with
  | nil=>rfl
  | fz _ _ ih=>simp [ih]
  | own _ _ ih=>simp [ih]
def dPar (is:List Nat) (tm:DM):DS:=fun D δ=>tm δ fun δ1 ss=>ss.length=is.length∧D.nx (zc0 δ1 is ss)
theorem zkr {i j:Nat} {x y:Str} {px py pt:Pos} {kt k2 pt2} (hc:X.calm=true) (hN:X.N.Nodup) (hi:X.N[i]? = some x) (hj:X.N[j]? = some y) (hij:i≠j)
    (hx:X.env.scope.names.lookup x=some .local) (hy:X.env.scope.names.lookup y=some .local) (ha:PA X [a,b] (upAM K tm))
    (hw:swappedStores [.Tuple [.Name x px,.Name y py] kt pt] (.Tuple [a,b] k2 pt2) X.env=pure (some [x,y]))
    (hs:swapsWithSole [.Tuple [.Name x px,.Name y py] kt pt] (.Tuple [a,b] k2 pt2) pos.line X.env=pure false:=by rfl) :
    PS X (.Assign [.Tuple [.Name x px,.Name y py] kt pt] (.Tuple [a,b] k2 pt2) pos) (upS K (dPar [i,j] tm)):=jq (ps_par hc hN hi hj hij hx hy ha hw hs) fun D σ H ⟨F0,H0,δ,F,D',W⟩=>by
  refine ⟨F0,H0,[],δ,F,_,W.rep,W.t,fun δ1 F1 H1 P' vs ss R1 m nd e1 ⟨hl,q⟩=>?_⟩
  have hv:vs.length=2:=by rw [m.length,hl]; rfl
  obtain ⟨v,u,rfl⟩:∃ v u,vs=[v,u]:=by
    match vs,hv with
    | [v,u],_=>exact ⟨v,u,rfl⟩
  exact ⟨v,u,rfl,W.nx _ _ F1 H1 (RepS.setMix m (is:=[i,j]) R1 nd rfl) e1 q⟩
theorem zwi {i j l:Nat} {x y z:Str} {px py pz pt:Pos} {kt k2 pt2} (hc:X.calm=true) (hN:X.N.Nodup) (hi:X.N[i]? = some x) (hj:X.N[j]? = some y) (hl:X.N[l]? = some z) (hij:i≠j) (hil:i≠l) (hjl:j≠l)
    (hx:X.env.scope.names.lookup x=some .local) (hy:X.env.scope.names.lookup y=some .local) (hz:X.env.scope.names.lookup z=some .local) (ha:PA X [a,b,c] (upAM K tm))
    (hw:swappedStores [.Tuple [.Name x px,.Name y py,.Name z pz] kt pt] (.Tuple [a,b,c] k2 pt2) X.env=pure (some [x,y,z]))
    (hs:swapsWithSole [.Tuple [.Name x px,.Name y py,.Name z pz] kt pt] (.Tuple [a,b,c] k2 pt2) pos.line X.env=pure false:=by rfl) :
    PS X (.Assign [.Tuple [.Name x px,.Name y py,.Name z pz] kt pt] (.Tuple [a,b,c] k2 pt2) pos) (upS K (dPar [i,j,l] tm)):=jq (ps_par3 hc hN hi hj hl hij hil hjl hx hy hz ha hw hs) fun D σ H ⟨F0,H0,δ,F,D',W⟩=>by
  refine ⟨F0,H0,[],δ,F,_,W.rep,W.t,fun δ1 F1 H1 P' vs ss R1 m nd e1 ⟨hl,q⟩=>?_⟩
  have hv:vs.length=3:=by rw [m.length,hl]; rfl
  obtain ⟨v,u,w,rfl⟩:∃ v u w,vs=[v,u,w]:=by
    match vs,hv with
    | [v,u,w],_=>exact ⟨v,u,w,rfl⟩
  exact ⟨v,u,w,rfl,W.nx _ _ F1 H1 (RepS.setMix m (is:=[i,j,l]) R1 nd rfl) e1 q⟩
def dRg2 (ta tb:DE):DOw:=fun δ Q=>ta δ fun δ1 x=>tb δ1 fun δ2 y=>∃ i j,x = .int i∧y = .int j∧RgOk i j∧Q δ2 (.lst (rngD i j))
theorem zwj {F:Hp} (a b:Int):RepL K F (rgV a b) (rngD a b):=by
  unfold rgV rngD
  generalize (b - a).toNat=n
  have:∀ l:List Nat,RepL K F (l.map fun (i:Nat)=>V.int (a + (i:Int))) (l.map fun (i:Nat)=>D.int (a + (i:Int))):=by
    intro l
    induction l with
    | nil=>exact .nil
    | cons x r ih=>exact .cons (.int _) ih
  exact this _
theorem zrl {ta tb:DE} {p2 q2:Pos} (hc:X.calm=true) (hg:Gl X "list") (hm:X.mg "list" = none) (hg2:Gl X "range") (hm2:X.mg "range" = none) (ha:PE X a (upE K ta)) (hb:PE X b (upE K tb)) (na:starEach [a,b] X.env=(false,eval a X.env) :: starEach [b] X.env:=by rfl)
    (nc:starEach [b] X.env=(false,eval b X.env) :: starEach [] X.env:=by rfl) (hp:(backTo q2 (starEach [b] X.env)).any (·.1)=false:=by rfl)
    (nb:starEach [.Call (.Name "range" p2) [a,b] [] q2] X.env=(false,eval (.Call (.Name "range" p2) [a,b] [] q2) X.env) :: starEach [] X.env:=by rfl):PE X (.Call (.Name "list" p) [.Call (.Name "range" p2) [a,b] [] q2] [] pos) (upO K (dRg2 ta tb)):=by
  refine pimp (pe_listRg hc hg hm (prg_2 hg2 hm2 ha hb na nc hp) nb) fun σ H Q ⟨F0,H0,P,δ,F,Q',R,ht,k⟩=>?_
  refine ⟨F0,H0,P,δ,F,_,R,ht,fun δ1 F1 H1 x dx R1 e1 rx ht=>?_⟩
  refine ⟨F0,H0,P,δ1,F1,_,R1,ht,fun δ2 F2 H2 y dy R2 e2 ry ⟨i,j,ed,ed2,hr,q⟩=>?_⟩
  subst ed ed2
  cases rx; cases ry
  exact ⟨i,j,rfl,rfl,hr,fun l hl=>k δ2 F2 _ l _ _ (R2.newP hl) (R2.fresh hl) (e1.trans e2) (show OwnAt K F2 _ l (.lst _) from ⟨_,upd_same,zwj i j⟩) q⟩
end
structure FnAt (P:Program) (w:World) (K:Frag) (mg:Str→Option Value) (base:Heap) (A:Around) (f:Addr) (fd:FuncData) (ps:List Str) (sp:Sp):Prop where
  len:∀ vs H Q E,sp vs H Q E→vs.length=ps.length
  run:∀ (outer:List Env) (s:Shared) (H:Hp) (args:Args) (us:List Value) (vs:List V) (Q:VK),Env0 P w K mg base A outer s H→BindsTo s fd args (ps.zip us)→Vals vs us→sp vs H Q (fun _ _ _=>False) →
    codeAny (model P w) A (.call (.ref f) args) (CR CX0 outer P w H s Q (fun _ _ _=>False)) s
section
variable {P:Program} {w:World} {K:Frag} {mg:Str→Option Value} {base:Heap}
theorem fnAt {k:Nat} {A:Around} {f:Addr} {x qual:Str} {st:Stmt} {fd:FuncData} {N ps:List Str} {sp:Sp} (Fn:Fun K x qual st f fd) (S:FnScope N ps (defScope st)) (hr:Room (k + 1) A) (len:∀ vs H Q E,sp vs H Q E→vs.length=ps.length)
    (hbody:∀ (cdv:Value) (outer:List Env) (s:Shared) (H:Hp) (vs:List V) (Q:VK),Room k (A.deeper (envOfC qual (defScope st) s.heap.objs.size f cdv))→sp vs H Q (fun _ _ _=>False) →
      ∃ t,PSs (cxOf CX0 P w K mg base N qual (defScope st) f cdv A outer s H (fun _ _ _=>False)).nox (defBody st) t∧t { nx:=fun _ H'=>Q .non H',rt:=Q } (start N vs) H):FnAt P w K mg base A f fd ps sp:=by
  obtain ⟨oc,od,kV,doc,pm,an,cdv,ct,osl,rfl,lk,hcd⟩:=Fn.ex
  refine ⟨len,fun outer s H args us vs Q e0 hb r hsp=>?_⟩
  have keep:∀ b o,base.get? b=some o→s.heap.get? b=some o:=fun b o e=>(e0.bs b o e).1
  have KX:K.In s.heap:=e0.mod.kin.keeps keep
  have kinds:∀ y∈ps.zip us,(defScope st).names.lookup y.1=some .local∨((defScope st).names.lookup y.1=some .cell∧((cellsFrom (s.heap.objs.size + 1) (defScope st).names []).lookup y.1).isSome=true):=fun ⟨n,v⟩ hy =>
    (S.par n (List.of_mem_zip hy).1).elim .inl fun q=>.inr ⟨q,PySem.W.cellsFrom_some _ _ _ (.inl q)⟩
  refine codeAny_call_function hr.depth (KX _ _ lk) rfl S.co S.gen rfl (PySem.W.codeRec_of KX hcd) (hb _ _ _ _ (wpAny_newFunctionEnv_cells S.kind kinds fun env he s1 x=>?_))
  subst he
  refine ⟨(e0.mod.nolimit.keeps keep).keeps x.toInCall.keep,codeAny_func ?_⟩
  obtain ⟨t,ht,hq⟩:=hbody cdv outer s H vs Q (hr.deeper _) hsp
  have I:Inv (cxOf CX0 P w K mg base N qual (defScope st) f cdv A outer s H (fun _ _ _=>False)) [] (start N vs) H s1:=inv_start S hr.hd e0 (len _ _ _ _ hsp) r x
  refine wpAny_mono (ht.nox.run [] s1 (start N vs) H _ I hq) (fun fl s' hs=>?_) fun e s' hs=>hs
  cases fl with
  | ret u=>obtain ⟨v,σ',H',J,rv,q⟩:=hs; exact ⟨v,H',J.os,J.bare,J.base,J.hok,rv,q⟩
  | next=>obtain ⟨σ',H',J,q⟩:=hs; exact ⟨V.non,H',J.os,J.bare,J.base,J.hok,rfl,q⟩
  | brk=>obtain ⟨_,_,_,q⟩:=hs; exact q.elim
  | cont=>obtain ⟨_,_,_,q⟩:=hs; exact q.elim
theorem okL {k:Nat} {A:Around} {f:Addr} {x qual:Str} {st:Stmt} {fd:FuncData} {N ps:List Str} {sp:DSp} (Fn:Fun K x qual st f fd) (S:FnScope N ps (defScope st)) (hr:Room (k + 1) A)
    (hbody:∀ (cdv:Value) (outer:List Env) (s:Shared) (H:Hp),Room k (A.deeper (envOfC qual (defScope st) s.heap.objs.size f cdv)) →
      ∃ t,PSs (cxOf CX0 P w K mg base N qual (defScope st) f cdv A outer s H (fun _ _ _=>False)).nox (defBody st) (upS K t)∧∀ ds Q',ds.length=ps.length→sp ds Q'→t { nx:=fun _=>Q' (.fz .non),rt:=Q' } (zp N.length ds)):FnAt P w K mg base A f fd ps (spD K ps.length sp):=by
  refine fnAt Fn S hr (fun vs H Q E h=>?_) (fun cdv outer s H vs Q hr h=>?_)
  · obtain ⟨F,ds,Q',_,_,_,r,l,_⟩:=h
    rw [r.length,l]
  · obtain ⟨F,ds,Q',e,tp,lo,r,l,hs,k'⟩:=h
    obtain ⟨t,ht,hq⟩:=hbody cdv outer s H hr
    refine ⟨_,ht,F,H,zp N.length ds,F,_,⟨zf4 e tp lo r,hq ds Q' l hs,fun δ' σ' F' H' R _ q=>?_,fun _ _ _ _ _ _ q=>q.elim,fun _ _ _ _ _ _ q=>q.elim,fun F' H' v r G ok q=>k' F' H' v r G ok q⟩⟩
    exact k' F' H' .non (.fz .non) R.grown .non q
theorem zyc {mb:Str→Option Value} {fa a:Addr} {fd:FuncData} {x:Str} {sp:DSp} {s₁:Shared} {vs:List Value} {ns:List Int}
    (KX:K.In s₁.heap) (hns:s₁.heap.Ns mainGlobals mg) (hb:s₁.heap.Ns builtinsNs mb) (hbb:∀ x:Str,x≠"__name__" → mb x=bootBuiltins x) (hlim:s₁.heap.NoLimit) (hseer:s₁.heap.NoSeer) (hg:s₁.gens = #[])
    (ha:s₁.heap.get? a=some { cls:=.type "list", data:=.seq vs.toArray }) (hi:IntsAre vs ns) (hl:ns.length≤sizeLine) (hK1:K.lookup sysModules=none)
    (Fn:∀ base:Heap,K.In base→base.Ns mainGlobals mg→FnAt P w K mg base callerA fa fd [x] (spD K 1 sp)) (hbind:∀ (s:Shared) (u:Value),BindsTo s fd ⟨[u],[]⟩ [(x,u)])
    (hsp:sp [.scr ns] fun r=>r = .fz (.bl true)) :
    codeAny (model P w) callerA (.call (.ref fa) ⟨[.ref a],[]⟩) (fun r s'=>r = .ok (.ret (.bool true))∧OldK s₁.heap s'.heap∧s'.os=s₁.os∧AllBare s'.gens) s₁:=by
  obtain ⟨mm,⟨om,em,epm,hom,hdm,_⟩,_⟩:=hseer.mods
  have na:a≠sysModules:=fun z=>by
    rw [z,hom] at ha
    cases ha
    cases hdm
  let own:Addr→Bool:=fun b=>decide (b=a) && (K.lookup a).isNone
  let H:Hp:=fun b=>if own b=true then some (.frz { cls:=.type "list", data:=.seq vs.toArray } (.lst (ns.map V.int))) else if b=sysModules then some (.frz om (.ext fun _=>True)) else none
  have Hsys:H sysModules=some (.frz om (.ext fun _=>True)):=by
    have:own sysModules=false:=by simp [own,Ne.symm na]
    show (if own sysModules=true then _ else _)=_
    rw [this,if_neg (by decide),if_pos rfl]
  have Hcase:∀ b u,H b=some u→(b=a∧K.lookup a=none∧u = .frz { cls:=.type "list", data:=.seq vs.toArray } (.lst (ns.map V.int)))∨(b=sysModules∧u = .frz om (.ext fun _=>True)):=fun b u e=>by
    have e:(if own b=true then _ else _)=some u:=e
    split at e
    · rename_i q
      simp only [own,Bool.and_eq_true,decide_eq_true_eq,Option.isNone_iff_eq_none] at q
      exact .inl ⟨q.1,q.2,(Option.some.inj e).symm⟩
    · split at e
      · rename_i q; exact .inr ⟨q,(Option.some.inj e).symm⟩
      · cases e
  have rv:=vals_ints hi
  have free:∀ b o,s₁.heap.get? b=some o→(∃ es ep,o.data = .dict es ep)→b≠sysModules→H b=none:=fun b o e ⟨es,ep,hd⟩ nb=>by
    cases q:H b with
    | none=>rfl
    | some u =>
      rcases Hcase b u q with ⟨rfl,_,_⟩ | ⟨rfl,_⟩
      · rw [ha] at e; cases e; cases hd
      · exact absurd rfl nb
  have nsK:∀ {b:Addr} {m:Str→Option Value},b≠sysModules→s₁.heap.Ns b m→(hidT s₁.heap H).Ns b m:=fun {b m} nb ⟨o,es,ep,e,d,r⟩=>⟨o,es,ep,hidT_get e (free b o e ⟨es,ep,d⟩ nb),d,r⟩
  have hKb:K.In (hidT s₁.heap H):=fun b o e=>hidT_get (KX b o e) (by
    cases q:H b with
    | none=>rfl
    | some u =>
      rcases Hcase b u q with ⟨rfl,e2,_⟩ | ⟨rfl,_⟩
      · rw [e2] at e; cases e
      · rw [hK1] at e; cases e)
  have hM:Mod K mg (hidT s₁.heap H):=⟨hKb,nsK (by decide) hns,⟨mb,nsK (by decide) hb,hbb⟩,let ⟨mc,h1,h2⟩:=hlim; ⟨mc,nsK (by decide) h1,h2⟩⟩
  have hok:HOk P w H s₁.heap:=fun b u e=>by
    rcases Hcase b u e with ⟨rfl,_,rfl⟩ | ⟨rfl,rfl⟩
    · exact ⟨ha,by rw [List.length_map]; exact hl,vs,_,rv,ha⟩
    · exact ⟨hom,trivial,⟨_,hom⟩,fun _ _ _ _=>trivial⟩
  have e0:Env0 P w K mg (hidT s₁.heap H) callerA [] s₁ H:=⟨rfl,hM,fun b o e=>of_hidT e,Nat.le_of_eq (hidT_size _ _),trivial,(fun b hb=>nomatch (show b∈([]:List Addr) from hb)),hok,.of_eq hg⟩
  have hS:SqL K H a (ns.map V.int):=by
    cases hk:K.lookup a with
    | some o =>
      have e:=KX a o hk
      rw [ha] at e
      cases e
      exact .inr ⟨_,vs.toArray,_,hk,rfl,rfl,rfl,by rw [List.size_toArray,hi.length]; exact hl,by simpa using rv⟩
    | none =>
      have:own a=true:=by simp [own,hk]
      exact .inl (.inr ⟨_,if_pos this⟩)
  have tp:Tp H H:=fun b us e=>e
  refine codeAny_mono ((Fn _ hKb (nsK (by decide) hns)).run [] s₁ H ⟨[.ref a],[]⟩ [.ref a] [.ref a] (fun v _=>v = .bl true) e0 (hbind s₁ (.ref a)) (.cons (show RelV (.ref a) (.ref a) from rfl) .nil)
    ⟨H,[.scr ns],_,Ex.refl H,tp,⟨om,Hsys⟩,.cons (.scr hS) .nil,rfl,hsp,fun F' H' v r _ rr q=>?_⟩) fun r s' h=>?_
  · subst q
    cases rr
    rfl
  · cases r with
    | error e=>exact h.elim
    | ok fl =>
      cases fl with
      | next=>exact h.elim
      | brk=>exact h.elim
      | cont=>exact h.elim
      | ret u =>
        obtain ⟨v,H',os,bare,un,hok',r',q⟩:=h
        have q':v = .bl true:=q
        subst q'
        obtain rfl:u=Value.bool true:=r'
        refine ⟨rfl,OldK.of_keep fun b o e=>?_,os,bare⟩
        cases q:H b with
        | none=>exact un.keep b o e q (fun z=>nomatch (show b∈([]:List Addr) from z)) (fun z=>nomatch z)
        | some u =>
          obtain ⟨ob,uu,rfl⟩:∃ ob uu,u = .frz ob uu:=by
            rcases Hcase b u q with ⟨_,_,rfl⟩ | ⟨_,rfl⟩
            · exact ⟨_,_,rfl⟩
            · exact ⟨_,_,rfl⟩
          obtain ⟨e1,_⟩:=hok b _ q
          obtain ⟨e2,_⟩:=hok' b _ (un.frzs b ob _ q)
          rw [e] at e1; cases e1
          exact e2
end
section
variable {X:Cx} {K:Frag} {pins:List (Addr×Obj)} {σ:L2.St} {H:Hp} {s:Shared} {p:Addr}
theorem upd_self {H:Hp} {p:Addr} {o:HO} (h:H p=some o):upd H p o=H:=by
  funext b
  unfold upd
  split
  · rename_i e; rw [e,h]
  · rfl
theorem zug {P:Program} {w:World} {H:Hp} {h:Heap} {x y:Int} {t u:Tok} {n:Nat} (h0:0≤y) (h1:y < 2 ^ 32) (e:h.get? p=some { cls:=.type "list", data:=.seq [Value.int x t,Value.int y u].toArray n }):ObjOk P w H h p (zcj p) :=
  ⟨⟨x,y,t,u,n,h0,h1,e⟩,⟨_,e⟩,fun _ h2 ⟨x,y,t,u,n,a,b,c⟩ k=>⟨x,y,t,u,n,a,b,k _ c⟩⟩
theorem zlu (I:Inv X pins σ H s) (hp:H p=some (zcj p)):∃ x y:Int,0≤y∧y < 2 ^ 32∧Inv X pins σ (upd H p (.lst [.int x,.int y])) s:=by
  obtain ⟨⟨x,y,t,u,n,h0,h1,e⟩,_⟩:=I.hok p _ hp
  refine ⟨x,y,h0,h1,?_⟩
  have I2:=I.write (x:=p) (e:=p) (o:=.lst [.int x,.int y]) (h':=s.heap) (t':=s.toks) (by rw [hp]; trivial) (.inl rfl) (fun b u _ q=>q) ⟨_,e⟩
    ⟨(by show 2≤sizeLine; decide),_,n,.cons ⟨t,rfl⟩ (.cons ⟨u,rfl⟩ .nil),e⟩
  exact I2
theorem ze0 {x y:Int} (I:Inv X pins σ H s) (hp:H p=some (.lst [.int x,.int y])) (h0:0≤y) (h1:y < 2 ^ 32):Inv X pins σ (upd H p (zcj p)) s:=by
  obtain ⟨_,its,n,r,e⟩:=I.hok p _ hp
  cases r with
  | cons a r=>cases r with
    | cons b r =>
      cases r
      obtain ⟨t,rfl⟩:=a
      obtain ⟨u,rfl⟩:=b
      exact I.write (x:=p) (e:=p) (o:=zcj p) (h':=s.heap) (t':=s.toks) (by rw [hp]; trivial) (.inl rfl) (fun b u _ q=>q) ⟨_,e⟩ (zug h0 h1 e)
def rIxO:R2:=fun x y H Q=>∃ p,x = .ref p∧H p=some (zcj p)∧((y = .int 0∧∀ z,Q (.int z) H)∨(y = .int 1∧∀ z:Int,0≤z→z < 2 ^ 32→Q (.int z) H))
theorem zwk:IxR X rIxO:=by
  intro value slice pins s σ H x y v u Q I rx ry h hs
  obtain ⟨p,rfl,hp,h⟩:=h
  obtain ⟨a,b,h0,h1,I1⟩:=zlu I hp
  have back:∀ (v:V) (w:Value) (s':Shared),EP X pins σ (fun v' H'=>H'=upd H p (.lst [.int a,.int b])∧v'=v∧Q v H) w s'→EP X pins σ Q w s':=fun v w s' ⟨v',H',I',r',e1,e2,q⟩=>by
    subst e1 e2
    have:=ze0 I' upd_same h0 h1
    rw [upd_upd,upd_self hp] at this
    exact ⟨v',H,this,r',q⟩
  rcases h with ⟨rfl,q⟩ | ⟨rfl,q⟩
  · exact thn (ix_list value slice pins s σ _ _ _ v u _ I1 rx ry ⟨p,_,0,.int a,rfl,rfl,.inl (.inl upd_same),rfl,⟨rfl,rfl,q a⟩⟩ hs) fun w s' h=>back _ w s' h
  · exact thn (ix_list value slice pins s σ _ _ _ v u _ I1 rx ry ⟨p,_,1,.int b,rfl,rfl,.inl (.inl upd_same),rfl,⟨rfl,rfl,q b h0 h1⟩⟩ hs) fun w s' h=>back _ w s' h
def zzu:V→V→V→Hp→(Hp→Prop)→Prop:=fun o i v H Q=>∃ p z,o = .ref p∧H p=some (zcj p)∧v = .int z∧(i = .int 0∨i = .int 1∧0≤z∧z < 2 ^ 32)∧Q H
theorem zuh:PSet X zzu:=by
  intro pins s σ H o i v ov iv u Q I ro ri rv h
  obtain ⟨p,z,rfl,hp,rfl,hi,q⟩:=h
  obtain ⟨a,b,h0,h1,I1⟩:=zlu I hp
  have back:∀ (c d:Int),0≤d→d < 2 ^ 32→∀ s',(∃ H',Inv X pins σ H' s'∧H'=upd H p (.lst [.int c,.int d]))→∃ H',Inv X pins σ H' s'∧Q H':=fun c d g0 g1 s' ⟨H',I',e⟩=>by
    subst e
    have:=ze0 I' upd_same g0 g1
    rw [upd_upd,upd_self hp] at this
    exact ⟨H,this,q⟩
  rcases hi with rfl | ⟨rfl,g0,g1⟩
  · exact thn (set_list pins s σ _ _ _ _ ov iv u _ I1 ro ri rv ⟨p,_,0,0,rfl,rfl,upd_same,rfl,rfl⟩) fun _ s' h=>back z b h0 h1 s' (by
      obtain ⟨H',I',e⟩:=h; exact ⟨H',I',by rw [← e,upd_upd]; rfl⟩)
  · exact thn (set_list pins s σ _ _ _ _ ov iv u _ I1 ro ri rv ⟨p,_,1,1,rfl,rfl,upd_same,rfl,rfl⟩) fun _ s' h=>back a z g0 g1 s' (by
      obtain ⟨H',I',e⟩:=h; exact ⟨H',I',by rw [← e,upd_upd]; rfl⟩)
end
section
variable {X:Cx} {K:Frag} {e a b c o:Expr} {te ta tb tk:DE} {to:DOw} {pos p apos cpos:Pos}
def gIxS:D→D→(D→Prop)→Prop
  | .obj 0,.int i,Q=>(i=0∧∀ z,Q (.int z))∨(i=1∧∀ z:Int,0≤z→z < 2 ^ 32→Q (.int z))
  | _,_,_=>False
theorem zyd:Op2 K rIxO gIxS:=by
  intro x y F H dx dy Q Q' rx ry ex g k
  unfold gIxS at g
  split at g
  · cases rx with
    | obj n h =>
      cases ry
      refine ⟨_,rfl,ex _ _ h,?_⟩
      rcases g with ⟨rfl,g⟩ | ⟨rfl,g⟩
      · exact .inl ⟨rfl,fun z=>k _ _ (.int z) (g z)⟩
      · exact .inr ⟨rfl,fun z h0 h1=>k _ _ (.int z) (g z h0 h1)⟩
  · exact g.elim
theorem zga (ha:PE X a (upE K ta)) (hb:PE X b (upE K tb)) (hs:PlainIx b:=by exact fun _ _=>rfl):PE X (.Subscript a b pos) (upE K (d2 gIxS ta tb)):=pimp (pe_ix zwk ha hb hs) fun _ _ _ h=>up2 zyd h
def zrm (to ti:DE):DG:=fun d δ Q=>to δ fun δ1 x=>ti δ1 fun δ2 y=>x = .obj 0∧∃ z,d = .int z∧(y = .int 0∨y = .int 1∧0≤z∧z < 2 ^ 32)∧Q δ2
theorem zqg {ti:DE} (ho:PE X o (upE K ta)) (hi:PE X e (upE K ti)) (ha:∀ v,assign (.Subscript o e pos) X.env v=(do
      let ov ← holding [v] (eval o X.env)
      let iv ← holding [v,ov] (eval e X.env)
      standAt pos
      holding [v,ov,iv] (setItem ov iv v)
      release [v,ov,iv] []):=by intro _; rfl):PG X (.Subscript o e pos) (upG K (zrm ta ti)):=by
  refine gimp (pg_sub ho hi zuh ha) fun v σ H Q ⟨F0,H0,P,δ,F,d,Q',R,r,g,k⟩=>?_
  refine ⟨F0,H0,P,δ,F,_,R,g,fun δ1 F1 H1 x dx R1 e1 rx g=>?_⟩
  refine ⟨F0,H0,P,δ1,F1,_,R1,g,fun δ2 F2 H2 y dy R2 e2 ry ⟨ex,z,ed,hy,q⟩=>?_⟩
  subst ex ed
  cases r
  cases rx with
  | obj n h =>
    have hH:=R2.e3 _ _ (e2 _ _ h)
    refine ⟨_,z,rfl,hH,rfl,?_,k δ2 σ F2 H2 R2 (e1.trans e2) q⟩
    rcases hy with hy | ⟨hy,h0,h1⟩
    · subst hy; cases ry; exact .inl rfl
    · subst hy; cases ry; exact .inr ⟨rfl,h0,h1⟩
def znj (to:DOw):DE:=fun δ Q=>to δ fun δ1 o=>∃ x y:Int,o = .lst [.int x,.int y]∧0≤y∧y < 2 ^ 32∧Q δ1 (.obj 0)
def zzv (t:TE):TE:=fun σ H Q=>t σ H fun v H'=>∃ q x y,H' q=some (.lst [.int x,.int y])∧0≤y∧y < 2 ^ 32∧Q v (upd H' q (zcj q))
theorem zwl {t:TE} (h:PE X e t):PE X e (zzv t):=⟨fun pins s σ H Q I q=>thn (h.run pins s σ H _ I q) fun u s1 ⟨v,H1,I1,r1,q,x,y,hq,h0,h1,k⟩=>⟨v,_,ze0 I1 hq h0 h1,r1,k⟩⟩
theorem zzw (h:PE X e (upO K to)):PE X e (upE K (znj to)):=pimp (zwl h) fun σ H Q ⟨F0,H0,P,δ,F,Q',R,ht,k⟩=>by
  refine ⟨F0,H0,P,δ,F,_,R,ht,fun δ1 F1 H1 p ho o R1 hP e1 oa ⟨x,y,eo,h0,h1,q⟩=>?_⟩
  subst eo
  obtain ⟨vs,hv,rs⟩:=oa
  have ev:vs=[.int x,.int y]:=by
    cases rs with
    | cons a r=>cases r with
      | cons b r=>cases r; cases a; cases b; rfl
  subst ev
  have n1:=(R1.rsv p ho (by simp)).2.1
  exact ⟨p,x,y,hv,h0,h1,k δ1 _ _ _ _ (R1.frzP hP (zcj p)) (e1.trans (Ex.new n1)) (.obj 0 upd_same) q⟩
end
section
variable {X:Cx} {K:Frag} {e a b c o:Expr} {te ta tb tk:DE} {to:DOw} {tw:DV} {pos p apos cpos:Pos}
end
section
variable {X:Cx} {K:Frag} {e a b c o:Expr} {te ta tb tk:DE} {to:DOw} {tw:DV} {tt:DT} {g:DG} {wi:DI} {g0:TG} {pos p apos cpos spos:Pos} {elt tg iter:Expr} {ifs:List Expr} {scope:Scope} {own:List (Str×Nat)} {vs:List Nat}
theorem zvq (hc:X.calm=true) (hN:X.N.Nodup) (hi:PI X tg iter (upI K wi)) (ok:BlkOk X.N X.env.scope scope own)
    (hg:∀ (s:Shared) (H:Hp) (C:Addr) (cl:List (Str×Addr)) (fp:List Addr),PG (X.blk s H scope (compEnvC scope cl C X.env) fp) tg g0) (ht:∀ (s:Shared) (H:Hp) (C:Addr) (cl:List (Str×Addr)) (fp:List Addr),PTs (X.blk s H scope (compEnvC scope cl C X.env) fp) ifs (upT K tt))
    (he:∀ (s:Shared) (H:Hp) (C:Addr) (cl:List (Str×Addr)) (fp:List Addr),PE (X.blk s H scope (compEnvC scope cl C X.env) fp) elt (upE K te)) (gk:CT K (own.map (·.2)) g0 g) (hs:∀ x,foldedSetIterable iter X.env x=pure x:=by intro _; rfl) :
    PE X (.ListComp elt [⟨tg,iter,ifs,0⟩] scope pos) (upO K (dLc wi g tt te (own.map (·.2)))):=pimp (pe_lc hc hN hi ok hg ht he hs) fun _ _ _ h=>zrk gk h
def zye (t:TS):TS:=fun D σ H=>t { D with nx:=fun σ' H'=>D.nx σ' H'∨∃ d u,H' d=some u∧Mut (some u)∧∀ od,D.nx σ' (upd H' d (.frz od u)) } σ H
theorem zn3 {st:Stmt} {t:TS} (h:PS X st t):PS X st (zye t):=⟨fun pins s σ H D I q=>thn (h.run pins s σ H _ I q) fun f s1 r=>by
  cases f with
  | next =>
    obtain ⟨σ1,H1,I1,q1⟩:=r
    rcases q1 with q1 | ⟨d,u,h1,mu,q1⟩
    · exact ⟨σ1,H1,I1,q1⟩
    · obtain ⟨od,I2⟩:=I1.lock h1 mu
      exact ⟨σ1,_,I2,q1 od⟩
  | ret u=>exact r
  | brk=>exact r
  | cont=>exact r⟩
def zhc (i:Nat) (to:DOw):DS:=fun D δ=>to δ fun δ1 o=>D.nx (δ1.set i (some (.fz o.d)))
theorem zui {i:Nat} {y:Str} {py:Pos} (hc:X.calm=true) (hN:X.N.Nodup) (hy:X.N[i]? = some y) (hyl:X.env.scope.names.lookup y=some .local)
    (hsw:swapsWith (.ListComp elt [⟨tg,iter,ifs,0⟩] scope pos) (some (.Name y py)) spos.line X.env=pure true) (hi:PI X tg iter (upI K wi)) (ok:BlkOk X.N X.env.scope scope own)
    (hg:∀ (s:Shared) (H:Hp) (C:Addr) (cl:List (Str×Addr)) (fp:List Addr),PG (X.blk s H scope (compEnvC scope cl C X.env) fp) tg g0) (ht:∀ (s:Shared) (H:Hp) (C:Addr) (cl:List (Str×Addr)) (fp:List Addr),PTs (X.blk s H scope (compEnvC scope cl C X.env) fp) ifs (upT K tt))
    (he:∀ (s:Shared) (H:Hp) (C:Addr) (cl:List (Str×Addr)) (fp:List Addr),PE (X.blk s H scope (compEnvC scope cl C X.env) fp) elt (upE K te)) (gk:CT K (own.map (·.2)) g0 g) (hs:∀ x,foldedSetIterable iter X.env x=pure x:=by intro _; rfl) :
    PS X (.Assign [.Name y py] (.ListComp elt [⟨tg,iter,ifs,0⟩] scope pos) spos) (upS K (zhc i (dLc wi g tt te (own.map (·.2))))):=jq (zn3 (L2.ps_setLc hc hN hy hyl hsw hi ok hg ht he hs)) fun D σ H ⟨F0,H0,δ,F,D',W⟩=>by
  show tLc (upI K wi) g0 (upT K tt) (upE K te) (own.map (·.2)) σ H fun x H1=>D.nx (σ.set i (some x)) H1∨∃ d u,H1 d=some u∧Mut (some u)∧∀ od,D.nx (σ.set i (some x)) (upd H1 d (.frz od u))
  refine zrk gk ⟨F0,H0,[],δ,F,_,W.rep,W.t,fun δ1 F1 H1 p ho o R1 hP e1 oa q=>?_⟩
  have n1:=(R1.rsv p ho (by simp)).2.1
  obtain ⟨ho',hh,mu,rp⟩:=oa.rep n1
  exact .inr ⟨p,ho',hh,mu,fun od=>W.nx _ _ _ _ ((R1.frzP hP _).setF i (rp od)) (e1.trans (Ex.new n1)) q⟩
theorem zsj {i:Nat} {y:Str} {py:Pos} (hc:X.calm=true) (hN:X.N.Nodup) (hy:X.N[i]? = some y) (hyl:X.env.scope.names.lookup y=some .local)
    (hsw:swapsWith (.ListComp elt [⟨tg,iter,ifs,0⟩] scope pos) (some (.Name y py)) spos.line X.env=pure true) (hi:PI X tg iter (upI K wi)) (ok:BlkOk X.N X.env.scope scope own)
    (hg:∀ (s:Shared) (H:Hp) (C:Addr) (cl:List (Str×Addr)) (fp:List Addr),PG (X.blk s H scope (compEnvC scope cl C X.env) fp) tg g0) (ht:∀ (s:Shared) (H:Hp) (C:Addr) (cl:List (Str×Addr)) (fp:List Addr),PTs (X.blk s H scope (compEnvC scope cl C X.env) fp) ifs (upT K tt))
    (he:∀ (s:Shared) (H:Hp) (C:Addr) (cl:List (Str×Addr)) (fp:List Addr),PE (X.blk s H scope (compEnvC scope cl C X.env) fp) elt (upE K te)) (gk:CT K (own.map (·.2)) g0 g) (hs:∀ x,foldedSetIterable iter X.env x=pure x:=by intro _; rfl) :
    PS X (.Assign [.Name y py] (.ListComp elt [⟨tg,iter,ifs,0⟩] scope pos) spos) (upS K (ug i (dLc wi g tt te (own.map (·.2))))):=jq (L2.ps_setLc hc hN hy hyl hsw hi ok hg ht he hs) fun D σ H ⟨F0,H0,δ,F,D',W⟩=>by
  show tLc (upI K wi) g0 (upT K tt) (upE K te) (own.map (·.2)) σ H fun x H1=>D.nx (σ.set i (some x)) H1
  refine zrk gk ⟨F0,H0,[],δ,F,_,W.rep,W.t,fun δ1 F1 H1 p ho o R1 hP e1 oa q=>W.nx _ _ F1 H1 (R1.setO hP i oa) e1 q⟩
def dAug (i:Nat) (f:Int→Int→Int) (te:DE):DS:=fun D δ=>match δ[i]? with
  | some (some (.fz (.int a)))=>te δ fun δ1 d=>∃ b,d = .int b∧D.nx (δ1.set i (some (.fz (.int (f a b)))))
  | _=>False
theorem zyf {i:Nat} {x:Str} {op:Operator} {f:Int→Int→Int} {pos':Pos} (hN:X.N.Nodup) (hi:X.N[i]? = some x) (hx:Loc X.env.scope x) (he:PE X e (upE K te)) (ho:PIp X op (ipI f)) (hf:X.fn x=true∨X.env.scope.names.lookup x=some .local:=by first | exact .inl rfl | exact .inr rfl | assumption) :
    PS X (.AugAssign (.Name x pos') op e pos) (upS K (dAug i f te)):=jq (ps_aug hN hi hx he ho hf) fun D σ H ⟨F0,H0,δ,F,D',W⟩=>by
  have ht:=W.t
  unfold dAug at ht
  split at ht
  · rename_i n e1
    obtain ⟨v,ev,r⟩:=W.rep.fz e1
    cases r
    exact ⟨_,ev,F0,H0,[],δ,F,_,W.rep,ht,fun δ1 F1 H1 y dy R1 ex1 ry ⟨b,eb,q⟩=>by
      subst eb
      cases ry
      exact ⟨n,b,rfl,rfl,W.nx _ _ F1 H1 (R1.setF i (.int _)) ex1 q⟩⟩
  · exact ht.elim
end
abbrev noE:Value→Shared→Prop:=fun _ _=>False
section
variable {prog:Program} {w:World} {A:Around} {R:Result→Shared→Prop} {comp tg:Expr} {c:Nat} {p:Pos} {ifs:List Expr} {it acc:Value} {env:Env} {body:Sem PySem.Fin}
theorem zpw (hq:(Code.compLoop comp c it acc env).quiet=true)
    (hT:compTurn comp c it acc env=(do
      standAt p
      match ← pyNext it with
      | none=>pure (.done .next)
      | some v =>
        letOwnedTupleGo tg it v
        assign tg env v
        let mut ok:=true
        for t in ifs do
          if ok then ok ← isTrue t env (eval t env)
        if ok then body
        else again (.compLoop comp c it acc env)))
    (hd:∀ s Q E,wpAny (model prog w) A ((compTurn comp c it acc env).onRaise fun x=>do noteFrame x env; theTreesLotGoes x) Q E s→wpAny (model prog w) (A.under (.compLoop comp c it acc env)) ((model prog w).den (.compLoop comp c it acc env)) Q E s)
    (I:Nat→Shared→Prop)
    (turn:∀ n s,I n s→wpAny (model prog w) A (pyNext it) (fun r s1=>match r with
      | none=>R (.ok .next) s1
      | some v=>wpAny (model prog w) A (letOwnedTupleGo tg it v) (fun _ s2=>wpAny (model prog w) A (assign tg env v) (fun _ s3 =>
          wpAny (model prog w) A (forIn ifs true fun t r=>if r=true then do let ok ← isTrue t env (eval t env); pure (ForInStep.yield ok) else pure (ForInStep.yield r)) (fun ok s4 =>
            if ok=true then wpAny (model prog w) A body (fun fin s5=>fin = .again (.compLoop comp c it acc env)∧∃ m,m < n∧I m s5) noE s4 else ∃ m,m < n∧I m s4) noE s3) noE s2) noE s1) noE s)
    {n:Nat} {s:Shared} (h:I n s):codeAny (model prog w) A (.compLoop comp c it acc env) R s:=by
  refine codeAny_loop hq I (fun n s hI=>hd _ _ _ (wpAny_noted ?_)) n h
  rw [hT]
  refine wpAny_bind (wpAny_standAt (wpAny_bind (thnF (turn n s hI) fun r s1 h1=>?_)))
  cases r with
  | none=>exact wpAny_pure h1
  | some v =>
    refine wpAny_bind (thnF h1 fun _ s2 h2=>wpAny_bind (thnF h2 fun _ s3 h3=>wpAny_bind (thnF h3 fun ok s4 h4=>?_)))
    cases ok with
    | false=>exact wpAny_pure ⟨rfl,h4⟩
    | true=>exact thnF h4 fun fin s5 ⟨e,h5⟩=>by subst e; exact ⟨rfl,h5⟩
end
abbrev TB:=L2.St→Hp→(Hp→Prop)→Prop
def znk (g:TG) (tt:TT) (tb:TB) (vs:List Nat) (J:It):TB:=fun σ H Qd=>∃ W:Nat→Nat→Hp→Prop,(∃ m,W 0 m H)∧∀ i m H,W i m H →
  (J.stop i H∧Qd H)∨(J.go i H∧∃ Nx:Hp→Prop,(∀ H',Nx H'→∃ m',m' < m∧W (i + 1) m' H')∧∀ x H',J.yld i H x H'→g x (wipe σ vs) H' fun σ2 H2=>wipe σ2 vs=wipe σ vs ∧
    tt σ2 H2 fun b H3=>if b=true then tb σ2 H3 Nx else Nx H3)
def PB (Y:Cx) (lc:Code) (body:Sem PySem.Fin) (tb:TB) (us:List Nat):Prop:=∀ (pins:List (Addr×Obj)) (s:Shared) (σ:L2.St) (H:Hp) (N:Hp→Prop),Inv Y pins σ H s→tb σ H N →
  wpAny (model Y.prog Y.w) Y.A body (fun fin s'=>fin = .again lc∧∃ H',Inv Y pins (wipe σ us) H' s'∧N H') noE s
theorem zn4 {σ τ:L2.St} {vs us:List Nat} (hu:∀ i∈us,i∈vs) (e:wipe τ vs=wipe σ vs):(wipe σ vs).length=(wipe τ us).length∧∀ (j:Nat) v,(wipe σ vs)[j]? = some (some v)→(wipe τ us)[j]? = some (some v):=by
  refine ⟨by rw [← e,wipe_length,wipe_length],fun j v h=>?_⟩
  rw [← e] at h
  obtain ⟨h1,h2⟩:=wipe_some h
  rw [zh0 fun m=>h2 (hu j m)]
  exact h1
theorem zn5 {Y:Cx} (hc:Y.calm=true) (hxe:Y.xe=noE) {comp tg:Expr} {c:Nat} {p:Pos} {ifs:List Expr} {it:Addr} {acc:Value} {body:Sem PySem.Fin} {g:TG} {tt:TT} {tb:TB} {vs us:List Nat} {J:It} {fp:List Addr} {tn:Nat→Heap→Prop} {R:Result→Shared→Prop}
    (hq:(Code.compLoop comp c (.ref it) acc Y.env).quiet=true)
    (hT:compTurn comp c (.ref it) acc Y.env=(do
      standAt p
      match ← pyNext (.ref it) with
      | none=>pure (.done .next)
      | some v =>
        letOwnedTupleGo tg (.ref it) v
        assign tg Y.env v
        let mut ok:=true
        for t in ifs do
          if ok then ok ← isTrue t Y.env (eval t Y.env)
        if ok then body
        else again (.compLoop comp c (.ref it) acc Y.env)))
    (hd:∀ s Q E,wpAny (model Y.prog Y.w) Y.A ((compTurn comp c (.ref it) acc Y.env).onRaise fun x=>do noteFrame x Y.env; theTreesLotGoes x) Q E s→wpAny (model Y.prog Y.w) (Y.A.under (.compLoop comp c (.ref it) acc Y.env)) ((model Y.prog Y.w).den (.compLoop comp c (.ref it) acc Y.env)) Q E s)
    (T:Turn Y.prog Y.w Y.K tg J fp it tn) (pg:PG Y tg g) (pt:PTs Y ifs tt) (pb:PB Y (.compLoop comp c (.ref it) acc Y.env) body tb us) (hu:∀ i∈us,i∈vs)
    {pins:List (Addr×Obj)} {s:Shared} {σ:L2.St} {H:Hp} (I:Inv Y pins (wipe σ vs) H s) (st:tn 0 s.heap) (f0:∀ b∈fp,FpOk Y pins H b) {Qd:Hp→Prop} (h:znk g tt tb vs J σ H Qd)
    (hR:∀ s' H',Inv Y pins (wipe σ vs) H' s'→Qd H'→R (.ok .next) s'):codeAny (model Y.prog Y.w) Y.A (.compLoop comp c (.ref it) acc Y.env) R s:=by
  obtain ⟨W,⟨m0,w0⟩,turn⟩:=h
  refine zpw hq hT hd (fun n s'=>∃ i H',Inv Y pins (wipe σ vs) H' s'∧tn i s'.heap∧(∀ b∈fp,H' b=none)∧W i n H') ?_ (n:=m0) ⟨0,H,I,st,fun b hb=>(f0 b hb).1,w0⟩
  rintro n s1 ⟨i,H1,I1,st1,n1,w1⟩
  have f1:∀ b∈fp,FpOk Y pins H1 b:=fun b hb=>⟨n1 b hb,(f0 b hb).2⟩
  rcases turn i n H1 w1 with ⟨stop,qq⟩ | ⟨go,Nx,hNx,step⟩
  · refine thnF (T.done Y rfl rfl rfl hc i pins s1 _ H1 noE I1 f1 st1 stop) fun r s2 ⟨hr,I2⟩=>?_
    subst hr
    exact hR s2 H1 I2 qq
  · refine thnF (T.item Y rfl rfl rfl hc i pins s1 _ H1 noE I1 f1 st1 go) fun r s2 ⟨u,hr,h2⟩=>?_
    subst hr
    refine thnF h2 fun _ s3 ⟨x,H3,I3,r3,y3,st3,n3⟩=>?_
    have I3':=I3.pinned (fun b hb=>⟨n3 b hb,(f0 b hb).2⟩) (T.obj _ _ st3)
    have pgr:=pg.run _ s3 _ H3 x u _ I3' r3 (step x H3 y3)
    rw [hxe] at pgr
    refine thnF pgr fun _ s4 ⟨σ4,H4,I4,hw4,q4⟩=>?_
    have ptr:=pt.run _ s4 σ4 H4 _ I4 q4
    rw [hxe] at ptr
    refine thnF ptr fun b s5 ⟨H5,I5,q5⟩=>?_
    have fin:∀ {τ:L2.St} {s':Shared} {H':Hp},Inv Y (pins++pinsAt fp s3.heap) τ H' s'→((wipe σ vs).length=τ.length∧∀ (j:Nat) v,(wipe σ vs)[j]? = some (some v)→τ[j]? = some (some v))→Nx H' →
        ∃ m,m < n∧∃ i H',Inv Y pins (wipe σ vs) H' s'∧tn i s'.heap∧(∀ b∈fp,H' b=none)∧W i m H':=fun {τ s' H'} I' hl nx=>by
      obtain ⟨m,hm,w'⟩:=hNx H' nx
      have pin:∀ b∈fp,∀ o,s3.heap.get? b=some o→s'.heap.get? b=some o∧H' b=none:=fun b hb o e =>
        have z:=I'.pin (b,o) (List.mem_append_right _ (List.mem_append_right _ (mem_pinsAt hb e)))
        ⟨z.1,z.2.1⟩
      refine ⟨m,hm,i + 1,H',I'.unpinned.weak hl.1 hl.2,T.keep _ _ _ st3 (fun b hb o e=>(pin b hb o e).1),fun b hb=>?_,w'⟩
      obtain ⟨o,e,_⟩:=T.obj _ _ st3 b hb
      exact (pin b hb o e).2
    cases b with
    | false =>
      rw [if_neg (by decide)] at q5 ⊢
      exact fin I5 (zn4 (us:=[]) (fun i h=>nomatch h) hw4) q5
    | true =>
      rw [if_pos rfl] at q5 ⊢
      exact thnF (pb _ s5 σ4 H5 Nx I5 q5) fun _ s6 ⟨ea,H6,I6,q6⟩=>⟨ea,fin I6 (zn4 hu hw4) q6⟩
theorem zyg {Y:Cx} {pins:List (Addr×Obj)} {σ:L2.St} {H H':Hp} {s:Shared} {E:Value→Shared→Prop} {D:Addr} {y z:V} {u r:Value} {Q:Unit→Shared→Prop} (hu:Y.A.units + 1 < cLine) (I:Inv Y pins σ H s) (g:DPut H D y z H') (ry:RelV y u) (rz:RelV z r)
    (h:∀ s',Inv Y pins σ H' s'→Q () s'):wpAny (model Y.prog Y.w) Y.A (dictSet D u r) Q E s:=by
  rcases g with ⟨kvs,k,e,rfl,l,rfl⟩ | ⟨kvs,k,b,e,rfl,eb,l,rfl⟩
  · exact d_dictSet I e l ry rz h
  · cases ry
    obtain ⟨hz,hd,xs,rel,dd⟩:=dt_of I.hok e
    have hx:xs.length≤sizeLine:=by rw [← rel.length]; exact hz
    have hl:(putK kvs k z).length≤sizeLine:=by have:=length_putK kvs k z; omega
    refine wpAny_dictSet_heap (show Y.A.units < cLine by omega) (key_of I.hok eb) dd (fun h' dd' hs=>h _ ?_) hx
    obtain ⟨q,es,ep,hq,h2,h3,h4,_,h5⟩:=dd'
    have ok':ObjOk Y.prog Y.w (upd H D (.dT (putK kvs k z))) h' D (.dT (putK kvs k z)):=⟨hl,hd,_,(rel.put k eb rz).keeps fun c ys ec=>by rw [upd_ne (ne_of ec e (fun z=>nomatch z))]; exact ec,q,es,ep,hq,h2,h3,h4,h5⟩
    exact d_write I (by rw [e]; exact True.intro) hs ⟨q,hq⟩ ok'
def tPut (tk tv:TE) (D:Addr):TB:=fun σ H N=>tk σ H fun y H1=>tv σ H1 fun z H2=>∃ H3,DPut H2 D y z H3∧N H3
section
variable {Y:Cx} {kx vx:Expr} {tk tv:TE}
theorem zsk {D:Addr} {q:Pos} {lc:Code} (hxe:Y.xe=noE) (hu:Y.A.units + 1 < cLine) (pk:PE Y kx tk) (pv:PE Y vx tv) :
    PB Y lc (do
      (do let a ← eval kx Y.env
          let b ← holding [a] (eval vx Y.env)
          standAt q
          holding [a,b] (dictSet D a b))
      again lc) (tPut tk tv D) []:=fun pins s σ H N I h=>by
  have r1:=pk.run pins s σ H _ I h
  rw [hxe] at r1
  refine wpAny_bind (wpAny_bind (thnF r1 fun a s1 ⟨y,H1,I1,ry,h1⟩=>?_))
  have r2:=pv.run pins s1 σ H1 _ I1 h1
  rw [hxe] at r2
  exact wpAny_bind (wpAny_holding (thnF r2 fun b s2 ⟨z,H2,I2,rz,H3,g,h3⟩=>wpAny_bind (wpAny_standAt (wpAny_holding (zyg hu I2 g ry rz fun s' I'=>wpAny_pure ⟨rfl,H3,I',h3⟩)))))
def zi9 (wi:TI) (g:TG) (tt:TT) (tb:TB) (vs:List Nat):TB:=fun σ H N=>wi σ H fun J H1=>znk g tt tb vs J σ H1 N
theorem zuj {comp tg i1:Expr} {ifs:List Expr} {p:Pos} {acc:Value} {lc:Code} {body:Addr→Sem PySem.Fin} {wi:TI} {g:TG} {tt:TT} {tb:TB} {vs us:List Nat} (hc:Y.calm=true) (hxe:Y.xe=noE) (hs:∀ x,foldedSetIterable i1 Y.env x=pure x)
    (hq:∀ it,(Code.compLoop comp 1 (.ref it) acc Y.env).quiet=true)
    (hT:∀ it:Addr,compTurn comp 1 (.ref it) acc Y.env=(do
      standAt p
      match ← pyNext (.ref it) with
      | none=>pure (.done .next)
      | some v =>
        letOwnedTupleGo tg (.ref it) v
        assign tg Y.env v
        let mut ok:=true
        for t in ifs do
          if ok then ok ← isTrue t Y.env (eval t Y.env)
        if ok then body it
        else again (.compLoop comp 1 (.ref it) acc Y.env)))
    (hd:∀ (it:Addr) s Q E,wpAny (model Y.prog Y.w) Y.A ((compTurn comp 1 (.ref it) acc Y.env).onRaise fun x=>do noteFrame x Y.env; theTreesLotGoes x) Q E s→wpAny (model Y.prog Y.w) (Y.A.under (.compLoop comp 1 (.ref it) acc Y.env)) ((model Y.prog Y.w).den (.compLoop comp 1 (.ref it) acc Y.env)) Q E s)
    (go:∀ (it:Addr) (R:Result→Shared→Prop) (s:Shared),codeAny (model Y.prog Y.w) Y.A (.compLoop comp 1 (.ref it) acc Y.env) R s→(wpAny (model Y.prog Y.w) Y.A (pyIter (.ref it)) (fun it' s'=>codeAny (model Y.prog Y.w) Y.A (.compLoop comp 1 it' acc Y.env) R s') noE s) →
      codeAny (model Y.prog Y.w) Y.A (.compStart comp 1 (.ref it) acc Y.env) R s)
    (hi:PI Y tg i1 wi) (pg:PG Y tg g) (pt:PTs Y ifs tt) (pb:∀ it:Addr,PB Y (.compLoop comp 1 (.ref it) acc Y.env) (body it) tb us) (hu:∀ i∈us,i∈vs) :
    PB Y lc (do
      let x ← eval i1 Y.env
      standAt i1.pos
      let x ← foldedSetIterable i1 Y.env x
      let _ ← runOwn (.compStart comp 1 (← holding [x] (pyIter x)) acc Y.env) Y.env
      again lc) (zi9 wi g tt tb vs) vs:=fun pins s σ H N I h=>by
  have r1:=hi.run pins s σ H _ I h
  rw [hxe] at r1
  refine wpAny_bind (thnF r1 fun xv s1 h1=>wpAny_bind (wpAny_standAt (wpAny_bind (wpAny_of_eq (hs xv) (wpAny_bind (wpAny_holding (thnF h1 fun itv s2 h2=>?_)))))))
  obtain ⟨it,fp,tn,J,H2,e,I2,T,st2,f2,q⟩:=h2
  subst e
  have loop:codeAny (model Y.prog Y.w) Y.A (.compLoop comp 1 (.ref it) acc Y.env) (fun r s'=>match r with
      | .ok _=>∃ H',Inv Y pins (wipe σ vs) H' s'∧N H'
      | .error _=>False) s2 :=
    zn5 hc hxe (hq it) (hT it) (hd it) T pg pt (pb it) hu (I2.weak (wipe_length _ _) (fun j v e=>(wipe_some e).1)) st2 f2 q fun s' H' I' n=>⟨H',I',n⟩
  refine wpAny_bind (wpAny_runOwn ?_)
  rw [Around.mark_none]
  refine codeAny_mono (go it _ s2 loop (T.self Y.A 0 _ _ _ st2 loop)) fun r s' hr=>?_
  cases r with
  | ok f=>exact wpAny_pure ⟨rfl,hr⟩
  | error e=>exact hr.elim
end
theorem zuk {X:Cx} {pins:List (Addr×Obj)} {s:Shared} {σ:L2.St} {H:Hp} {comp tg iter:Expr} {ifs:List Expr} {rest:List Comprehension} {scope:Scope} {own:List (Str×Nat)} {pos':Pos} {wi:TI} {new:HO} {obj0:Obj} {mk:Sem Value} {Qd:Addr→Hp→Prop} {Qf:Value→Shared→Prop} {use:Option (Value→Sem Unit)}
    (hN:X.N.Nodup) (I:Inv X pins σ H s) (hi:PI X tg iter wi) (ok:BlkOk X.N X.env.scope scope own) (hcl:clausesOf comp=⟨tg,iter,ifs,0⟩ :: rest) (hs:∀ x,foldedSetIterable iter X.env x=pure x)
    (hmk:∀ (s:Shared) (Q:Value→Shared→Prop) (E:Value→Shared→Prop),Q (.ref s.heap.objs.size) { s with heap:=s.heap.push obj0 }→wpAny (model X.prog X.w) X.A mk Q E s)
    (hnew:∀ (h:Heap) (H:Hp),sysModules < h.objs.size→ObjOk X.prog X.w H (h.push obj0) h.objs.size new)
    {R0:It→Hp→Prop} (h:wi σ H R0) (hw:∀ J H1,R0 J H1→∀ D,H1 D=none→∀ (s3:Shared) (fp:List Addr) (tn:Nat→Heap→Prop) (it:Addr) (ce:Env) (s4:Shared),Turn X.prog X.w X.K tg J fp it tn→tn 0 s4.heap →
      ce=compEnvC scope (cellsFrom (s3.heap.objs.size + 1) scope.names (cloFrom X.env.cells scope.names [])) s3.heap.objs.size X.env →
      Inv (X.blk s3 (upd H1 D new) scope ce fp) [] (wipe σ (own.map (·.2))) (upd H1 D new) s4→(∀ b∈fp,FpOk (X.blk s3 (upd H1 D new) scope ce fp) [] (upd H1 D new) b) →
      ∀ R:Result→Shared→Prop,(∀ s' H',Inv (X.blk s3 (upd H1 D new) scope ce fp) [] (wipe σ (own.map (·.2))) H' s'→Qd D H'→R (.ok .next) s')→codeAny (model X.prog X.w) X.A (.compStart comp 0 (.ref it) (.ref D) ce) R s4)
    (hQ:∀ D C s' m H',Inv X pins σ H' s'→Qd D H'→s'.heap.Ns C m→FpOk X pins H' C→compPost (model X.prog X.w) X.A X.xe use Qf (.ref D) C (.ok .next) s') :
    wpAny (model X.prog X.w) X.A (comprehension comp scope X.env pos' mk false (eval iter X.env) use) Qf X.xe s:=by
  have hfree:∀ y∈scope.names,y.2 = .free→∃ c,X.env.cells.lookup y.1=some c:=fun y hy e=>(ok.free y hy e).elim (fun k=>I.ok.has _ (.inl k)) fun k=>I.ok.has _ (.inr k)
  refine wpAny_comprehension_free (use:=use) hcl hs (closure_ok hfree) ok.kind (fun y hy e=>(ok.uniq y hy).trans (congrArg some e)) (thn (hi.run pins s σ H _ I h) fun xv s1 h1=>thn h1 fun itv s2 h2=>?_)
  obtain ⟨it,fp,tn,J,H2,e,I2,T,st2,f2,q⟩:=h2
  subst e
  refine hmk s2 _ _ (newEnv_comp ?_)
  have hn2:H2 s2.heap.objs.size=none:=I2.hok.fresh (Nat.le_refl _)
  have keep3:∀ b o,s2.heap.get? b=some o→(s2.heap.push obj0).get? b=some o:=fun b o z=>Heap.get?_push_of_some _ z
  have I3:Inv X pins σ (upd H2 s2.heap.objs.size new) { s2 with heap:=s2.heap.push obj0 }:=I2.laid (t':=s2.toks) keep3 (Nat.le_refl _) (hnew _ _ I2.big)
  have f3:∀ b∈fp,FpOk X pins (upd H2 s2.heap.objs.size new) b∧b < (s2.heap.push obj0).objs.size:=fun b hb=>by
    obtain ⟨o,z,_⟩:=T.obj _ _ st2 b hb
    have lt:=Heap.lt_size z
    exact ⟨⟨(upd_ne (Nat.ne_of_lt lt)).trans (f2 b hb).1,(f2 b hb).2⟩,by rw [Heap.size_push]; exact Nat.lt_succ_of_lt lt⟩
  have I4:=block_start I3 ok hN f3
  refine hw J H2 q _ hn2 { s2 with heap:=s2.heap.push obj0 } fp tn it _ _ T ?_ rfl I4 (fun b hb=>?_) _ fun s' H' I' qd=>?_
  · exact T.keep _ _ _ st2 fun b _ o z=>pushCells_keeps _ _ _ _ (Heap.get?_push_of_some _ (keep3 b o z))
  · exact ⟨(f3 b hb).1.1,(I4.ok.exf b hb).1,I4.ok.exfs b hb,.inl hb,fun x c z=>(I4.ok.exf b hb).2 x c z,fun p hp=>absurd (show p∈([]:List (Addr×Obj))++[] from hp) (by simp)⟩
  · have I7:Inv X pins σ H' s':=I3.call' (ch:=fp) I'.os I'.base I'.hok I'.bare fun b hb=>have z:=(f3 b hb).1.2; ⟨z.2.2.1,z.1,z.2.2.2.1,z.2.2.2.2⟩
    obtain ⟨m,hm,_⟩:=I'.loc
    exact hQ _ _ s' m H' I7 qd hm (I3.fpOk (Nat.le_refl _) I'.free)
abbrev dict0:Obj:={ cls:=.type "dict", data:=.dict #[] }
theorem zyh {prog:Program} {w:World} {A:Around} {R:Result→Shared→Prop} {s:Shared} {kx vx t0 i0 t1 i1:Expr} {f0 f1:List Expr} {scope:Scope} {pos:Pos} {it acc:Value} {env:Env} (h0:codeAny (model prog w) A (.compLoop (.DictComp kx vx [⟨t0,i0,f0,0⟩,⟨t1,i1,f1,0⟩] scope pos) 1 it acc env) R s)
    (h:wpAny (model prog w) A (pyIter it) (fun it' s'=>codeAny (model prog w) A (.compLoop (.DictComp kx vx [⟨t0,i0,f0,0⟩,⟨t1,i1,f1,0⟩] scope pos) 1 it' acc env) R s') noE s) :
    codeAny (model prog w) A (.compStart (.DictComp kx vx [⟨t0,i0,f0,0⟩,⟨t1,i1,f1,0⟩] scope pos) 1 it acc env) R s:=by
  refine codeAny_of_tree (show wpAny _ _ ((compStart (.DictComp kx vx [⟨t0,i0,f0,0⟩,⟨t1,i1,f1,0⟩] scope pos) 1 it acc env).onRaise fun x=>do noteFrame x env; standAt theWindowsPlace) _ _ s from wpAny_notedAt ?_)
  unfold compStart
  refine (show wpAny _ _ (ask >>= _) _ _ s from wpAny_bind (wpAny_askSetting (wpAny_ite ?_)))
  split
  · first | exact wpAny_pure ⟨rfl,h0⟩ | exact wpAny_bind (wpAny_pure (wpAny_pure ⟨rfl,h0⟩))
  · refine wpAny_bind (wpAny_rule ?_)
    first
      | exact (show wpAny _ _ (standAt i1.pos >>= _) _ _ s from wpAny_bind (wpAny_standAt (wpAny_bind (thnF h fun it' s' h'=>wpAny_pure ⟨rfl,h'⟩))))
      | exact wpAny_bind (wpAny_standAt (wpAny_bind (thnF h fun it' s' h'=>wpAny_pure ⟨rfl,h'⟩)))
section
variable {X:Cx} {kx vx tg iter tg1 i1:Expr} {ifs ifs1:List Expr} {scope:Scope} {own:List (Str×Nat)} {pos:Pos} {wi wi1:TI} {g g1:TG} {tt tt1:TT} {tk tv:TE} {new:HO} {vs1:List Nat}
def tDc1 (new:HO) (wi:TI) (g:TG) (tt:TT) (tb:Addr→TB) (vs:List Nat):TE:=fun σ H Q=>wi σ H fun J H1=>∀ D,H1 D=none→znk g tt (tb D) vs J σ (upd H1 D new) fun H'=>Q (.ref D) H'
def NewD (X:Cx) (new:HO):Prop:=∀ (h:Heap) (H:Hp),sysModules < h.objs.size→ObjOk X.prog X.w H (h.push dict0) h.objs.size new
theorem zzx:NewD X (.dK []):=fun h H hb=>dk_empty h hb
theorem zzy:NewD X (.dT []):=fun h H hb=>dt_empty h hb
def DcR (X:Cx) (kx vx:Expr) (tg iter:Expr) (ifs:List Expr) (rest:List Comprehension) (scope:Scope) (pos:Pos) (t:TE):Prop:=∀ (pins:List (Addr×Obj)) (s:Shared) (σ:L2.St) (H:Hp) (Q:VK) (pos':Pos) (use:Option (Value→Sem Unit)) (Qf:Value→Shared→Prop),Inv X pins σ H s→t σ H Q →
  (∀ D C s' m H',Inv X pins σ H' s'→Q (.ref D) H'→s'.heap.Ns C m→FpOk X pins H' C→compPost (model X.prog X.w) X.A X.xe use Qf (.ref D) C (.ok .next) s') →
  wpAny (model X.prog X.w) X.A (comprehension (.DictComp kx vx (⟨tg,iter,ifs,0⟩ :: rest) scope pos) scope X.env pos' newDict false (eval iter X.env) use) Qf X.xe s
theorem zyi {rest:List Comprehension} {t:TE} (h:DcR X kx vx tg iter ifs rest scope pos t):PE X (.DictComp kx vx (⟨tg,iter,ifs,0⟩ :: rest) scope pos) t:=by
  refine ⟨fun pins s σ H Q I q=>?_⟩
  rw [arm_eval_DictComp]
  refine h pins s σ H Q _ none _ I q fun D C s' m H' I' q hn f=>⟨m,hn,fun h'' sb=>?_⟩
  obtain ⟨f0,f1,f2,f3,f4,f5⟩:=f
  exact ⟨.ref D,H',I'.turned (t':=s'.toks) (fun b o hb e=>(sb.2 b hb).trans e) f0 f1 f3 f4 f5,rfl,q⟩
theorem zsl {rest:List Comprehension} {t:TE} {i:Nat} {y:Str} {py spos:Pos} (h:DcR X kx vx tg iter ifs rest scope pos t) (hN:X.N.Nodup) (hy:X.N[i]? = some y) (hyl:X.env.scope.names.lookup y=some .local)
    (hsw:swapsWith (.DictComp kx vx (⟨tg,iter,ifs,0⟩ :: rest) scope pos) (some (.Name y py)) spos.line X.env=pure true):PS X (.Assign [.Name y py] (.DictComp kx vx (⟨tg,iter,ifs,0⟩ :: rest) scope pos) spos) (tAsg t (gName i)):=by
  refine ⟨fun pins s σ H D I q=>?_⟩
  rw [exec_Assign_Name_used _ _ _ _ hsw]
  refine wpAny_bind (wpAny_standAt (wpAny_bind ?_))
  rw [arm_evalThenUse_DictComp]
  have q:t σ H (fun x H1=>gName i x σ H1 D.nx):=q
  refine wpAny_bind (thn (h pins s σ H _ _ (some (assign (.Name y py) X.env)) (fun _ s'=>SP X pins D .next s') I q fun L C s' m H' I' q hn f=>?_) fun _ s' hq=>wpAny_pure (wpAny_pure hq))
  obtain ⟨f0,f1,f2,f3,f4,f5⟩:=f
  refine (show wpAny _ _ (assign (.Name y py) X.env (.ref L)) _ _ _ from wpAny_assign_Name (store_ok2 (v:=V.ref L) I' hN hy (.inl hyl) rfl (fun s2 I2 ⟨a,sb,ha⟩=>⟨m,hn.sameBut sb ?_,fun h3 sb3=>⟨_,H',I2.turned (t':=s2.toks) (fun b o hb e=>(sb3.2 b hb).trans e) f0 f1 f3 f4 f5,q⟩⟩) (.inr hyl)))
  exact ha.elim (fun z=>z ▸ f1) fun z e=>f4 y a z e.symm
theorem zvr {gs:List Comprehension} {py:Pos} {y:Str} {l:Nat} {env:Env} (hk:env.scope.kind = .function) (hy:env.scope.names.lookup y=some .local) (hl:(py.line == pos.line)=true)
    (ha:(scope.names.any fun (n,k)=>n == y && (k == .local || k == .cell))=false):swapsWith (.DictComp kx vx gs scope pos) (some (.Name y py)) l env=pure true:=by
  have hb:env.blockKind = .function:=by unfold Env.blockKind; rw [hk]; rfl
  have hy':env.kindOf y=some .local:=hy
  unfold swapsWith
  simp only [hb,hy',ha,Expr.pos,hl]
  rfl
theorem zsm {pins:List (Addr×Obj)} {s:Shared} {σ:L2.St} {H:Hp} {rest:List Comprehension} {tb:Addr→TB} {us:List Nat} {body:Code→Addr→Env→Sem PySem.Fin} {use:Option (Value→Sem Unit)} {Qf:Value→Shared→Prop} {pos':Pos} {Q:VK} (hc:X.calm=true) (hN:X.N.Nodup) (I:Inv X pins σ H s) (hi:PI X tg iter wi)
    (ok:BlkOk X.N X.env.scope scope own) (hg:∀ s H C cl fp,PG (X.blk s H scope (compEnvC scope cl C X.env) fp) tg g) (ht:∀ s H C cl fp,PTs (X.blk s H scope (compEnvC scope cl C X.env) fp) ifs tt) (hb:∀ lc D s H C cl fp,PB (X.blk s H scope (compEnvC scope cl C X.env) fp) lc (body lc D (compEnvC scope cl C X.env)) (tb D) us)
    (hu:∀ i∈us,i∈own.map (·.2)) (hs:∀ x,foldedSetIterable iter X.env x=pure x) (nw:NewD X new)
    (hT:∀ (it:Value) (D:Addr) (env:Env),compTurn (.DictComp kx vx (⟨tg,iter,ifs,0⟩ :: rest) scope pos) 0 it (.ref D) env=(do
      standAt iter.pos
      match ← pyNext it with
      | none=>pure (.done .next)
      | some v =>
        letOwnedTupleGo tg it v
        assign tg env v
        let mut ok:=true
        for t in ifs do
          if ok then ok ← isTrue t env (eval t env)
        if ok then body (.compLoop (.DictComp kx vx (⟨tg,iter,ifs,0⟩ :: rest) scope pos) 0 it (.ref D) env) D env
        else again (.compLoop (.DictComp kx vx (⟨tg,iter,ifs,0⟩ :: rest) scope pos) 0 it (.ref D) env)))
    (h:tDc1 new wi g tt tb (own.map (·.2)) σ H Q) (hQ:∀ D C s' m H',Inv X pins σ H' s'→Q (.ref D) H'→s'.heap.Ns C m→FpOk X pins H' C→compPost (model X.prog X.w) X.A X.xe use Qf (.ref D) C (.ok .next) s') :
    wpAny (model X.prog X.w) X.A (comprehension (.DictComp kx vx (⟨tg,iter,ifs,0⟩ :: rest) scope pos) scope X.env pos' newDict false (eval iter X.env) use) Qf X.xe s:=by
  refine zuk (obj0:=dict0) (Qd:=fun D H'=>Q (.ref D) H') hN I hi ok rfl hs (fun s Q E q=>wpAny_newObj_type q) nw h (fun J H1 q D hD s3 fp tn it ce s4 T st e I4 f4 R hR=>?_) hQ
  subst e
  have loop:codeAny (model X.prog X.w) X.A (.compLoop (.DictComp kx vx (⟨tg,iter,ifs,0⟩ :: rest) scope pos) 0 (.ref it) (.ref D) (compEnvC scope (cellsFrom (s3.heap.objs.size + 1) scope.names (cloFrom X.env.cells scope.names [])) s3.heap.objs.size X.env)) R s4 :=
    zn5 (Y:=X.blk s3 (upd H1 D new) scope _ fp) hc rfl rfl (hT (.ref it) D _) (fun s Q E q=>q) T (hg _ _ _ _ _) (ht _ _ _ _ _) (hb _ D _ _ _ _ _) hu I4 st f4 (q D hD) hR
  exact codeAny_compStart_dict loop (T.self X.A 0 _ _ _ st loop)
abbrev zvs (kx vx:Expr) (lc:Code) (D:Addr) (env:Env):Sem PySem.Fin:=do
  (do let a ← eval kx env
      let b ← holding [a] (eval vx env)
      standAt { kx.pos with endLine:=vx.pos.endLine,endCol:=vx.pos.endCol }
      holding [a,b] (dictSet D a b))
  again lc
theorem zzz (hc:X.calm=true) (hN:X.N.Nodup) (hx:X.A.units + 1 < cLine) (hi:PI X tg iter wi) (ok:BlkOk X.N X.env.scope scope own) (hg:∀ s H C cl fp,PG (X.blk s H scope (compEnvC scope cl C X.env) fp) tg g) (ht:∀ s H C cl fp,PTs (X.blk s H scope (compEnvC scope cl C X.env) fp) ifs tt)
    (hk:∀ s H C cl fp,PE (X.blk s H scope (compEnvC scope cl C X.env) fp) kx tk) (hv:∀ s H C cl fp,PE (X.blk s H scope (compEnvC scope cl C X.env) fp) vx tv) (nw:NewD X new) (hs:∀ x,foldedSetIterable iter X.env x=pure x:=by intro _; rfl) :
    DcR X kx vx tg iter ifs [] scope pos (tDc1 new wi g tt (tPut tk tv) (own.map (·.2))):=by
  intro pins s σ H Q pos' use Qf I h hQ
  refine zsm (us:=[]) (tb:=tPut tk tv) (body:=zvs kx vx) (use:=use) hc hN I hi ok hg ht (fun lc D s H C cl fp=>zsk (Y:=X.blk s H scope (compEnvC scope cl C X.env) fp) rfl hx (hk _ _ _ _ _) (hv _ _ _ _ _)) (fun i h=>nomatch h) hs nw (fun it D env=>by rfl) h hQ
theorem zz0 (hc:X.calm=true) (hN:X.N.Nodup) (hx:X.A.units + 1 < cLine) (hi:PI X tg iter wi) (ok:BlkOk X.N X.env.scope scope own) (hg:∀ s H C cl fp,PG (X.blk s H scope (compEnvC scope cl C X.env) fp) tg g) (ht:∀ s H C cl fp,PTs (X.blk s H scope (compEnvC scope cl C X.env) fp) ifs tt)
    (hi1:∀ s H C cl fp,PI (X.blk s H scope (compEnvC scope cl C X.env) fp) tg1 i1 wi1) (hg1:∀ s H C cl fp,PG (X.blk s H scope (compEnvC scope cl C X.env) fp) tg1 g1) (ht1:∀ s H C cl fp,PTs (X.blk s H scope (compEnvC scope cl C X.env) fp) ifs1 tt1)
    (hk:∀ s H C cl fp,PE (X.blk s H scope (compEnvC scope cl C X.env) fp) kx tk) (hv:∀ s H C cl fp,PE (X.blk s H scope (compEnvC scope cl C X.env) fp) vx tv) (hu:∀ i∈vs1,i∈own.map (·.2)) (nw:NewD X new)
    (hs:∀ x,foldedSetIterable iter X.env x=pure x:=by intro _; rfl) (hs1:∀ env x,foldedSetIterable i1 env x=pure x:=by intro _ _; rfl) :
    DcR X kx vx tg iter ifs [⟨tg1,i1,ifs1,0⟩] scope pos (tDc1 new wi g tt (fun D=>zi9 wi1 g1 tt1 (tPut tk tv D) vs1) (own.map (·.2))):=by
  intro pins s σ H Q pos' use Qf I h hQ
  refine zsm (us:=vs1) (tb:=fun D=>zi9 wi1 g1 tt1 (tPut tk tv D) vs1) (use:=use) (body:=fun lc D env=>do
    let x ← eval i1 env
    standAt i1.pos
    let x ← foldedSetIterable i1 env x
    let _ ← runOwn (.compStart (.DictComp kx vx [⟨tg,iter,ifs,0⟩,⟨tg1,i1,ifs1,0⟩] scope pos) 1 (← holding [x] (pyIter x)) (.ref D) env) env
    again lc) hc hN I hi ok hg ht
    (fun lc D s H C cl fp=>zuj (Y:=X.blk s H scope (compEnvC scope cl C X.env) fp) (acc:=.ref D) (us:=[]) (p:=i1.pos) (body:=fun it=>zvs kx vx (.compLoop (.DictComp kx vx [⟨tg,iter,ifs,0⟩,⟨tg1,i1,ifs1,0⟩] scope pos) 1 (.ref it) (.ref D) (compEnvC scope cl C X.env)) D (compEnvC scope cl C X.env))
      hc rfl (hs1 _) (fun it=>rfl) (fun it=>by rfl) (fun it s Q E q=>q) (fun it R s h0 h1=>zyh h0 h1) (hi1 _ _ _ _ _) (hg1 _ _ _ _ _) (ht1 _ _ _ _ _) (fun it=>zsk (Y:=X.blk s H scope (compEnvC scope cl C X.env) fp) rfl hx (hk _ _ _ _ _) (hv _ _ _ _ _)) (fun i h=>nomatch h)) hu hs nw (fun it D env=>by rfl) h hQ
end
abbrev DB:=Dl→O→(Dl→O→Prop)→Prop
def znl (g:DG) (tt:DT) (tb:DB) (vs:List Nat) (ds:List D) (δ1:Dl) (acc0:O) (Q:Dl→O→Prop):Prop:=ds.length≤sizeLine∧∃ I:Nat→Dl→O→Prop,I 0 (zq δ1 vs) acc0 ∧
  (∀ i d δ2 acc,ds[i]? = some d→I i δ2 acc→g d δ2 fun δ3=>tt δ3 fun δ4 b=>if b=true then tb δ4 acc fun δ5 acc'=>I (i + 1) (zq δ5 vs) acc' else I (i + 1) (zq δ4 vs) acc) ∧
  ∀ δ2 acc,I ds.length δ2 acc→Q (zq δ2 vs) acc
def putO (acc:O) (y z:D) (Q:O→Prop):Prop:=match acc with
  | .dk kvs=>∃ k,dkey y=some k∧kvs.length < sizeLine∧Q (.dk (putG kvs k z))
  | .dt kvs=>∃ k,tkey y=some k∧kvs.length < sizeLine∧Q (.dt (putG kvs k z))
  | _=>False
def y5 (tk tv:DE):DB:=fun δ acc Q=>tk δ fun δ1 y=>tv δ1 fun δ2 z=>putO acc y z (Q δ2)
def zgb (wi:DI) (g:DG) (tt:DT) (tb:DB) (vs:List Nat):DB:=fun δ acc Q=>wi δ fun δ1 ds=>znl g tt tb vs ds δ1 acc Q
def dDc (o0:O) (wi:DI) (g:DG) (tt:DT) (tb:DB) (vs:List Nat):DOw:=fun δ Q=>wi δ fun δ1 ds=>znl g tt tb vs ds δ1 o0 fun δ2 acc=>Q (y4 δ1 δ2 vs) acc
def OwnO (K:Frag) (F:Hp) (ho:HO):O→Prop
  | .lst ds=>∃ vs,ho = .lst vs∧RepL K F vs ds
  | .dk kvs=>∃ ws,ho = .dK ws∧RepK K F ws kvs
  | .dt kvs=>∃ ws,ho = .dT ws∧RepT K F ws kvs
  | .ins C fs=>∃ ws:Addr×List (Str×V),ho = .ins C ws.1 ws.2∧RepF K F ws.2 fs
theorem OwnO.mono {K:Frag} {F F':Hp} {ho:HO} {o:O} (h:OwnO K F ho o) (e:Ex F F'):OwnO K F' ho o:=by
  cases o <;> (obtain ⟨vs,h1,h2⟩:=h; exact ⟨vs,h1,h2.mono e⟩)
theorem OwnO.own {K:Frag} {F H:Hp} {p:Addr} {ho:HO} {o:O} (h:OwnO K F ho o) (e:H p=some ho):OwnAt K F H p o:=by
  cases o <;> (obtain ⟨vs,rfl,h2⟩:=h; exact ⟨vs,e,h2⟩)
def BUp (K:Frag) (D:Addr) (tb0:TB) (tb:DB) (us:List Nat):Prop:=∀ (F0 H0:Hp) (P:Pl) (δ:Dl) (σ:L2.St) (F H:Hp) (ho:HO) (acc:O) (Q':Dl→O→Prop) (N:Hp→Prop),RepS K F0 H0 ((D,ho) :: P) δ σ F H→D ∉ pk P→OwnO K F ho acc→tb δ acc Q' →
  (∀ δ' F' H' ho' acc',RepS K F0 H0 ((D,ho') :: P) δ' (L2.wipe σ us) F' H'→Ex F F'→OwnO K F' ho' acc'→Q' δ' acc'→N H')→tb0 σ H N
theorem zul {τ:L2.St} {us vs:List Nat} (h:∀ i∈us,i∈vs):L2.wipe (L2.wipe τ us) vs=L2.wipe τ vs:=by
  apply List.ext_getElem?
  intro j
  rw [yn,yn,yn,L2.wipe_length]
  by_cases a:j∈vs
  · by_cases b:j < τ.length
    · rw [if_pos ⟨a,b⟩,if_pos ⟨a,b⟩]
    · rw [if_neg (fun z=>b z.2),if_neg (fun z=>b z.2),if_neg (fun z=>b z.2)]
  · rw [if_neg (fun z=>a z.1),if_neg (fun z=>a (h j z.1)),if_neg (fun z=>a z.1)]
section
variable {K:Frag} {L:Addr} {g0:TG} {g:DG} {tt:DT} {tb0:TB} {tb:DB} {vs us:List Nat}
theorem zqh (gk:CT K vs g0 g) (bu:BUp K L tb0 tb us) (hu:∀ i∈us,i∈vs) {F0 H0:Hp} {P:Pl} {δ1:Dl} {σ:L2.St} {F1 H1:Hp} {ho:HO} {acc0:O} {Q':Dl→O→Prop} {Qd:Hp→Prop} {J:It} {ds:List D}
    (R1:RepS K F0 H0 ((L,ho) :: P) δ1 σ F1 H1) (hD:L ∉ pk P) (oa:OwnO K F1 ho acc0) (wk:WalkD K F1 J ds) (h:znl g tt tb vs ds δ1 acc0 Q')
    (k:∀ δ2 F' H' ho' acc',RepS K F0 H0 ((L,ho') :: P) (zq δ2 vs) (L2.wipe σ vs) F' H'→Ex F1 F'→OwnO K F' ho' acc'→Q' (zq δ2 vs) acc'→Qd H'):znk g0 (upT K tt) tb0 vs J σ H1 Qd:=by
  obtain ⟨hsz,I,i0,is,id⟩:=h
  refine ⟨fun i m H2=>m=ds.length - i∧i≤ds.length∧∃ δ2 F2 ho2 acc,RepS K F0 H0 ((L,ho2) :: P) δ2 (L2.wipe σ vs) F2 H2∧Ex F1 F2∧OwnO K F2 ho2 acc∧I i δ2 acc,⟨_,rfl,Nat.zero_le _,_,F1,ho,acc0,R1.wipe vs,Ex.refl F1,oa,i0⟩,?_⟩
  rintro i m H2 ⟨rfl,hi,δ2,F2,ho2,acc,R2,e2,oa2,q2⟩
  by_cases hlt:i < ds.length
  · have hd:ds[i]? = some ds[i]:=List.getElem?_eq_getElem hlt
    refine .inr ⟨wk.go i H2 hlt (e2.trans R2.e3),fun H3=>∃ δ3 F3 ho3 acc,RepS K F0 H0 ((L,ho3) :: P) δ3 (L2.wipe σ vs) F3 H3∧Ex F1 F3∧OwnO K F3 ho3 acc∧I (i + 1) δ3 acc,
      fun H3 ⟨δ3,F3,ho3,acc,z⟩=>⟨_,by omega,rfl,hlt,δ3,F3,ho3,acc,z⟩,fun x H3 y=>?_⟩
    have y':=wk.yld i _ F2 H2 x H3 hd e2 R2.e3 R2.tp y
    obtain ⟨F3,R3,e3,rx⟩:=y'.rep R2
    refine gk F0 H0 _ _ _ F3 H3 x _ _ _ R3 rx (is i _ _ acc hd q2) fun δ4 σ4 R4 w4 q4=>⟨w4.trans zay,?_⟩
    have w5:L2.wipe σ4 vs=L2.wipe σ vs:=w4.trans zay
    refine ⟨F0,H0,_,δ4,F3,_,R4,q4,fun δ5 F5 H5 b R5 e5 q5=>?_⟩
    cases b with
    | true =>
      rw [if_pos rfl] at q5 ⊢
      refine bu F0 H0 P δ5 σ4 F5 H5 ho2 acc _ _ R5 hD (oa2.mono (e3.trans e5)) q5 fun δ6 F6 H6 ho6 acc6 R6 e6 oa6 q6=>?_
      have R7:=R6.wipe vs
      rw [zul hu,w5] at R7
      exact ⟨_,F6,ho6,acc6,R7,e2.trans ((e3.trans e5).trans e6),oa6,q6⟩
    | false =>
      rw [if_neg (by decide)] at q5 ⊢
      exact ⟨_,F5,ho2,acc,w5 ▸ (R5.wipe vs),e2.trans (e3.trans e5),oa2.mono (e3.trans e5),q5⟩
  · have e:i=ds.length:=by omega
    subst e
    refine .inl ⟨wk.stop H2 (e2.trans R2.e3),?_⟩
    have R3:=R2.wipe vs
    rw [zay] at R3
    exact k δ2 F2 H2 ho2 acc R3 e2 oa2 (id _ acc q2)
theorem zsn {tk tv:DE}:BUp K L (tPut (upE K tk) (upE K tv) L) (y5 tk tv) []:=fun F0 H0 P δ σ F H ho acc Q' N R hD oa h k=>by
  refine ⟨F0,H0,_,δ,F,_,R,h,fun δ1 F1 H1 y dy R1 e1 ry h1=>?_⟩
  refine ⟨F0,H0,_,δ1,F1,_,R1,h1,fun δ2 F2 H2 z dz R2 e2 rz h2=>?_⟩
  have hH:=(R2.rsv L ho (by simp)).2.2
  have oa2:=oa.mono (e1.trans e2)
  cases acc with
  | lst _=>exact h2.elim
  | ins _ _=>exact h2.elim
  | dk kvs =>
    obtain ⟨ws,rfl,rw⟩:=oa2
    obtain ⟨kk,hk,hl,q⟩:=h2
    exact ⟨_,.inl ⟨ws,kk,hH,ye ry hk,by rw [rw.g.length]; exact hl,rfl⟩,k δ2 F2 _ _ (.dk _) (R2.wrP hD _) (e1.trans e2) ⟨_,rfl,(rw.g.put kk rz).k⟩ q⟩
  | dt kvs =>
    obtain ⟨ws,rfl,rw⟩:=oa2
    obtain ⟨kk,hk,hl,q⟩:=h2
    obtain ⟨c,rfl,hc⟩:=zhz (ry.mono e2) hk
    exact ⟨_,.inr ⟨ws,kk,c,hH,rfl,R2.e3 _ _ hc,by rw [rw.g.length]; exact hl,rfl⟩,k δ2 F2 _ _ (.dt _) (R2.wrP hD _) (e1.trans e2) ⟨_,rfl,(rw.g.put kk rz).t⟩ q⟩
theorem zum {wi:DI} (gk:CT K vs g0 g) (bu:BUp K L tb0 tb us) (hu:∀ i∈us,i∈vs):BUp K L (zi9 (upI K wi) g0 (upT K tt) tb0 vs) (zgb wi g tt tb vs) vs:=fun F0 H0 P δ σ F H ho acc Q' N R hD oa h k =>
  ⟨F0,H0,_,δ,F,_,R,h,fun δ1 F1 H1 J ds R1 e1 wk q=>zqh gk bu hu R1 hD (oa.mono e1) wk q fun δ2 F2 H2 ho2 acc2 R2 e2 oa2 q2=>k _ F2 H2 ho2 acc2 R2 (e1.trans e2) oa2 q2⟩
inductive New0:HO→O→Prop
  | k:New0 (.dK []) (.dk [])
  | t:New0 (.dT []) (.dt [])
theorem zvt {wi:DI} {new:HO} {o0:O} (nw:New0 new o0) (gk:CT K vs g0 g) {tbs:Addr→TB} (bu:∀ C,BUp K C (tbs C) tb us) (hu:∀ i∈us,i∈vs) {σ:L2.St} {H:Hp} {Q:VK} (h:upO K (dDc o0 wi g tt tb vs) σ H Q):tDc1 new (upI K wi) g0 (upT K tt) tbs vs σ H Q:=by
  obtain ⟨F0,H0,P,δ,F,Q',R,ht,k⟩:=h
  refine ⟨F0,H0,P,δ,F,_,R,ht,fun δ1 F1 H1 J ds R1 e1 wk q C hD=>?_⟩
  have hP:=R1.fresh hD
  have RD:RepS K F0 H0 ((C,new) :: P) δ1 σ F1 (upd H1 C new):=by cases nw <;> exact R1.newP hD
  have oa:OwnO K F1 new o0:=by
    cases nw
    · exact ⟨[],rfl,.nil⟩
    · exact ⟨[],rfl,.nil⟩
  refine zqh gk (bu C) hu RD hP oa wk q fun δ2 F2 H2 ho2 acc2 R2 e2 oa2 q2=>?_
  exact k _ F2 H2 C ho2 acc2 (RepS.rest2 R1 e2 (RepS.unwipe R2)) hP (e1.trans e2) (oa2.own (R2.rsv C _ (by simp)).2.2) q2
end
section
variable {X:Cx} {K:Frag} {kx vx tg iter tg1 i1:Expr} {ifs ifs1:List Expr} {scope:Scope} {own:List (Str×Nat)} {pos:Pos} {wi wi1:DI} {g0 g01:TG} {g g1:DG} {tt tt1:DT} {tk tv:DE} {vs1:List Nat} {new:HO} {o0:O} {rest:List Comprehension} {t:DOw} {t0:TE}
theorem zqi (h:New0 new o0):NewD X new:=by cases h; exact zzx; exact zzy
def DcU (X:Cx) (K:Frag) (kx vx tg iter:Expr) (ifs:List Expr) (rest:List Comprehension) (scope:Scope) (pos:Pos) (t:DOw):Prop:=∃ t0,DcR X kx vx tg iter ifs rest scope pos t0∧∀ σ H Q,upO K t σ H Q→t0 σ H Q
theorem dcu1 (nw:New0 new o0) (hc:X.calm=true) (hN:X.N.Nodup) (hx:X.A.units + 1 < cLine) (hi:PI X tg iter (upI K wi)) (ok:BlkOk X.N X.env.scope scope own) (hg:∀ s H C cl fp,PG (X.blk s H scope (compEnvC scope cl C X.env) fp) tg g0) (ht:∀ s H C cl fp,PTs (X.blk s H scope (compEnvC scope cl C X.env) fp) ifs (upT K tt))
    (hk:∀ s H C cl fp,PE (X.blk s H scope (compEnvC scope cl C X.env) fp) kx (upE K tk)) (hv:∀ s H C cl fp,PE (X.blk s H scope (compEnvC scope cl C X.env) fp) vx (upE K tv)) (gk:CT K (own.map (·.2)) g0 g) (hs:∀ x,foldedSetIterable iter X.env x=pure x:=by intro _; rfl) :
    DcU X K kx vx tg iter ifs [] scope pos (dDc o0 wi g tt (y5 tk tv) (own.map (·.2))) :=
  ⟨_,zzz hc hN hx hi ok hg ht hk hv (zqi nw) hs,fun σ H Q h=>zvt nw gk (us:=[]) (fun C=>zsn) (fun i h=>nomatch h) h⟩
theorem dcu2 (nw:New0 new o0) (hc:X.calm=true) (hN:X.N.Nodup) (hx:X.A.units + 1 < cLine) (hi:PI X tg iter (upI K wi)) (ok:BlkOk X.N X.env.scope scope own) (hg:∀ s H C cl fp,PG (X.blk s H scope (compEnvC scope cl C X.env) fp) tg g0) (ht:∀ s H C cl fp,PTs (X.blk s H scope (compEnvC scope cl C X.env) fp) ifs (upT K tt))
    (hi1:∀ s H C cl fp,PI (X.blk s H scope (compEnvC scope cl C X.env) fp) tg1 i1 (upI K wi1)) (hg1:∀ s H C cl fp,PG (X.blk s H scope (compEnvC scope cl C X.env) fp) tg1 g01) (ht1:∀ s H C cl fp,PTs (X.blk s H scope (compEnvC scope cl C X.env) fp) ifs1 (upT K tt1))
    (hk:∀ s H C cl fp,PE (X.blk s H scope (compEnvC scope cl C X.env) fp) kx (upE K tk)) (hv:∀ s H C cl fp,PE (X.blk s H scope (compEnvC scope cl C X.env) fp) vx (upE K tv)) (gk:CT K (own.map (·.2)) g0 g) (gk1:CT K vs1 g01 g1) (hu:∀ i∈vs1,i∈own.map (·.2))
    (hs:∀ x,foldedSetIterable iter X.env x=pure x:=by intro _; rfl) (hs1:∀ env x,foldedSetIterable i1 env x=pure x:=by intro _ _; rfl) :
    DcU X K kx vx tg iter ifs [⟨tg1,i1,ifs1,0⟩] scope pos (dDc o0 wi g tt (zgb wi1 g1 tt1 (y5 tk tv) vs1) (own.map (·.2))) :=
  ⟨_,zz0 hc hN hx hi ok hg ht hi1 hg1 ht1 hk hv hu (zqi nw) hs hs1,fun σ H Q h=>zvt nw gk (us:=vs1) (fun C=>zum gk1 zsn (fun i h=>nomatch h)) hu h⟩
theorem zhd (h:DcU X K kx vx tg iter ifs rest scope pos t):PE X (.DictComp kx vx (⟨tg,iter,ifs,0⟩ :: rest) scope pos) (upO K t):=let ⟨_,r,u⟩:=h; pimp (zyi r) u
theorem zun {i:Nat} {y:Str} {py spos:Pos} (hN:X.N.Nodup) (hy:X.N[i]? = some y) (hyl:X.env.scope.names.lookup y=some .local) (hsw:swapsWith (.DictComp kx vx (⟨tg,iter,ifs,0⟩ :: rest) scope pos) (some (.Name y py)) spos.line X.env=pure true)
    (h:DcU X K kx vx tg iter ifs rest scope pos t):PS X (.Assign [.Name y py] (.DictComp kx vx (⟨tg,iter,ifs,0⟩ :: rest) scope pos) spos) (upS K (zhc i t)):=let ⟨_,r,u⟩:=h
  jq (zn3 (zsl r hN hy hyl hsw)) fun E σ H ⟨F0,H0,δ,F,D',W⟩=>u σ H _ ⟨F0,H0,[],δ,F,_,W.rep,W.t,fun δ1 F1 H1 p ho o R1 hP e1 oa q=>by
    have n1:=(R1.rsv p ho (by simp)).2.1
    obtain ⟨ho',hh,mu,rp⟩:=oa.rep n1
    exact .inr ⟨p,ho',hh,mu,fun od=>W.nx _ _ _ _ ((R1.frzP hP _).setF i (rp od)) (e1.trans (Ex.new n1)) q⟩⟩
theorem zso {i:Nat} {y:Str} {py spos:Pos} (hN:X.N.Nodup) (hy:X.N[i]? = some y) (hyl:X.env.scope.names.lookup y=some .local) (hsw:swapsWith (.DictComp kx vx (⟨tg,iter,ifs,0⟩ :: rest) scope pos) (some (.Name y py)) spos.line X.env=pure true)
    (h:DcU X K kx vx tg iter ifs rest scope pos t):PS X (.Assign [.Name y py] (.DictComp kx vx (⟨tg,iter,ifs,0⟩ :: rest) scope pos) spos) (upS K (ug i t)):=let ⟨_,r,u⟩:=h
  jq (zsl r hN hy hyl hsw) fun E σ H ⟨F0,H0,δ,F,D',W⟩=>u σ H _ ⟨F0,H0,[],δ,F,_,W.rep,W.t,fun δ1 F1 H1 p ho o R1 hP e1 oa q=>W.nx _ _ F1 H1 (R1.setO hP i oa) e1 q⟩
end
section
variable {X:Cx} {K:Frag} {e:Expr} {es:List Expr} {tw:DV} {pos p p2:Pos} {n:String} {x y:Str}
end
section
variable {X:Cx} {K:Frag} {e a b c o:Expr} {es:List Expr} {ta tb tc te tk:DE} {ts tz:DA} {kws:List Keyword} {nm:Option Str} {pos p apos cpos kpos:Pos}
theorem zvu {t t':TA} (h:PK X kws t) (i:∀ σ H Q,t' σ H Q→t σ H Q):PK X kws t':=⟨fun p pins s σ H Q I q=>h.run p pins s σ H Q I (i σ H Q q)⟩
theorem pkdn:PK X [] (upA K dNil):=zvu pk_nil fun σ H Q ⟨F0,H0,P,δ,F,Q',R,ht,k⟩=>k δ F H _ _ R (Ex.refl F) .nil ht
theorem pkdc (he:PE X e (upE K te)) (hr:PK X kws (upA K ts)):PK X (⟨nm,e,kpos⟩ :: kws) (upA K (ze te ts)):=zvu (pk_cons he hr) fun σ H Q ⟨F0,H0,P,δ,F,Q',R,ht,k⟩=>by
  refine ⟨F0,H0,P,δ,F,_,R,ht,fun δ1 F1 H1 x dx R1 e1 rx ht=>?_⟩
  refine ⟨F0,H0,P,δ1,F1,_,R1,ht,fun δ2 F2 H2 vs ds R2 e2 rs ht=>?_⟩
  exact k δ2 F2 H2 _ _ R2 (e1.trans e2) (.cons (rx.mono e2) rs) ht
def yo (n m N:Nat) (sp:DSp) (ts tz:DA) (ord:List D→List D→List D):DE:=fun δ Q=>ts δ fun δ1 ds=>tz δ1 fun δ2 zs=>ds.length=n∧zs.length=m∧(ord ds zs).length=N∧sp (ord ds zs) fun r=>Q δ2 r.d
def zvv (K:Frag) (gV:List V→List V→List V) (ord:List D→List D→List D):Prop:=∀ {F:Hp} {vs zs:List V} {ds es:List D},RepL K F vs ds→RepL K F zs es→RepL K F (gV vs zs) (ord ds es)
theorem za4 {n m N:Nat} {sp:DSp} {E:XK} {gV:List V→List V→List V} {ord:List D→List D→List D} (h:PE X e (tCallN n m (spD K N sp) gV E (upA K ts) (upA K tz))) (ho:zvv K gV ord):PE X e (upE K (yo n m N sp ts tz ord)):=pimp (zew h) fun σ H Q ⟨F0,H0,P,δ,F,Q',R,ht,k⟩=>by
  refine ⟨F0,H0,P,δ,F,_,R,ht,fun δ1 F1 H1 vs ds R1 e1 rs ht=>?_⟩
  refine ⟨F0,H0,P,δ1,F1,_,R1,ht,fun δ2 F2 H2 zs es R2 e2 rz ⟨hn,hm,hN,ht⟩=>?_⟩
  refine ⟨rs.length.trans hn,rz.length.trans hm,F2,_,_,R2.e3,R2.tp,R2.low.mono R2.e1,ho (rs.mono e2) rz,hN,ht,fun F3 H3 v r G ok q=>?_⟩
  induction r with
  | nk _=>exact ok.elim
  | nt _=>exact ok.elim
  | wld _=>exact ok.elim
  | rw s W ih=>exact ih ok.1 q
  | fz d=>exact .inl (k δ2 F3 H3 v d (R2.grow G.e1 G.e2 G.e3 G.fr G.tp) ((e1.trans e2).trans G.e1) ok q)
  | own o =>
    obtain ⟨a,rfl,h1,h3,oa⟩:=ok
    obtain ⟨ho,hh,mu,rp⟩:=oa.rep h3
    obtain ⟨R3,hP⟩:=R2.growP G h1 hh h3
    exact .inr ⟨a,ho,hh,mu,fun od=>k δ2 _ _ _ _ (R3.frzP hP _) (((e1.trans e2).trans G.e1).trans (Ex.new h3)) (rp od) q⟩
end
section
variable {P:Program} {w:World} {K:Frag} {mg:Str→Option Value} {base:Heap}
theorem okDK {x qual:Str} {st:Stmt} {f:Addr} {fd:FuncData} {N ps:List Str} {k:Nat} {sp:DSp} {kws:List (Str×V)} (Fn:FunD K x qual (defArgs st) (defBody st) (defScope st) [] kws f fd) (S':FnScope N ps (defScope st))
    (hbody:∀ (cdv:Value) (A:Around) (outer:List Env) (s:Shared) (H:Hp) (E:XK),Room k (A.deeper (envOfC qual (defScope st) s.heap.objs.size f cdv)) →
      ∃ t,PSs (cxOf CX0 P w K mg base N qual (defScope st) f cdv A outer s H E).nox (defBody st) (upS K t)∧∀ ds Q',ds.length=ps.length→sp ds Q'→t { nx:=fun _=>Q' (.fz .non),rt:=Q' } (zp N.length ds)):FnOk P w K mg base CX0 (k + 1) f fd ps (spD K ps.length sp):=by
  refine Fn.ok S' (fun vs H Q E h=>?_) (fun cdv A outer s H vs Q E hr h=>?_)
  · obtain ⟨F,ds,Q',_,_,_,r,l,_⟩:=h
    rw [r.length,l]
  · obtain ⟨F,ds,Q',e,tp,lo,r,l,hs,k'⟩:=h
    obtain ⟨t,ht,hq⟩:=hbody cdv A outer s H E hr
    refine ⟨_,ht.nox,F,H,zp N.length ds,F,_,⟨zf4 e tp lo r,hq ds Q' l hs,fun δ' σ' F' H' R _ q=>?_,fun _ _ _ _ _ _ q=>q.elim,fun _ _ _ _ _ _ q=>q.elim,fun F' H' v r G ok q=>k' F' H' v r G ok q⟩⟩
    exact k' F' H' .non (.fz .non) R.grown .non q
end
section
variable {X:Cx} {K:Frag} {e a b c o f:Expr} {es:List Expr} {ta tb tc te tk tx:DE} {to:DOw} {tw:DV} {ts:DA} {st:Stmt} {pos p p2 q apos cpos pos':Pos}
def zwm (v:V) (vs:List V) (j:Nat):Prop:=∃ z,vs[j]? = some z∧eqV z v=true∧∀ (m:Nat) (z':V),m < j→vs[m]? = some z'→eqV z' v=false
def zja (tw:DV) (tk:DE):DE:=fun δ Q=>tw δ fun δ1 x=>(∃ ds,vwD δ1 x=some (.lst ds))∧tk δ1 fun δ2 kd=>∃ ds v vs j,vwD δ2 x=some (.lst ds)∧zck kd=some v∧uh ds=some vs∧zwm v vs j∧Q δ2 (.int (j:Nat))
theorem zn6 {i:DV} (h:PE X (.Call (.Attribute o "index" apos) [e] [] pos) (tBM X.K "list" (rIndex X.K) (upV K tw) (tCons (upE K tk) tNil))) (hK:X.K=K:=by rfl):PE X (.Call (.Attribute o "index" apos) [e] [] pos) (upE K (zja tw tk)):=by
  subst hK
  refine pimp h fun σ H Q ⟨F0,H0,P,δ,F,Q',R,ht,k⟩=>?_
  refine ⟨F0,H0,P,δ,F,_,R,ht,fun δ1 F1 H1 v x R1 e1 ok ⟨⟨ds,hd⟩,ht⟩=>?_⟩
  obtain ⟨a,vs,rfl,hs,rs⟩:=(R1.view ok (Ex.refl F1) hd).lst'
  refine ⟨.inl ⟨rfl,vs,.inl hs⟩,F0,H0,P,δ1,F1,_,R1,ht,fun δ2 F2 H2 y dy R2 e2 ry ⟨ds,v,vs,j,hd,hk,hl,⟨z,hz,hzv,hno⟩,q⟩=>?_⟩
  obtain ⟨b,ws,eb,hs,rs⟩:=(R2.view ok e2 hd).lst'
  cases eb
  obtain ⟨e3,f3⟩:=zcy ry hk
  obtain ⟨e4,f4⟩:=zdg rs hl
  subst e3 e4
  exact ⟨a,ws,y,j,z,rfl,rfl,.inl hs,f3,f4,hz,hzv,hno,k δ2 F2 H2 _ _ R2 (e1.trans e2) (.int _) q⟩
def dExt (i:Nat) (to:DOw):DS:=fun D δ=>match δ[i]? with
  | some (some (.own (.lst _)))=>to δ fun δ1 o=>match δ1[i]? with
    | some (some (.own (.lst ds)))=>∃ ys,o = .lst ys∧ds.length + ys.length≤sizeLine∧D.nx (δ1.set i (some (.own (.lst (ds++ys)))))
    | _=>False
  | _=>False
theorem zsp {i:Nat} (h:PE X (.Call (.Attribute o "extend" apos) [e] [] pos) (tBM X.K "list" rExtend (tVar i) (tCons (upO K to) tNil))) (hs:swapsWith (.Call (.Attribute o "extend" apos) [e] [] pos) none pos'.line X.env=pure false:=by rfl) :
    PS X (.Expr (.Call (.Attribute o "extend" apos) [e] [] pos) pos') (upS K (dExt i to)):=jq (ps_expr h hs) fun D σ H ⟨F0,H0,δ,F,D',W⟩=>by
  have ht:=W.t
  unfold dExt at ht
  split at ht
  · rename_i ds0 e1
    obtain ⟨a,ea,⟨vs,hv,rs⟩,n1,n2⟩:=W.rep.ownd e1
    refine ⟨_,ea,.inl ⟨rfl,vs,.inl (.inl hv)⟩,F0,H0,[],δ,F,_,W.rep,ht,fun δ1 F1 H1 p ho ob R1 hP ex1 oa ht=>?_⟩
    split at ht
    · rename_i ds e2
      obtain ⟨ys,eo,hl,q⟩:=ht
      subst eo
      obtain ⟨zs,hz,rz⟩:=oa
      have R2:RepS K F0 H0 [] δ1 σ F1 H1:=R1.unP (by simp)
      obtain ⟨b,eb,⟨ws,hw,rw⟩,n3,n4⟩:=R2.ownd e2
      rw [ea] at eb; cases eb
      refine ⟨a,p,ws,zs,rfl,rfl,hw,hz,by rw [rw.length,rz.length]; exact hl,?_⟩
      exact W.nx _ _ F1 _ (R2.write e2 ea (o':=.lst (ds++ys)) (show OwnAt K F1 _ a (.lst (ds++ys)) from ⟨_,upd_same,rw.app rz⟩)) ex1 q
    · exact ht.elim
  · exact ht.elim
def dIVs (te:DE):DI:=fun δ Q=>te δ fun δ1 d=>∃ kvs,d = .dk kvs∧Q δ1 (kvs.map (·.2))
theorem zsq {tg:Expr} (hl:PE X e (upE K te)) (hbase:attributeBase e "values" X.env (eval e X.env)=eval e X.env:=by rfl) (hline:(apos.endLine == cpos.line)=true:=by rfl) :
    PI X tg (.Call (.Attribute e "values" apos) [] [] cpos) (upI K (dIVs te)):=by
  refine iimp (pi_values hl hbase hline) fun σ H R ⟨F0,H0,P,δ,F,Q',Rp,ht,k⟩=>?_
  refine ⟨F0,H0,P,δ,F,_,Rp,ht,fun δ1 F1 H1 v d R1 e1 r ⟨kvs,ed,q⟩=>?_⟩
  subst ed
  cases r with
  | @dk a od ws _ h rg =>
    have rg:=rg.g
    refine ⟨a,od,ws,rfl,R1.e3 _ _ h,k δ1 F1 H1 _ _ R1 e1 ⟨fun i H hi ex=>⟨ex _ _ h,by rw [rg.length]; simpa using hi⟩,fun H ex=>⟨ex _ _ h,by rw [rg.length]; simp⟩,fun i d F2 H x H' hd x1 _ _ ⟨eH,kk,hk⟩=>?_⟩ q⟩
    subst eH
    rw [List.getElem?_map] at hd
    cases hz:kvs[i]? with
    | none=>rw [hz] at hd; simp at hd
    | some z =>
      obtain ⟨zk,zd⟩:=z
      rw [hz] at hd
      simp at hd
      subst hd
      obtain ⟨v,hv,rv⟩:=rg.get hz
      rw [hk] at hv; cases hv
      exact .plain (rv.mono x1)
end
def IttT (d:Addr) (o:Obj) (kvs:List (List Key×V)):It :=
  ⟨fun i H=>H d=some (.frz o (.dT kvs))∧i < kvs.length,fun i H x H'=>∃ T k v q,kvs[i]? = some (k,v)∧x = .ref T∧H T=none∧H q=some (.tup (k.map kV))∧H'=upd H T (.tup [.ref q,v]),fun i H=>H d=some (.frz o (.dT kvs))∧kvs.length≤i⟩
section
variable {X:Cx} {pins:List (Addr×Obj)} {σ:L2.St} {H:Hp} {s:Shared} {d:Addr} {o:Obj}
theorem zrn {kvs:List (List Key×V)} (I:Inv X pins σ H s) (h:H d=some (.frz o (.dT kvs))) :
    (d == sysModules)=false∧s.heap.get? d=some o∧o.ExactDict∧∃ (es:Array DictEntry) (ep:Nat),o.data = .dict es ep∧es.size=kvs.length ∧
      ∀ (i:Nat) (k:List Key) (v:V),kvs[i]? = some (k,v)→∃ (en:DictEntry) (q:Addr),es[i]? = some en∧en.key = .ref q∧H q=some (.tup (k.map kV))∧RelV v en.val:=by
  obtain ⟨hd,z,hs,xs,pr,o',es,ep,ho,hx,hdt,he,_⟩:=I.hok d _ h
  rw [hd] at ho
  cases ho
  refine ⟨hs,hd,hx,es,ep,hdt,?_,fun i k v e=>?_⟩
  · have l1:es.size=xs.length:=size_of_entries he
    have l2:kvs.length=xs.length:=Paired.length pr
    omega
  · obtain ⟨b,hb,e1,e2,e3⟩:=paired_get pr e
    have q:=entry_at he i
    rw [hb] at q
    exact ⟨_,b.2.1,q,rfl,e2,e3⟩
end
section
variable {P:Program} {w:World} {K:Frag} {tg:Expr} {d:Addr} {o:Obj} {es:Array DictEntry} {ep:Nat}
theorem zpx {kvs:List (List Key×V)} {elts:List Expr} {kk:Nat} {tpos:Pos} (it:Addr) (hod:o.data = .dict es ep) :
    Turn P w K (.Tuple elts kk tpos) (IttT d o kvs) [it] it (fun i h=>∃ ok ov,IsItemIter h it d i kvs.length ep ok ov) where
  mem:=by simp
  obj:=fun i h st b hb=>by
    have e:b=it:=by simpa using hb
    subst e
    obtain ⟨ok,ov,e⟩:=st
    exact ⟨_,e,fun v z=>nomatch z⟩
  keep:=fun i h h' st k=>let ⟨ok,ov,e⟩:=st; ⟨ok,ov,k it (by simp) _ e⟩
  item:=by
    intro X hP hw hK hc i pins s σ H E I hf st hg
    subst hP hw hK
    obtain ⟨hd,hi⟩:=hg
    obtain ⟨hs,hgd,hx,es',ep',hdt,hsz,ent⟩:=zrn I hd
    obtain ⟨rfl,rfl⟩:=dict_ep hod hdt
    obtain ⟨⟨k,v⟩,hkv⟩:∃ p,kvs[i]? = some p:=⟨kvs[i],List.getElem?_eq_getElem hi⟩
    obtain ⟨en,q,hen,hkey,hq,rv⟩:=ent i k v hkv
    obtain ⟨ok,ov,he⟩:=st
    rw [← hsz] at he
    have hlt:it < s.heap.objs.size:=Heap.lt_size he
    have hi2:i < es'.size:=by omega
    have een:es'[i]=en:=by rw [Array.getElem?_eq_getElem hi2] at hen; exact Option.some.inj hen
    refine wpAny_pyNext_items_item_raw he ⟨o,hgd,hx,hdt⟩ hi2 fun h' ho hT hz hk=>?_
    rw [een,hkey] at ho hT
    refine ⟨_,rfl,wpAny_letOwnedTupleGo_items (s:={ s with heap:=h' }) ho fun h'' he' sb=>?_⟩
    have hT2:h''.get? s.heap.objs.size=some { cls:=.type "tuple", data:=.seq #[.ref q,en.val] }:=(sb.2 _ (Nat.ne_of_gt hlt)).trans hT
    have new:ObjOk X.prog X.w (upd H s.heap.objs.size (.tup [.ref q,v])) h'' s.heap.objs.size (.tup [.ref q,v]) :=
      ⟨by show 2≤sizeLine; decide,[.ref q,en.val],.cons (show RelV (.ref q) (.ref q) from rfl) (.cons rv .nil),⟨_,hT2,rfl,_,rfl⟩⟩
    have I1:Inv X pins σ (upd H s.heap.objs.size (.tup [.ref q,v])) { s with heap:=h'' } :=
      I.turnedNew (t':=s.toks) (ch:=[it]) (fun b ob hb e=>(sb.2 b (by simpa using hb)).trans (hk b ob (by simpa using hb) e)) hf (Nat.le_refl _) new
    refine ⟨.ref s.heap.objs.size,_,I1,rfl,⟨_,k,v,q,hkv,rfl,I.hok.fresh (Nat.le_refl _),hq,rfl⟩,⟨.ref q,en.val,?_⟩,fun b hb=>?_⟩
    · rw [← hsz]; exact he'
    · have e:b=it:=by simpa using hb
      rw [e,upd_ne (Nat.ne_of_lt hlt)]
      exact (hf it (by simp)).1
  done:=by
    intro X hP hw hK hc i pins s σ H E I hf st hg
    subst hP hw hK
    obtain ⟨hd,hi⟩:=hg
    obtain ⟨f0,f1,f2,f3,f4,f5⟩:=hf it (by simp)
    obtain ⟨hs,hgd,hx,es',ep',hdt,hsz,ent⟩:=zrn I hd
    obtain ⟨rfl,rfl⟩:=dict_ep hod hdt
    obtain ⟨ok,ov,he⟩:=st
    rw [← hsz] at he
    exact wpAny_pyNext_items_end_raw (I.ok.hd hc) he ⟨o,hgd,hx,hdt⟩ (by omega) fun h' eb=>⟨rfl,I.turned (t':=s.toks) (fun b ob hb e=>eb b ob hb e) f0 f1 f3 f4 f5⟩
  self:=fun A i s Q E st h=>let ⟨_,_,e⟩:=st; PySem.W.kcp_self e h
end
def zwn (td:TE):TI:=fun σ H R=>td σ H fun x H1=>∃ d o kvs,x = .ref d∧H1 d=some (.frz o (.dT kvs))∧R (IttT d o kvs) H1
section
variable {X:Cx} {K:Frag} {tg e:Expr} {td:TE} {te:DE} {apos cpos:Pos}
theorem zsr {elts:List Expr} {kk:Nat} {tpos:Pos} (he:PE X e td) (hbase:attributeBase e "items" X.env (eval e X.env)=eval e X.env:=by rfl) (hline:(apos.endLine == cpos.line)=true:=by rfl) :
    PI X (.Tuple elts kk tpos) (.Call (.Attribute e "items" apos) [] [] cpos) (zwn td):=by
  refine ⟨fun pins s σ H R I h=>?_⟩
  refine wpAny_Call_method (T:="dict") (id:="dict.items") hbase rfl hline F.plainAttrs_dict F.slot_dict_items F.type_dict_items (thn (he.run pins s σ H _ I h) fun u s1 ⟨x,H1,I1,rx,d,o,kvs,ex,hd,q⟩=>?_)
  subst ex
  obtain rfl:u=Value.ref d:=rx
  obtain ⟨hs,hgd,hx,es,ep,hdt,hsz,ent⟩:=zrn I1 hd
  have raw:s1.heap.DictRaw d es ep:=⟨o,hgd,hx,hdt⟩
  refine ⟨raw.typeIs,fun b e=>by cases e; exact ⟨o,hgd,hx.2.1⟩,?_⟩
  have I2:Inv X pins σ H1 { s1 with heap:=s1.heap.push { cls:=.type "dict_items", data:=.fields #[.ref d] } }:=I1.kept (t':=s1.toks) fun b ob q=>Heap.get?_push_of_some _ q
  have fin:wpAny (model X.prog X.w) X.A (pyIter (.ref s1.heap.objs.size)) (PIE X pins σ (.Tuple elts kk tpos) R) X.xe { s1 with heap:=s1.heap.push { cls:=.type "dict_items", data:=.fields #[.ref d] } }:=by
    refine wpAny_pyIter_items_raw (d:=d) (es:=es) (ep:=ep) ⟨_,Heap.get?_push_size _ rfl,rfl,rfl⟩ (raw.at fun ob e=>Heap.get?_push_of_some _ e) (pi_one (tk:=s1.toks) I2 _ (zpx _ hdt) ⟨.none,.none,?_⟩ q)
    rw [← hsz]
    exact Heap.get?_push_size _ rfl
  show wpAny _ _ (callWith cpos (.builtin "dict.items") [.ref d] [] []) _ X.xe s1
  exact method_meetsIn F.slot_dict_items F.entry_dict_items rfl (PySem.evalArgs_none ⟨rfl,raw.typeIs,F.args_dict_items_1 _,_,meets_dict_items_raw d hs,⟨es,ep,raw⟩,fin⟩)
def zro (te:DE):DI:=fun δ Q=>te δ fun δ1 d=>∃ kvs,d = .dt kvs∧Q δ1 (kvs.map fun kv=>D.tup [.tup (kv.1.map keyD),kv.2])
theorem zss {elts:List Expr} {kk:Nat} {tpos:Pos} (hl:PE X e (upE K te)) (hbase:attributeBase e "items" X.env (eval e X.env)=eval e X.env:=by rfl) (hline:(apos.endLine == cpos.line)=true:=by rfl) :
    PI X (.Tuple elts kk tpos) (.Call (.Attribute e "items" apos) [] [] cpos) (upI K (zro te)):=by
  refine iimp (zsr hl hbase hline) fun σ H R ⟨F0,H0,P,δ,F,Q',Rp,ht,k⟩=>?_
  refine ⟨F0,H0,P,δ,F,_,Rp,ht,fun δ1 F1 H1 v d R1 e1 r ⟨kvs,ed,q⟩=>?_⟩
  subst ed
  cases r with
  | @dt a od ws _ h rg =>
    have rg:=rg.g
    refine ⟨a,od,ws,rfl,R1.e3 _ _ h,k δ1 F1 H1 _ _ R1 e1 ⟨fun i H hi ex=>⟨ex _ _ h,by rw [rg.length]; simpa using hi⟩,fun H ex=>⟨ex _ _ h,by rw [rg.length]; simp⟩,fun i d F2 H x H' hd x1 x2 tp ⟨T,kk,vv,qq,hk,ex,hT,hq,eH⟩=>?_⟩ q⟩
    subst eH ex
    rw [List.getElem?_map] at hd
    cases hz:kvs[i]? with
    | none=>rw [hz] at hd; simp at hd
    | some z =>
      obtain ⟨zk,zd⟩:=z
      rw [hz] at hd
      simp at hd
      subst hd
      obtain ⟨v,hv,rv⟩:=rg.get hz
      rw [hk] at hv; cases hv
      exact .pair hT (.cons (.tup (tp _ _ hq) (zbf _)) (.cons (rv.mono x1) .nil))
end
theorem zrp {P:Program} {w:World} {es:List DictEntry} {vs:List (Key×Value)} (h:Pairs (mixKind P w) es vs):Pairs (noneKind P w) es (vs.map fun q=>(some q.1,q.2)):=by
  induction h with
  | nil=>exact .nil
  | cons h1 h2 _ ih=>exact .cons h1 h2 ih
theorem zst {P:Program} {w:World} {h:Heap} {a:Addr} {vs:List (Key×Value)} (d:h.DictOf (mixKind P w) a vs):h.DictOf (noneKind P w) a (vs.map fun q=>(some q.1,q.2)):=by
  obtain ⟨o,es,ep,ho,hx,hdt,hk,hp,hn⟩:=d
  refine ⟨o,es,ep,ho,hx,hdt,fun e he=>?_,zrp hp,?_⟩
  · obtain ⟨k,h1,h2⟩:=hk e he
    exact ⟨some k,h1,h2⟩
  · rw [List.map_map]
    have:((fun x:Option Key×Value=>x.1) ∘ fun q:Key×Value=>(some q.1,q.2))=some ∘ fun q:Key×Value=>q.1:=rfl
    rw [this,← List.map_map]
    exact List.Pairwise.map some (fun a b ne e=>ne (Option.some.inj e)) hn
section
variable {X:Cx} {pins:List (Addr×Obj)} {σ:L2.St} {H:Hp} {s:Shared} {a:Addr} {kvs:List (Key×V)} {A:Around} {E:Value→Shared→Prop}
theorem zyj {r:Value} {Q:Value→Shared→Prop} (I:Inv X pins σ H s) (e:H a=some (.dK kvs)) (h:∀ s',Inv X pins σ H s'→Q r s') :
    wpAny (model X.prog X.w) A (call (.builtin "dict.pop") [.ref a,.none,r]) Q E s:=by
  obtain ⟨z,hd,vs,rel,dd⟩:=dk_of I.hok e
  have hn:valueAt (vs.map fun q=>(some q.1,q.2)) (none:Option Key)=none:=by
    unfold valueAt
    rw [List.find?_eq_none.mpr]
    · rfl
    · intro x hx
      obtain ⟨q,_,rfl⟩:=List.mem_map.mp hx
      simp
  exact call_meetsIn PySem.F.slot_dict_pop dd.typeIs PySem.F.entry_dict_pop (PySem.F.args_dict_pop_3 _ _ _) (meets_dict_pop_default (noneKind X.prog X.w) a (show (noneKind X.prog X.w).is none .none=true from rfl) hd rfl r) ⟨_,zst dd,hn,h _ (I.tok _)⟩
end
section
variable {X:Cx} {K:Frag} {e a b c o f:Expr} {ta tb tc te tk tx:DE} {tw:DV} {pos p apos cpos:Pos}
def gInN (neg:Bool):D→D→(D→Prop)→Prop:=fun x y Q=>match x with
  | .non=>∃ kvs,y = .dk kvs∧Q (.bl neg)
  | _=>gInB neg x y Q
def zn7 (neg:Bool):R2:=fun y x H Q=>∃ a kvs,y = .non∧x = .ref a∧Rd H a (.dK kvs)∧Q (.bl neg) H
theorem zuo:OpR X (compareOp .In) (zn7 false):=by
  intro pins s σ H x y v u Q I rx ry ⟨a,kvs,e1,e2,hd,q⟩
  subst e1 e2
  cases rx; cases ry
  exact d_inNone I hd fun s3 I3=>⟨.bl _,H,I3,rfl,q⟩
theorem zsu:OpR X (compareOp .NotIn) (zn7 true):=by
  intro pins s σ H x y v u Q I rx ry ⟨a,kvs,e1,e2,hd,q⟩
  subst e1 e2
  cases rx; cases ry
  exact d_notInNone I hd fun s3 I3=>⟨.bl _,H,I3,rfl,q⟩
theorem zsv (neg:Bool):Op2W K (fun x y H Q=>(rIn K neg x y H Q∨rSgn neg x y H Q∨rDIn neg x y H Q)∨zn7 neg x y H Q) (gInN neg):=by
  intro x y F H dx dy Q Q' rx ry ex g k
  unfold gInN at g
  split at g
  · obtain ⟨kvs,e,g⟩:=g
    subst e
    obtain ⟨a,ws,rfl,hd,_⟩:=ry.dk'
    cases rx
    exact .inr ⟨a,ws,rfl,rfl,hd,k _ _ (.bl _) g⟩
  · exact .inl (zi0 neg x y F H _ dy Q Q' rx ry ex g k)
theorem zyk (hu:X.A.units + 1 < cLine) (ha:PE X a (upE K ta)) (hb:PE X b (upV K tw)) (hm:behindInMarks .In b=false:=by rfl) (hK:X.K=K:=by rfl):PT X (.Compare a [.In] [b] pos) (upT K (dTst (d2W (gInN false) ta tw))):=by
  subst hK
  exact qt_w (OpR.or (znx hu) zuo) (zsv false) ha hb hm
theorem zwo (hu:X.A.units + 1 < cLine) (ha:PE X a (upE K ta)) (hb:PE X b (upV K tw)) (hm:behindInMarks .NotIn b=false:=by rfl) (hK:X.K=K:=by rfl):PT X (.Compare a [.NotIn] [b] pos) (upT K (dTst (d2W (gInN true) ta tw))):=by
  subst hK
  exact qt_w (OpR.or (zg5 hu) zsu) (zsv true) ha hb hm
def zsw (td ty tx:TE):TE:=fun σ H Q=>td σ H fun x H1=>∃ a,x = .ref a∧IsD H1 a∧ty σ H1 fun y H2=>tx σ H2 fun z H3=>∃ kvs,H3 a=some (.dK kvs)∧((∃ k,y=kV k ∧
  (∀ v,valV kvs k=some v→Q v (upd H3 a (.dK (dropK kvs k))))∧(valV kvs k=none→Q z H3))∨(y = .non∧Q z H3))
theorem zup {td ty tx:TE} (ho:PE X o td) (he:PE X e ty) (hf:PE X f tx) (m:M2 X o "pop" apos e f cpos:=by exact ⟨rfl,rfl,rfl,rfl⟩):PE X (.Call (.Attribute o "pop" apos) [e,f] [] cpos) (zsw td ty tx):=by
  refine ⟨fun pins s σ H Q I h=>?_⟩
  refine wpAny_Call_method m.base m.few m.line PySem.F.plainAttrs_dict PySem.F.slot_dict_pop PySem.F.type_dict_pop (thn (ho.run pins s σ H _ I h) fun u s1 ⟨x,H1,I1,rx,a,ex,d,q1⟩=>?_)
  subst ex
  obtain rfl:u=Value.ref a:=rx
  obtain ⟨t1,t2,_⟩:=isD_at I1 d
  refine ⟨t1,t2,?_⟩
  rw [m.trees]
  refine Calls.callWith_builtin rfl (Calls.evalArgs_plain (Calls.spliced_cons (thn (he.run pins s1 σ H1 _ I1 q1) fun iv s2 ⟨y,H2,I2,ry,q2⟩ =>
    Calls.spliced_cons (thn (hf.run pins s2 σ H2 _ I2 q2) fun fv s3 ⟨z,H3,I3,rz,kvs,ea,q3⟩=>Calls.spliced_nil ?_))))
  rcases q3 with ⟨k,ey,q3,q4⟩ | ⟨ey,q4⟩
  · subst ey
    cases l:valV kvs k with
    | some v=>exact d_pop I3 ea ry l (.inr ⟨fv,rfl⟩) fun w' s4 I4 rw'=>⟨v,_,I4,rw',q3 v l⟩
    | none=>exact d_popD I3 ea ry l fun s4 I4=>⟨z,H3,I4,rz,q4 l⟩
  · subst ey
    cases ry
    exact zyj I3 ea fun s4 I4=>⟨z,H3,I4,rz,q4⟩
def zhe (i:Nat) (tk tx:DE):DE:=fun δ Q=>match δ[i]? with
  | some (some (.own (.dk _)))=>tk δ fun δ1 kd=>tx δ1 fun δ2 xd=>match δ2[i]? with
    | some (some (.own (.dk kvs)))=>(∃ k,dkey kd=some k∧(∀ v,valG kvs k=some v→Q (δ2.set i (some (.own (.dk (jj kvs k))))) v)∧(valG kvs k=none→Q δ2 xd))∨(kd = .non∧Q δ2 xd)
    | _=>False
  | _=>False
theorem zwp {i:Nat} (h:PE X (.Call (.Attribute o "pop" apos) [e,f] [] pos) (zsw (tVar i) (upE K tk) (upE K tx))):PE X (.Call (.Attribute o "pop" apos) [e,f] [] pos) (upE K (zhe i tk tx)):=pimp h fun σ H Q ⟨F0,H0,P,δ,F,Q',R,ht,k⟩=>by
  unfold zhe at ht
  split at ht
  · rename_i ds0 e1
    obtain ⟨a,ea,⟨vs,hv,rs⟩,n1,n2⟩:=R.ownd e1
    refine ⟨_,ea,a,rfl,.inl ⟨vs,.inl hv⟩,F0,H0,P,δ,F,_,R,ht,fun δ1 F1 H1 x dx R1 ex1 rx ht=>?_⟩
    refine ⟨F0,H0,P,δ1,F1,_,R1,ht,fun δ2 F2 H2 z dz R2 ex2 rz ht=>?_⟩
    split at ht
    · rename_i kvs e2
      obtain ⟨b,eb,⟨ws,hw,rw⟩,n3,n4⟩:=R2.ownd e2
      rw [ea] at eb; cases eb
      refine ⟨ws,hw,?_⟩
      rcases ht with ⟨kk,hk,q1,q2⟩ | ⟨en,q2⟩
      · refine .inl ⟨kk,ye rx hk,fun v hv=>?_,fun hn=>?_⟩
        · rcases rw.g.val kk with ⟨u,d',h1,h2,r⟩ | ⟨h1,h2⟩
          · rw [hv] at h1; cases h1
            exact k _ F2 _ v d' (R2.write e2 ea (o':=.dk (jj kvs kk)) (show OwnAt K F2 _ a (.dk _) from ⟨_,upd_same,(rw.g.drop kk).k⟩)) (ex1.trans ex2) r (q1 _ h2)
          · rw [hv] at h1; cases h1
        · rcases rw.g.val kk with ⟨u,d',h1,h2,r⟩ | ⟨h1,h2⟩
          · rw [hn] at h1; cases h1
          · exact k _ F2 _ z dz R2 (ex1.trans ex2) rz (q2 h2)
      · subst en
        cases rx
        exact .inr ⟨rfl,k _ F2 _ z dz R2 (ex1.trans ex2) rz q2⟩
    · exact ht.elim
  · exact ht.elim
end
section
variable {P:Program} {w:World} {h h':Heap} {a:Addr} {ks:List Key}
end
section
variable {P:Program} {w:World} {A:Around} {E:Value→Shared→Prop} {s:Shared} {a:Addr} {ks:List Key}
end
section
variable {P:Program} {w:World} {A:Around} {E:Value→Shared→Prop} {s:Shared}
end
section
variable {X:Cx} {K:Frag}
variable {e a b c o f:Expr} {tw:DV} {pos p p2 q apos cpos pos':Pos}
end
section
variable {K:Frag} {F0 H0 F H F' H':Hp} {P:Pl} {δ:Dl} {σ:L2.St} {κ:Type}
inductive NP (K:Frag) (F:Hp) {κ:Type}:List (κ×V)→List (κ×O)→Pl→Prop
  | nil:NP K F [] [] []
  | cons {k:κ} {b:Addr} {ho:HO} {o:O} {ws:List (κ×V)} {kvs:List (κ×O)} {Ps:Pl}:OwnO K F ho o→NP K F ws kvs Ps→NP K F ((k,.ref b) :: ws) ((k,o) :: kvs) ((b,ho) :: Ps)
theorem NP.mono (e:Ex F F'):∀ {ws:List (κ×V)} {kvs:List (κ×O)} {Ps:Pl},NP K F ws kvs Ps→NP K F' ws kvs Ps
  | _,_,_,.nil=>.nil
  | _,_,_,.cons h t=>.cons (h.mono e) (NP.mono e t)
theorem NP.app:∀ {ws us:List (κ×V)} {kvs es:List (κ×O)} {Ps Qs:Pl},NP K F ws kvs Ps→NP K F us es Qs→NP K F (ws++us) (kvs++es) (Ps++Qs)
  | _,_,_,_,_,_,.nil,t=>t
  | _,_,_,_,_,_,.cons h r,t=>.cons h (NP.app r t)
theorem NP.length:∀ {ws:List (κ×V)} {kvs:List (κ×O)} {Ps:Pl},NP K F ws kvs Ps→ws.length=kvs.length
  | _,_,_,.nil=>rfl
  | _,_,_,.cons h r=>by simp [NP.length r]
theorem OwnAt.own {a:Addr} {o:O} (h:OwnAt K F H a o):∃ ho,H a=some ho∧OwnO K F ho o:=by
  cases o <;> (obtain ⟨vs,h1,h2⟩:=h; exact ⟨_,h1,vs,rfl,h2⟩)
theorem NG.np {w:Addr→Option Nat} {i:Nat}:∀ {ws:List (κ×V)} {kvs:List (κ×O)} {bs:List Addr},NG K F H w i ws kvs bs→∃ Ps,NP K F ws kvs Ps∧pk Ps=bs∧∀ q∈Ps,H q.1=some q.2∧w q.1=some i
  | _,_,_,.nil=>⟨[],.nil,rfl,fun _ h=>nomatch h⟩
  | _,_,_,.cons h q t=>by
    obtain ⟨Ps,a,b,c⟩:=NG.np t
    obtain ⟨ho,h1,h2⟩:=q.own
    exact ⟨(_,ho) :: Ps,.cons h2 a,by simp [pk] at b ⊢; exact b,fun x hx=>by
      rcases List.mem_cons.mp hx with rfl | hx
      · exact ⟨h1,h⟩
      · exact c x hx⟩
theorem NP.ng {w:Addr→Option Nat} {i:Nat}:∀ {ws:List (κ×V)} {kvs:List (κ×O)} {Ps:Pl},NP K F ws kvs Ps→(∀ q∈Ps,H q.1=some q.2∧w q.1=some i)→NG K F H w i ws kvs (pk Ps)
  | _,_,_,.nil,_=>.nil
  | _,_,_,.cons h r,hp=>.cons (hp _ List.mem_cons_self).2 (h.own (hp _ List.mem_cons_self).1) (NP.ng r fun q hq=>hp q (by simp [hq]))
theorem set_same {i:Nat} {v:V} (e:σ[i]? = some (some v)):σ.set i (some v)=σ:=by
  apply List.ext_getElem?
  intro j
  by_cases hj:i=j
  · subst hj
    rw [List.getElem?_set_self (List.getElem?_eq_some_iff.mp e).1,e]
  · rw [List.getElem?_set_ne hj]
theorem RepS.disown (R:RepS K F0 H0 P δ σ F H) {i:Nat} {kvs:List (Key×O)} (h:δ[i]? = some (some (.nk kvs))):∃ a ws Ps,σ[i]? = some (some (.ref a))∧NP K F ws kvs Ps∧RepS K F0 H0 ((a,.dK ws) :: (Ps++P)) (δ.set i none) σ F H ∧
    (a :: pk Ps).Nodup∧(kvs.map (·.1)).Nodup∧∀ x∈a :: pk Ps,x ∉ pk P:=by
  obtain ⟨w,h1,hw⟩:=R.own
  obtain ⟨v,ev,a,ws,bs,rfl,ew,hh,ng,nd,nk⟩:=hw i _ h
  obtain ⟨Ps,np,e,hp⟩:=ng.np
  subst e
  have all:∀ x∈a :: pk Ps,w x=some i:=fun x hx=>by
    rcases List.mem_cons.mp hx with rfl | hx
    · exact ew
    · obtain ⟨q,hq,rfl⟩:=List.mem_map.mp hx
      exact (hp q hq).2
  refine ⟨a,ws,Ps,ev,np,⟨R.e1,R.e2,R.e3,R.fr,R.tp,by simp [R.len],⟨fun x=>if w x=some i then none else w x,fun x j e=>?_,fun j s e=>?_⟩,R.low,fun p ho hq=>?_⟩,nd,nk,fun x hx=>(h1 x i (all x hx)).2.2.2⟩
  · by_cases z:w x=some i
    · replace e:=(if_pos z).symm.trans e; cases e
    · replace e:=(if_neg z).symm.trans e
      obtain ⟨a1,a2,a3,a4⟩:=h1 x j e
      refine ⟨a1,a2,a3,fun q=>?_⟩
      have q':x∈a :: pk Ps∨x∈pk P:=by simpa [pk,or_assoc] using q
      rcases q' with q | q
      · exact z (all x q)
      · exact a4 q
  · by_cases hj:i=j
    · subst hj
      have hi:i < δ.length:=by
        have:=(List.getElem?_eq_some_iff.mp e).1
        simpa using this
      rw [List.getElem?_set_self hi] at e
      cases e
    · rw [List.getElem?_set_ne hj] at e
      obtain ⟨u,eu,q⟩:=hw j s e
      refine ⟨u,eu,q.keep (Ex.refl F) fun b ew2=>⟨(if_neg fun z=>?_).trans ew2,fun _=>rfl⟩⟩
      rw [ew2] at z; cases z; exact hj rfl
  · have hq':(p,ho)=(a,.dK ws)∨(p,ho)∈Ps∨(p,ho)∈P:=by simpa using hq
    rcases hq' with e | hq | hq
    · cases e
      obtain ⟨a1,a2,_⟩:=h1 a i ew
      exact ⟨a1,a2,hh⟩
    · obtain ⟨b1,b2⟩:=hp _ hq
      obtain ⟨a1,a2,_⟩:=h1 p i b2
      exact ⟨a1,a2,b1⟩
    · exact R.rsv p ho hq
theorem RepS.reown {a:Addr} {ws:List (Key×V)} {kvs:List (Key×O)} {Ps:Pl} (R:RepS K F0 H0 ((a,.dK ws) :: (Ps++P)) δ σ F H) {i:Nat} (ev:σ[i]? = some (some (.ref a))) (np:NP K F ws kvs Ps)
    (nd:(a :: pk Ps).Nodup) (nk:(kvs.map (·.1)).Nodup) (di:∀ x∈a :: pk Ps,x ∉ pk P):RepS K F0 H0 P (δ.set i (some (.nk kvs))) σ F H:=by
  obtain ⟨w,h1,hw⟩:=R.own
  have mem:∀ x,x∈a :: pk Ps→x∈pk ((a,HO.dK ws) :: (Ps++P)):=fun x hx=>by
    have:x∈a :: pk Ps∨x∈pk P:=.inl hx
    simpa [pk,or_assoc] using this
  refine ⟨R.e1,R.e2,R.e3,R.fr,R.tp,by simp [R.len],⟨fun x=>if x∈a :: pk Ps then some i else w x,fun x j e=>?_,fun j s e=>?_⟩,R.low,fun p ho hq=>R.rsv p ho (by simp [hq])⟩
  · by_cases z:x∈a :: pk Ps
    · replace e:=(if_pos z).symm.trans e
      obtain ⟨a1,a2,a3⟩:=R.rsv' (mem x z)
      exact ⟨a1,a2,a3,di x z⟩
    · replace e:=(if_neg z).symm.trans e
      obtain ⟨a1,a2,a3,a4⟩:=h1 x j e
      refine ⟨a1,a2,a3,fun q=>a4 ?_⟩
      have:x∈a :: pk Ps∨x∈pk P:=.inr q
      simpa [pk,or_assoc] using this
  · by_cases hj:i=j
    · subst hj
      have hi:i < δ.length:=by
        have:=(List.getElem?_eq_some_iff.mp e).1
        simpa using this
      rw [List.getElem?_set_self hi] at e
      cases e
      refine ⟨.ref a,ev,a,ws,pk Ps,rfl,if_pos (by simp),(R.rsv a _ (by simp)).2.2,np.ng fun q hq=>⟨(R.rsv q.1 q.2 (by simp [hq])).2.2,if_pos (List.mem_cons_of_mem _ (List.mem_map.mpr ⟨q,hq,rfl⟩))⟩,nd,nk⟩
    · rw [List.getElem?_set_ne hj] at e
      obtain ⟨u,eu,q⟩:=hw j s e
      refine ⟨u,eu,q.keep (Ex.refl F) fun b ew2=>⟨(if_neg fun z=>?_).trans ew2,fun _=>rfl⟩⟩
      exact (h1 b j ew2).2.2.2 (mem b z)
section
variable [DecidableEq κ]
theorem NP.val {ws:List (κ×V)} {kvs:List (κ×O)} {Ps:Pl} (h:NP K F ws kvs Ps) (k:κ):(∃ b ho o,valV ws k=some (.ref b)∧valG kvs k=some o∧(b,ho)∈Ps∧OwnO K F ho o)∨(valV ws k=none∧valG kvs k=none):=by
  induction h with
  | nil=>exact .inr ⟨rfl,rfl⟩
  | @cons k' b ho o ws kvs Ps r t ih =>
    by_cases e:k'=k
    · exact .inl ⟨b,ho,o,by simp [valV,e],by simp [valG,e],by simp,r⟩
    · have e1:valV ((k',V.ref b) :: ws) k=valV ws k:=by simp [valV,e]
      have e2:valG ((k',o) :: kvs) k=valG kvs k:=by simp [valG,e]
      rw [e1,e2]
      rcases ih with ⟨b,ho,o,a1,a2,a3,a4⟩ | ih
      · exact .inl ⟨b,ho,o,a1,a2,by simp [a3],a4⟩
      · exact .inr ih
theorem zhf {α:Type} {kvs:List (κ×α)} {k:κ} {x:α} (h:valG kvs k=some x) (y:α):putG kvs k y=kvs.map fun (kv:κ×α)=>if kv.1=k then (kv.1,y) else kv:=by
  unfold putG
  rw [if_pos]
  unfold valG at h
  cases q:kvs.find? fun kv=>decide (kv.1=k) with
  | none=>rw [q] at h; cases h
  | some z=>exact List.any_eq_true.mpr ⟨z,List.mem_of_find?_eq_some q,List.find?_some (p:=fun (kv:κ×α)=>decide (kv.1=k)) q⟩
theorem zh1 {α:Type} {kvs:List (κ×α)} {k:κ} (h:valG kvs k=none) (y:α):putG kvs k y=kvs++[(k,y)]:=by
  unfold putG
  rw [if_neg]
  intro z
  obtain ⟨x,hx,e⟩:=List.any_eq_true.mp z
  unfold valG at h
  have:=List.find?_eq_none.mp (Option.map_eq_none_iff.mp h) x hx
  exact this e
theorem zlv {α:Type} {kvs:List (κ×α)} {k:κ} {x:α} (h:valG kvs k=some x) (y:α):(putG kvs k y).map (·.1)=kvs.map (·.1):=by
  rw [zhf h,List.map_map]
  apply List.map_congr_left
  intro a _
  show (if a.1=k then (a.1,y) else a).1=a.1
  split <;> rfl
theorem NP.upd {ws:List (κ×V)} {kvs:List (κ×O)} {Ps:Pl} (h:NP K F ws kvs Ps) {k:κ} {b:Addr} (hb:valV ws k=some (.ref b)) (nk:(kvs.map (·.1)).Nodup) (nd:(pk Ps).Nodup) {ho':HO} {o':O} (q:OwnO K F ho' o') :
    ∃ Ps',NP K F ws (kvs.map fun (kv:κ×O)=>if kv.1=k then (kv.1,o') else kv) Ps'∧pk Ps'=pk Ps∧∀ x∈Ps',x=(b,ho')∨(x∈Ps∧x.1≠b):=by
  induction h with
  | nil=>cases hb
  | @cons k' b' ho o ws kvs Ps r t ih =>
    by_cases e:k'=k
    · subst e
      have:b'=b:=by simpa [valV] using hb
      subst this
      have hk:∀ kv∈kvs,kv.1≠k':=fun kv hkv z=>by
        have:=(List.nodup_cons.mp nk).1
        exact this (z ▸ List.mem_map.mpr ⟨kv,hkv,rfl⟩)
      have em:(kvs.map fun (kv:κ×O)=>if kv.1=k' then (kv.1,o') else kv)=kvs:=by
        conv=>rhs; rw [← List.map_id kvs]
        apply List.map_congr_left
        intro a ha
        show (if a.1=k' then (a.1,o') else a)=a
        rw [if_neg (hk a ha)]
      refine ⟨(b',ho') :: Ps,?_,rfl,fun x hx=>?_⟩
      · rw [List.map_cons,em]
        show NP K F _ ((if k'=k' then (k',o') else (k',o)) :: kvs) _
        rw [if_pos rfl]
        exact .cons q t
      · rcases List.mem_cons.mp hx with rfl | hx
        · exact .inl rfl
        · exact .inr ⟨by simp [hx],fun z=>(List.nodup_cons.mp nd).1 (z ▸ List.mem_map.mpr ⟨x,hx,rfl⟩)⟩
    · have hb2:valV ws k=some (.ref b):=by simpa [valV,e] using hb
      obtain ⟨Ps',a1,a2,a3⟩:=ih hb2 (List.nodup_cons.mp nk).2 (List.nodup_cons.mp nd).2
      have hbm:b∈pk Ps:=by
        have:∀ {ws:List (κ×V)} {kvs:List (κ×O)} {Ps:Pl},NP K F ws kvs Ps→valV ws k=some (.ref b)→b∈pk Ps:=fun h e=>by
          rcases h.val k with ⟨b2,ho,o,c1,c2,c3,c4⟩ | ⟨c1,c2⟩
          · rw [e] at c1; cases c1; exact zcw c3
          · rw [e] at c1; cases c1
        exact this t hb2
      refine ⟨(b',ho) :: Ps',?_,by simp [pk] at a2 ⊢; exact a2,fun x hx=>?_⟩
      · rw [List.map_cons]
        show NP K F _ ((if k'=k then (k',o') else (k',o)) :: _) _
        rw [if_neg e]
        exact .cons r a1
      · rcases List.mem_cons.mp hx with rfl | hx
        · exact .inr ⟨by simp,fun z=>(List.nodup_cons.mp nd).1 (by show b'∈pk Ps; have z:b'=b:=z; rw [z]; exact hbm)⟩
        · rcases a3 x hx with z | ⟨z1,z2⟩
          · exact .inl z
          · exact .inr ⟨by simp [z1],z2⟩
end
end
inductive LQ (G:Hp→Prop):Hp→Prop
  | done {H:Hp}:G H→LQ G H
  | lock {H:Hp} {d:Addr} {u:HO}:H d=some u→Mut (some u)→(∀ od,LQ G (upd H d (.frz od u)))→LQ G H
def zyl (t:TE):TE:=fun σ H Q=>t σ H fun v H'=>LQ (Q v) H'
section
variable {X:Cx} {e:Expr}
theorem zym {pins:List (Addr×Obj)} {σ:L2.St} {s:Shared} {G:Hp→Prop} {H:Hp} (q:LQ G H):Inv X pins σ H s→∃ H',Inv X pins σ H' s∧G H':=by
  induction q with
  | done g=>exact fun I=>⟨_,I,g⟩
  | lock h mu _ ih=>exact fun I=>let ⟨od,I2⟩:=I.lock h mu; ih od I2
theorem zuq {t:TE} (h:PE X e t):PE X e (zyl t):=⟨fun pins s σ H Q I q=>thn (h.run pins s σ H _ I q) fun u s1 ⟨v,H1,I1,r1,q1⟩=>by
  obtain ⟨H2,I2,g⟩:=zym q1 I1
  exact ⟨v,H2,I2,r1,g⟩⟩
end
section
variable {K:Frag} {F0 H0 F H F' H':Hp} {P:Pl} {δ:Dl} {σ:L2.St} {κ:Type} {G:Hp→Prop}
theorem OwnO.mut {ho:HO} {o:O} (h:OwnO K F ho o):Mut (some ho):=by
  cases o <;> (obtain ⟨vs,rfl,_⟩:=h; exact trivial)
theorem OwnO.rep {ho:HO} {o:O} (h:OwnO K F ho o) {b:Addr} {od:Obj} (e:F b=some (.frz od ho)):Rep K F (.ref b) o.d:=by
  cases o with
  | lst ds=>obtain ⟨vs,rfl,r⟩:=h; exact .lst e r
  | dk ds=>obtain ⟨vs,rfl,r⟩:=h; exact .dk e r
  | dt ds=>obtain ⟨vs,rfl,r⟩:=h; exact .dt e r
  | ins C fs=>obtain ⟨vs,rfl,r⟩:=h; exact .ins e r
theorem zsx (e:Ex F F') {ws:List (κ×V)} {kvs:List (κ×D)} (h:RepG K F ws kvs):RepG K F' ws kvs:=by
  induction h with
  | nil=>exact .nil
  | cons r _ ih=>exact .cons (r.mono e) ih
theorem zhq:∀ {ws:List (κ×V)} {kvs:List (κ×O)} {Ps:Pl} {F H:Hp},NP K F ws kvs Ps→RepS K F0 H0 (Ps++P) δ σ F H→(pk Ps).Nodup→(∀ x∈pk Ps,x ∉ pk P) →
    (∀ F' H',RepS K F0 H0 P δ σ F' H'→Ex F F'→RepG K F' ws (kvs.map fun x=>(x.1,x.2.d))→LQ G H')→LQ G H
  | _,_,_,F,H,.nil,R,_,_,k=>k F H R (Ex.refl F) .nil
  | _,_,_,F,H,.cons (b:=b) (ho:=ho) (o:=o) (Ps:=Ps) q t,R,nd,di,k=>by
    have hb:=R.rsv b ho (by simp)
    have hP:b ∉ pk (Ps++P):=fun z=>by
      have z':b∈pk Ps∨b∈pk P:=by simpa [pk] using z
      rcases z' with z | z
      · exact (List.nodup_cons.mp nd).1 z
      · exact di b (by simp [pk]) z
    refine .lock hb.2.2 q.mut fun od=>?_
    have e1:Ex F (upd F b (.frz od ho)):=Ex.new hb.2.1
    have R1:RepS K F0 H0 (Ps++P) δ σ (upd F b (.frz od ho)) (upd H b (.frz od ho)):=RepS.frzP (P:=Ps++P) R hP _
    refine zhq (t.mono e1) R1 (List.nodup_cons.mp nd).2 (fun x hx=>di x (by simp [pk] at hx ⊢; exact .inr hx)) fun F' H' R' ex rg=>?_
    exact k F' H' R' (e1.trans ex) (.cons ((q.mono (e1.trans ex)).rep (ex _ _ upd_same)) rg)
theorem RepS.freezeN (R:RepS K F0 H0 P δ σ F H) {i:Nat} {kvs:List (Key×O)} (h:δ[i]? = some (some (.nk kvs))):∃ a,σ[i]? = some (some (.ref a))∧∀ G:Hp→Prop,
    (∀ F' H',RepS K F0 H0 P (δ.set i (some (.fz (S.nk kvs).d))) σ F' H'→Ex F F'→Rep K F' (.ref a) (S.nk kvs).d→LQ G H')→LQ G H:=by
  obtain ⟨a,ws,Ps,ev,np,R1,nd,nk,di⟩:=R.disown h
  refine ⟨a,ev,fun G k=>?_⟩
  obtain ⟨nd1,nd2⟩:=List.nodup_cons.mp nd
  have R2:RepS K F0 H0 (Ps++(a,.dK ws) :: P) (δ.set i none) σ F H:=R1.unP fun q hq=>by
    have:q∈Ps∨q=(a,.dK ws)∨q∈P:=by simpa using hq
    rcases this with h | h | h <;> simp [h]
  refine zhq np R2 nd2 (fun x hx z=>?_) fun F' H' R3 ex rg=>?_
  · have z':x=a∨x∈pk P:=by simpa [pk] using z
    rcases z' with z | z
    · exact nd1 (z ▸ hx)
    · exact di x (by simp [hx]) z
  · have ha:=R3.rsv a (.dK ws) List.mem_cons_self
    refine .lock ha.2.2 (by trivial) fun od=>?_
    have e1:Ex F' (upd F' a (.frz od (.dK ws))):=Ex.new ha.2.1
    have R4:=R3.frzP (di a (by simp)) (.frz od (.dK ws))
    have rp:Rep K (upd F' a (.frz od (.dK ws))) (.ref a) (S.nk kvs).d:=by
      exact .dk upd_same (zsx e1 rg).k
    have R5:=R4.setF i rp
    rw [set_same ev,List.set_set] at R5
    exact k _ _ R5 (ex.trans e1) rp
end
section
variable {X:Cx} {K:Frag} {e a b c o f:Expr} {ta tb tc te tk tx tk2:DE} {to:DOw} {pos p apos cpos pos':Pos}
def zhg (i:Nat):DE:=fun δ Q=>match δ[i]? with
  | some (some (.nk kvs))=>Q (δ.set i (some (.fz (S.nk kvs).d))) (S.nk kvs).d
  | some (some (.fz d))=>Q δ d
  | _=>False
theorem zqj {i:Nat} (h:PE X e (tVar i)):PE X e (upE K (zhg i)):=pimp (zuq h) fun σ H Q ⟨F0,H0,P,δ,F,Q',R,ht,k⟩=>by
  unfold zhg at ht
  split at ht
  · rename_i kvs e1
    obtain ⟨a,ev,fr⟩:=R.freezeN e1
    exact ⟨_,ev,fr _ fun F' H' R' ex rp=>.done (k _ F' H' _ _ R' ex rp ht)⟩
  · rename_i d e1
    obtain ⟨v,ev,r⟩:=R.fz e1
    exact ⟨v,ev,.done (k δ F H v d R (Ex.refl F) r ht)⟩
  · exact ht.elim
def zjb (i:Nat):DS:=fun D δ=>D.nx (δ.set i (some (.nk [])))
theorem RepS.nk0 {F0 H0 F H:Hp} {P:Pl} {δ:Dl} {σ:L2.St} (R:RepS K F0 H0 P δ σ F H) {i:Nat} (h:δ[i]? = some (some (.own (.dk [])))):RepS K F0 H0 P (δ.set i (some (.nk []))) σ F H:=by
  obtain ⟨w,h1,hw⟩:=R.own
  refine ⟨R.e1,R.e2,R.e3,R.fr,R.tp,by simp [R.len],⟨w,h1,fun j s e=>?_⟩,R.low,R.rsv⟩
  by_cases hj:i=j
  · subst hj
    have hi:i < δ.length:=by
      have:=(List.getElem?_eq_some_iff.mp e).1
      simpa using this
    rw [List.getElem?_set_self hi] at e
    cases e
    obtain ⟨v,ev,a,rfl,ew,ws,hh,r⟩:=hw i _ h
    cases r
    exact ⟨_,ev,a,[],[],rfl,ew,hh,.nil,by simp,by simp⟩
  · rw [List.getElem?_set_ne hj] at e
    exact hw j s e
theorem zn8 {i:Nat} {x:Str} (hN:X.N.Nodup) (hi:X.N[i]? = some x) (hx:Loc X.env.scope x) (hs:swapsWith (.Dict [] [] p) (some (.Name x pos')) pos.line X.env=pure false:=by rfl) (hf:X.fn x=true∨X.env.scope.names.lookup x=some .local:=by first | exact .inl rfl | exact .inr rfl) :
    PS X (.Assign [.Name x pos'] (.Dict [] [] p) pos) (upS K (zjb i)):=jq (ps_set hN hi hx (v3 (K:=K)) hs hf) fun D σ H ⟨F0,H0,δ,F,D',W⟩ =>
  ⟨F0,H0,[],δ,F,fun δ' o=>o = .dk []∧D'.nx (δ'.set i (some (.nk []))),W.rep,⟨rfl,W.t⟩,fun δ1 F1 H1 p hp0 o R1 hP e1 q ⟨eo,ht⟩=>by
    subst eo
    have R2:=R1.setO hP i q
    by_cases hl:i < δ1.length
    · have R3:=R2.nk0 (i:=i) (by rw [List.getElem?_set_self hl])
      rw [List.set_set] at R3
      exact W.nx _ _ F1 H1 R3 e1 ht
    · have e3:∀ s,δ1.set i s=δ1:=fun s=>List.set_eq_of_length_le (by omega)
      rw [e3] at ht R2
      exact W.nx _ _ F1 H1 R2 e1 ht⟩
end
def setG {κ α:Type} [DecidableEq κ] (kvs:List (κ×α)) (k:κ) (o:α):List (κ×α):=if (valG kvs k).isSome=true then kvs else kvs++[(k,o)]
theorem y6 {κ α:Type} [DecidableEq κ] {kvs:List (κ×α)} {k:κ} (h:valG kvs k=none):k ∉ kvs.map (·.1):=fun z=>by
  obtain ⟨x,hx,e⟩:=List.mem_map.mp z
  unfold valG at h
  have:=List.find?_eq_none.mp (Option.map_eq_none_iff.mp h) x hx
  simp at this
  exact this e
section
variable {X:Cx} {K:Frag} {e a b c o f e1 e2:Expr} {ta tb tc te tk tx tk1 tk2:DE} {to:DOw} {pos p apos cpos pos' p1 p2:Pos}
def zco (i:Nat) (tk:DE) (to:DOw):DS:=fun D δ=>match δ[i]? with
  | some (some (.nk _))=>tk δ fun δ1 kd=>to δ1 fun δ2 o=>match δ2[i]? with
    | some (some (.nk kvs))=>∃ k,dkey kd=some k∧kvs.length < sizeLine∧D.nx (δ2.set i (some (.nk (setG kvs k o))))
    | _=>False
  | _=>False
theorem RepS.nkd {F0 H0 F H:Hp} {P:Pl} {δ:Dl} {σ:L2.St} (R:RepS K F0 H0 P δ σ F H) {i:Nat} {kvs:List (Key×O)} (h:δ[i]? = some (some (.nk kvs))):∃ a ws,σ[i]? = some (some (.ref a))∧H a=some (.dK ws):=by
  obtain ⟨a,ws,Ps,ev,np,R1,_⟩:=R.disown h
  exact ⟨a,ws,ev,(R1.rsv a (.dK ws) List.mem_cons_self).2.2⟩
theorem zsy {i:Nat} (h:PE X (.Call (.Attribute o "setdefault" apos) [e,f] [] cpos) (tDSetd (tVar i) (upE K tk) (upO K to))) (hs:swapsWith (.Call (.Attribute o "setdefault" apos) [e,f] [] cpos) none pos'.line X.env=pure false:=by rfl) :
    PS X (.Expr (.Call (.Attribute o "setdefault" apos) [e,f] [] cpos) pos') (upS K (zco i tk to)):=jq (ps_expr h hs) fun D σ H ⟨F0,H0,δ,F,D',W⟩=>by
  have ht:=W.t
  unfold zco at ht
  split at ht
  · rename_i kvs0 e1
    obtain ⟨a,ws0,ea,hw⟩:=W.rep.nkd e1
    refine ⟨_,ea,a,rfl,.inl ⟨ws0,.inl hw⟩,F0,H0,[],δ,F,_,W.rep,ht,fun δ1 F1 H1 y dy R1 ex1 ry ht=>?_⟩
    refine ⟨F0,H0,[],δ1,F1,_,R1,ht,fun δ2 F2 H2 p ho ob R2 hP ex2 oa ht=>?_⟩
    split at ht
    · rename_i kvs e2
      obtain ⟨k,hk,hl,q⟩:=ht
      obtain ⟨a',ws,Ps,ea',np,R3,nd,nk,di⟩:=R2.disown e2
      rw [ea] at ea'; cases ea'
      have ha:=R3.rsv a (.dK ws) List.mem_cons_self
      refine ⟨ws,k,ha.2.2,ye ry hk,by rw [np.length]; exact hl,fun v hv=>?_,fun hn=>?_⟩
      · rcases np.val k with ⟨b,ho2,o2,c1,c2,_⟩ | ⟨c1,c2⟩
        · have R4:RepS K F0 H0 ((a,.dK ws) :: (Ps++[])) (δ2.set i none) σ F2 H2:=R3.unP fun x hx=>by
            have:x=(a,.dK ws)∨x∈Ps:=by simpa using hx
            rcases this with h | h <;> simp [h]
          have R5:=R4.reown ea np nd nk (fun _ _ z=>nomatch z)
          rw [List.set_set] at R5
          have es:setG kvs k ob=kvs:=by unfold setG; rw [c2]; rfl
          rw [es] at q
          exact W.nx _ _ F2 _ R5 (ex1.trans ex2) q
        · rw [hv] at c1; cases c1
      · rcases np.val k with ⟨b,ho2,o2,c1,c2,_⟩ | ⟨c1,c2⟩
        · rw [hn] at c1; cases c1
        · have hp:p ∉ a :: pk Ps:=fun z=>di p z (by simp [pk])
          have ha2:a ∉ pk (Ps++[(p,ho)]):=fun z=>by
            have:a∈pk Ps∨a=p:=by simpa [pk] using z
            rcases this with z | z
            · exact (List.nodup_cons.mp nd).1 z
            · exact hp (z ▸ List.mem_cons_self)
          have R4:=RepS.wrP (P:=Ps++[(p,ho)]) R3 ha2 (.dK (putK ws k (.ref p)))
          obtain ⟨ho',hh,oo⟩:=oa.own
          have hp2:=R2.rsv p ho (by simp)
          rw [hp2.2.2] at hh; cases hh
          have np2:NP K F2 (putK ws k (.ref p)) (kvs++[(k,ob)]) (Ps++[(p,ho)]):=by
            have e3:putK ws k (.ref p)=ws++[(k,.ref p)]:=zh1 (show valG ws k=none from hn) _
            rw [e3]
            exact np.app (.cons oo .nil)
          have R4':RepS K F0 H0 ((a,.dK (putK ws k (.ref p))) :: ((Ps++[(p,ho)])++[])) (δ2.set i none) σ F2 (upd H2 a (.dK (putK ws k (.ref p)))):=by
            rw [List.append_nil]; exact R4
          have R5:=R4'.reown ea np2 (List.nodup_cons.mpr ⟨ha2,by
            have:pk (Ps++[(p,ho)])=pk Ps++[p]:=by simp [pk]
            rw [this,List.nodup_append]
            exact ⟨(List.nodup_cons.mp nd).2,by simp,fun x hx y hy z=>by
              have hy:y=p:=by simpa using hy
              subst hy; exact hp (z ▸ List.mem_cons_of_mem _ hx)⟩⟩) (by
            rw [List.map_append,List.nodup_append]
            exact ⟨nk,by simp,fun x hx y hy z=>by
              have hy:y=k:=by simpa using hy
              subst hy; exact y6 c2 (z ▸ hx)⟩) (fun _ _ z=>nomatch z)
          rw [List.set_set] at R5
          have es:setG kvs k ob=kvs++[(k,ob)]:=by unfold setG; rw [c2]; rfl
          rw [es] at q
          exact W.nx _ _ F2 _ R5 (ex1.trans ex2) q
    · exact ht.elim
  · exact ht.elim
def zrq (i:Nat) (tk1 tk2:DE):DG:=fun d δ Q=>(∃ kvs,δ[i]? = some (some (.nk kvs)))∧tk1 δ fun δ1 kd=>match δ1[i]? with
  | some (some (.nk kvs))=>∃ k g,dkey kd=some k∧valG kvs k=some (.dk g)∧tk2 (δ1.set i none) fun δ2 kd2=>∃ k2,dkey kd2=some k2∧g.length < sizeLine∧Q (δ2.set i (some (.nk (putG kvs k (.dk (putG g k2 d))))))
  | _=>False
theorem zwq {i:Nat} (hu:X.A.units + 1 < cLine) (ho:PE X o (tVar i)) (h1:PE X e1 (upE K tk1)) (h2:PE X e2 (upE K tk2)) (hs:PlainIx e1:=by exact fun _ _=>rfl) (ha:∀ v,assign (.Subscript (.Subscript o e1 p1) e2 pos) X.env v=(do
      let ov ← holding [v] (eval (.Subscript o e1 p1) X.env)
      let iv ← holding [v,ov] (eval e2 X.env)
      standAt pos
      holding [v,ov,iv] (setItem ov iv v)
      release [v,ov,iv] []):=by intro _; rfl):PG X (.Subscript (.Subscript o e1 p1) e2 pos) (upG K (zrq i tk1 tk2)):=by
  refine gimp (pg_sub (pe_ix (zp8 hu) ho h1 hs) h2 (set_dict hu) ha) fun v σ H Q ⟨F0,H0,P,δ,F,d,Q',R,r,⟨⟨kvs0,eo⟩,g⟩,k⟩=>?_
  obtain ⟨a,ws0,ea,hw0⟩:=R.nkd eo
  refine ⟨_,ea,F0,H0,P,δ,F,_,R,g,fun δ1 F1 H1 y yd R1 ex1 ry g=>?_⟩
  split at g
  · rename_i kvs eq1
    obtain ⟨kk,gg,hk,hv,ht⟩:=g
    obtain ⟨a',ws,Ps,ea',np,R2,nd,nk,di⟩:=R1.disown eq1
    rw [ea] at ea'; cases ea'
    have haw:=R2.rsv a (.dK ws) List.mem_cons_self
    rcases np.val kk with ⟨b,hob,ob,c1,c2,hmb,oo⟩ | ⟨c1,c2⟩
    · rw [hv] at c2; cases c2
      obtain ⟨gs,rfl,rg⟩:=oo
      refine ⟨a,.ref b,rfl,.inl ⟨ws,kk,.inl haw.2.2,ye ry hk,c1.symm⟩,F0,H0,_,_,F1,_,R2,ht,fun δ2 F2 H2 z dz R3 ex2 rz ⟨k2,hk2,hl,q⟩=>?_⟩
      have hb:=R3.rsv b (.dK gs) (by simp [hmb])
      refine ⟨b,_,rfl,.inl ⟨gs,k2,hb.2.2,ye rz hk2,by rw [rg.g.length]; exact hl,rfl⟩,?_⟩
      obtain ⟨nd1,nd2⟩:=List.nodup_cons.mp nd
      have np2:=np.mono ex2
      obtain ⟨Ps',np3,epk,hmem⟩:=np2.upd (k:=kk) c1 nk nd2 (ho':=.dK (putK gs k2 v)) (o':=.dk (putG gg k2 d)) ⟨_,rfl,(RepG.put (rg.mono ex2).g k2 (r.mono (ex1.trans ex2))).k⟩
      have hbPs:b∈pk Ps:=zcw hmb
      -- the reserved ones but b
      have nb:b ∉ pk ((a,HO.dK ws) :: (Ps.filter (fun x=>decide (x.1≠b))++P)):=fun z=>by
        have z':b=a∨b∈pk (Ps.filter fun x=>decide (x.1≠b))∨b∈pk P:=by simpa [pk] using z
        rcases z' with z | z | z
        · exact nd1 (z ▸ hbPs)
        · obtain ⟨x,hx,e⟩:=List.mem_map.mp z
          have:=(List.mem_filter.mp hx).2
          simp [e] at this
        · exact di b (List.mem_cons_of_mem _ hbPs) z
      have R4:RepS K F0 H0 ((b,.dK gs) :: ((a,.dK ws) :: (Ps.filter (fun x=>decide (x.1≠b))++P))) δ2 σ F2 H2:=R3.unP fun x hx=>by
        have:x=(b,.dK gs)∨x=(a,.dK ws)∨x∈Ps.filter (fun x=>decide (x.1≠b))∨x∈P:=by simpa using hx
        rcases this with h | h | h | h
        · subst h; simp [hmb]
        · simp [h]
        · simp [(List.mem_filter.mp h).1]
        · simp [h]
      have R5:=R4.wrP nb (.dK (putK gs k2 v))
      have R6:RepS K F0 H0 ((a,.dK ws) :: (Ps'++P)) δ2 σ F2 (upd H2 b (.dK (putK gs k2 v))):=R5.unP fun x hx=>by
        have:x=(a,.dK ws)∨x∈Ps'∨x∈P:=by simpa using hx
        rcases this with h | h | h
        · simp [h]
        · rcases hmem x h with h | ⟨h1,h2⟩
          · simp [h]
          · exact List.mem_cons_of_mem _ (List.mem_cons_of_mem _ (List.mem_append_left _ (List.mem_filter.mpr ⟨h1,by simpa using h2⟩)))
        · simp [h]
      have ekm:(kvs.map fun (kv:Key×O)=>if kv.1=kk then (kv.1,O.dk (putG gg k2 d)) else kv)=putG kvs kk (.dk (putG gg k2 d)):=(zhf hv _).symm
      rw [ekm] at np3
      have R7:=R6.reown ea np3 (by rw [epk]; exact nd) (by rw [zlv hv]; exact nk) (by rw [epk]; exact di)
      exact k _ _ F2 _ R7 (ex1.trans ex2) q
    · rw [hv] at c2; cases c2
  · exact g.elim
end
section
variable {X:Cx} {K:Frag} {e o:Expr} {td:TE} {pins:List (Addr×Obj)} {σ:L2.St} {H:Hp} {s:Shared} {a:Addr} {pos p apos cpos mpos:Pos}
end
section
variable {P:Program} {w:World} {A:Around} {E:Value→Shared→Prop} {s:Shared}
end
section
variable {X:Cx} {K:Frag} {e a b c o:Expr} {tw:DV} {ta:DE} {pos p apos cpos mpos:Pos}
end
section
variable {X:Cx} {K:Frag} {e:Expr} {es:List Expr} {tw:DV} {pos p p2 p3 pt:Pos} {n m:String} {x y z:Str}
end
def gInE (neg:Bool):D→D→(D→Prop)→Prop:=fun x y Q=>match y with
  | .emp=>(∃ v,zck x=some v)∧Q (.bl neg)
  | _=>gInB neg x y Q
section
variable {X:Cx} {K:Frag} {a b:Expr} {ta:DE} {tw:DV} {pos:Pos}
theorem zyn (neg:Bool):Op2W K (fun x y H Q=>rIn K neg x y H Q∨rSgn neg x y H Q∨rDIn neg x y H Q) (gInE neg):=by
  intro x y F H dx dy Q Q' rx ry ex g k
  unfold gInE at g
  split at g
  · obtain ⟨⟨v,h1⟩,g⟩:=g
    obtain ⟨e1,f1⟩:=zcy rx h1
    subst e1
    cases ry with
    | flat r e =>
      cases r with
      | emp h =>
        obtain ⟨o,n,h1,h2,h4⟩:=h
        refine .inl ⟨_,[],rfl,.inr (.inr ⟨o,#[],n,h1,h2,h4,Nat.zero_le _,.nil⟩),f1,rfl,k _ _ (.bl _) ?_⟩
        cases neg <;> exact g
  · exact zi0 neg x y F H dx _ Q Q' rx ry ex g k
theorem zqk (hu:X.A.units + 1 < cLine) (ha:PE X a (upE K ta)) (hb:PE X b (upV K tw)) (hm:behindInMarks .NotIn b=false:=by rfl) (hK:X.K=K:=by rfl):PT X (.Compare a [.NotIn] [b] pos) (upT K (dTst (d2W (gInE true) ta tw))):=by
  subst hK
  exact qt_w (zg5 hu) (zyn true) ha hb hm
end
def ze1 {α:Type} (p:Nat×Nat) (us mv ws:List α):Option α:=if p.1=0 then us[p.2]? else if p.1=1 then mv[p.2]? else ws[p.2]?
def ord3 {α:Type}:List (Nat×Nat)→List α→List α→List α→List α
  | [],_,_,_=>[]
  | p :: pat,us,mv,ws=>(ze1 p us mv ws).toList++ord3 pat us mv ws
theorem zh2 {xs:List V} {us:List Value} (r:Vals xs us) (i:Nat):(∃ x u,xs[i]? = some x∧us[i]? = some u∧RelV x u)∨(xs[i]? = none∧us[i]? = none):=by
  cases h:xs[i]? with
  | none=>exact .inr ⟨rfl,Vals.none_of r h⟩
  | some x=>obtain ⟨u,h1,h2⟩:=Vals.get r h; exact .inl ⟨x,u,rfl,h1,h2⟩
theorem yp {vs mz zs:List V} {us mv ws:List Value} (r1:Vals vs us) (r2:Vals mz mv) (r3:Vals zs ws):∀ pat:List (Nat×Nat),Vals (ord3 pat vs mz zs) (ord3 pat us mv ws)
  | []=>.nil
  | p :: pat=>by
    have ih:=yp r1 r2 r3 pat
    have key:∀ {a:Option V} {b:Option Value},((∃ x u,a=some x∧b=some u∧RelV x u)∨(a=none∧b=none))→Vals (a.toList++ord3 pat vs mz zs) (b.toList++ord3 pat us mv ws):=by
      rintro a b (⟨x,u,rfl,rfl,r⟩ | ⟨rfl,rfl⟩)
      · exact .cons r ih
      · exact ih
    show Vals ((ze1 p vs mz zs).toList++_) ((ze1 p us mv ws).toList++_)
    refine key ?_
    unfold ze1
    split
    · exact zh2 r1 _
    · split
      · exact zh2 r2 _
      · exact zh2 r3 _
section
variable {K:Frag}
theorem ze2 {F:Hp}:∀ {vs:List V} {ds:List D} (r:RepL K F vs ds) (i:Nat),(∃ x u,vs[i]? = some x∧ds[i]? = some u∧Rep K F x u)∨(vs[i]? = none∧ds[i]? = none)
  | _,_,.nil,i=>.inr ⟨by simp,by simp⟩
  | _,_,.cons h t,0=>.inl ⟨_,_,rfl,rfl,h⟩
  | _,_,.cons h t,i + 1=>by
    rcases ze2 t i with ⟨x,u,a,b,c⟩ | ⟨a,b⟩
    · exact .inl ⟨x,u,by simpa using a,by simpa using b,c⟩
    · exact .inr ⟨by simpa using a,by simpa using b⟩
theorem zn9 {F:Hp} {vs mz zs:List V} {us mv ws:List D} (r1:RepL K F vs us) (r2:RepL K F mz mv) (r3:RepL K F zs ws):∀ pat:List (Nat×Nat),RepL K F (ord3 pat vs mz zs) (ord3 pat us mv ws)
  | []=>.nil
  | p :: pat=>by
    have ih:=zn9 r1 r2 r3 pat
    have key:∀ {a:Option V} {b:Option D},((∃ x u,a=some x∧b=some u∧Rep K F x u)∨(a=none∧b=none))→RepL K F (a.toList++ord3 pat vs mz zs) (b.toList++ord3 pat us mv ws):=by
      rintro a b (⟨x,u,rfl,rfl,r⟩ | ⟨rfl,rfl⟩)
      · exact .cons r ih
      · exact ih
    show RepL K F ((ze1 p vs mz zs).toList++_) ((ze1 p us mv ws).toList++_)
    refine key ?_
    unfold ze1
    split
    · exact ze2 r1 _
    · split
      · exact ze2 r2 _
      · exact ze2 r3 _
theorem y7 {pat:List (Nat×Nat)} {dv:List V} {dz:List D} (h:∀ F,RepL K F dv dz):zvv K (fun vs zs=>ord3 pat vs dv zs) (fun ds zs=>ord3 pat ds dz zs):=fun r1 r2=>zn9 r1 (h _) r2 pat
theorem za5:∀ F,RepL K F [] []:=fun F=>.nil
end
def zoa (t:TE):Nat→TE
  | 0=>t
  | n + 1=>tLockE (zoa t n)
theorem zob {X:Cx} {e:Expr} {t:TE} (h:PE X e t):∀ n,PE X e (zoa t n)
  | 0=>h
  | n + 1=>pe_lock (zob h n)
theorem zhh {α β:Type} {M:List (α×β)} {x:α×β} (h:x∈M) {a:α} (e:x.1=a):a∈M.map (·.1):=List.mem_map.mpr ⟨x,h,e⟩
abbrev Lk:=Addr×Obj×HO
def uv:List Lk→Hp→Hp
  | [],H=>H
  | x :: M,H=>uv M (upd H x.1 (.frz x.2.1 x.2.2))
def yf:List Lk→Hp→Hp
  | [],H=>H
  | x :: M,H=>upd (yf M H) x.1 x.2.2
theorem zbu {M:List Lk} {H:Hp} {a:Addr} (h:∀ x∈M,x.1≠a):yf M H a=H a:=by
  induction M with
  | nil=>rfl
  | cons x M ih =>
    show upd (yf M H) x.1 x.2.2 a=_
    rw [upd_ne (Ne.symm (h x (by simp))),ih fun y hy=>h y (by simp [hy])]
theorem yg {M:List Lk}:∀ {H:Hp} {a:Addr},(∀ x∈M,x.1≠a)→uv M H a=H a:=by
  induction M with
  | nil=>intro H a _; rfl
  | cons x M ih =>
    intro H a h
    show uv M (upd H x.1 _) a=_
    rw [ih fun y hy=>h y (by simp [hy]),upd_ne (Ne.symm (h x (by simp)))]
theorem zlw {M:List Lk} {H:Hp} (nd:(M.map (·.1)).Nodup):∀ x∈M,yf M H x.1=some x.2.2:=by
  induction M with
  | nil=>intro x h; cases h
  | cons y M ih =>
    intro x hx
    obtain ⟨n1,n2⟩:=List.nodup_cons.mp nd
    show upd (yf M H) y.1 y.2.2 x.1=_
    rcases List.mem_cons.mp hx with rfl | hx
    · rw [upd_same]
    · rw [upd_ne (fun z=>n1 (zhh hx z)),ih n2 x hx]
theorem zef {M:List Lk}:∀ {H:Hp},(M.map (·.1)).Nodup→∀ x∈M,uv M H x.1=some (.frz x.2.1 x.2.2):=by
  induction M with
  | nil=>intro H _ x h; cases h
  | cons y M ih =>
    intro H nd x hx
    obtain ⟨n1,n2⟩:=List.nodup_cons.mp nd
    show uv M (upd H y.1 _) x.1=_
    rcases List.mem_cons.mp hx with rfl | hx
    · rw [yg fun z hz e=>n1 (zhh hz e),upd_same]
    · exact ih n2 x hx
theorem zoc {t:TE} {σ:L2.St}:∀ (L:List (Addr×HO)) (H:Hp) (Q:VK),(∀ p∈L,H p.1=some p.2∧Mut (some p.2))→(L.map (·.1)).Nodup →
    (∀ M:List Lk,M.map (fun x=>(x.1,x.2.2))=L→t σ (uv M H) fun v H'=>(∀ x∈M,H' x.1=some (.frz x.2.1 x.2.2))∧Q v (yf M H'))→∀ (mono:∀ (H:Hp) (Q Q':VK),t σ H Q→(∀ v H',Q v H'→Q' v H')→t σ H Q'),zoa t L.length σ H Q
  | [],H,Q,_,_,k,mono=>mono _ _ _ (k [] rfl) fun v H' q=>q.2
  | p :: L,H,Q,hp,nd,k,mono=>by
    obtain ⟨n1,n2⟩:=List.nodup_cons.mp nd
    refine ⟨p.1,p.2,(hp p (by simp)).1,(hp p (by simp)).2,fun od=>?_⟩
    refine zoc L _ _ (fun q hq=>?_) n2 (fun M hM=>?_) mono
    · have ne:q.1≠p.1:=fun z=>n1 (zhh hq z)
      exact ⟨by rw [upd_ne ne]; exact (hp q (by simp [hq])).1,(hp q (by simp [hq])).2⟩
    · have nM:∀ x∈M,x.1≠p.1:=fun x hx z=>by
        have:(x.1,x.2.2)∈L:=hM ▸ List.mem_map.mpr ⟨x,hx,rfl⟩
        exact n1 (zhh this z)
      have q:=k ((p.1,od,p.2) :: M) (by rw [List.map_cons,hM])
      refine mono _ _ _ q fun v H' ⟨q1,q2⟩=>⟨fun x hx=>q1 x (by simp [hx]),?_,q2⟩
      rw [zbu nM]
      exact q1 (p.1,od,p.2) (by simp)
section
variable {K:Frag} {F0 H0 F H:Hp} {P:Pl} {δ:Dl} {σ:L2.St}
def zrr (is:List Nat) (n:Nat):Option S→Option S
  | some (.fz d)=>some (.fz d)
  | some (.own o)=>if is.contains n=true then some (.fz o.d) else none
  | _=>none
def zat (is:List Nat):Nat→Dl→Dl
  | _,[]=>[]
  | n,s :: r=>zrr is n s :: zat is (n + 1) r
theorem zod (is:List Nat):∀ (n:Nat) (δ:Dl),(zat is n δ).length=δ.length
  | _,[]=>rfl
  | n,s :: r=>congrArg (· + 1) (zod is (n + 1) r)
theorem zql (is:List Nat):∀ (n:Nat) (δ:Dl) (j:Nat),(zat is n δ)[j]? = (δ[j]?).map (zrr is (n + j))
  | _,[],j=>rfl
  | n,x :: r,0=>rfl
  | n,x :: r,j + 1=>by
    have h:=zql is (n + 1) r j
    have e:n + 1 + j=n + (j + 1):=by omega
    rw [e] at h
    exact h
theorem zur (is:List Nat) (n:Nat) (δ:Dl) (j:Nat) (s:S) (h:(zat is n δ)[j]? = some (some s)):(∃ d,s = .fz d∧δ[j]? = some (some (.fz d)))∨∃ o,s = .fz o.d∧δ[j]? = some (some (.own o))∧n + j∈is:=by
  rw [zql] at h
  obtain ⟨x,hx,e⟩:=Option.map_eq_some_iff.mp h
  unfold zrr at e
  split at e
  · cases e; exact .inl ⟨_,rfl,hx⟩
  · split at e
    · rename_i hc
      cases e; exact .inr ⟨_,rfl,hx,List.contains_iff_mem.mp hc⟩
    · cases e
  · cases e
def znm:O→Prop
  | .lst ds=>∃ vs,uh ds=some vs
  | .dk kvs=>∃ vs,uh (kvs.map (·.2))=some vs
  | .dt kvs=>∃ vs,uh (kvs.map (·.2))=some vs
  | .ins _ _=>False
theorem zoe {F':Hp} {v u:V} {d:D} (r:Rep K F v d) (h:zck d=some u):Rep K F' v d:=by
  cases r <;> first | exact .non | exact .bl _ | exact .int _ | exact .str _ | cases h
theorem zlx {F':Hp}:∀ {vs:List V} {ds:List D} {us:List V},RepL K F vs ds→uh ds=some us→RepL K F' vs ds
  | _,_,_,.nil,_=>.nil
  | _,_,_,.cons r t,h=>by
    unfold uh at h
    split at h
    · rename_i e1 e2
      exact .cons (zoe r e1) (zlx t e2)
    · cases h
theorem zly {κ:Type} {F':Hp} {ws:List (κ×V)} {kvs:List (κ×D)} (r:RepG K F ws kvs):∀ {us:List V},uh (kvs.map (·.2))=some us→RepG K F' ws kvs:=by
  induction r with
  | nil=>intro us _; exact .nil
  | cons r t ih =>
    intro us h
    rw [List.map_cons] at h
    unfold uh at h
    split at h
    · rename_i e1 e2
      exact .cons (zoe r e1) (ih e2)
    · cases h
theorem OwnAt.flat {F' H':Hp} {a:Addr} {o:O} (h:OwnAt K F H a o) (f:znm o) (e:H' a=H a):OwnAt K F' H' a o:=by
  cases o with
  | lst ds=>obtain ⟨vs,h1,h2⟩:=h; obtain ⟨us,f⟩:=f; exact ⟨vs,e.trans h1,zlx h2 f⟩
  | dk ds=>obtain ⟨vs,h1,h2⟩:=h; obtain ⟨us,f⟩:=f; exact ⟨vs,e.trans h1,(zly h2.g f).k⟩
  | dt ds=>obtain ⟨vs,h1,h2⟩:=h; obtain ⟨us,f⟩:=f; exact ⟨vs,e.trans h1,(zly h2.g f).t⟩
  | ins _ _=>exact f.elim
theorem RepS.lent (R:RepS K F0 H0 P δ σ F H):∀ (is:List Nat),is.Nodup→(∀ i∈is,∃ o,δ[i]? = some (some (.own o)))→∃ L:List (Addr×HO),L.length=is.length∧(L.map (·.1)).Nodup∧(∀ p∈L,H p.1=some p.2∧Mut (some p.2)∧F p.1=none) ∧
    (∀ p∈L,∃ i∈is,σ[i]? = some (some (.ref p.1)))∧∀ i∈is,∀ o,δ[i]? = some (some (.own o))→∃ p∈L,σ[i]? = some (some (.ref p.1))∧∀ F' od,Ex F F'→F' p.1=some (.frz od p.2)→Rep K F' (.ref p.1) o.d:=by
  have R':=R
  obtain ⟨w,h1,hw⟩:=R.own
  intro is
  induction is with
  | nil=>intro _ _; exact ⟨[],rfl,.nil,(fun _ h=>nomatch h),(fun _ h=>nomatch h),fun _ h=>nomatch h⟩
  | cons i is ih =>
    intro nd ho
    obtain ⟨n1,n2⟩:=List.nodup_cons.mp nd
    obtain ⟨L,l0,l1,l2,l3,l4⟩:=ih n2 fun j hj=>ho j (by simp [hj])
    obtain ⟨o,eo⟩:=ho i (by simp)
    obtain ⟨v,ev,a,rfl,ew,q⟩:=hw i _ eo
    obtain ⟨a1,a2,a3,a4⟩:=h1 a i ew
    obtain ⟨hob,hh,oo⟩:∃ ho,H a=some ho∧OwnO K F ho o:=q.own
    have na:a ∉ L.map (·.1):=fun z=>by
      obtain ⟨p,hp,e⟩:=List.mem_map.mp z
      obtain ⟨j,hj,ej⟩:=l3 p hp
      obtain ⟨o2,eo2⟩:=ho j (by simp [hj])
      obtain ⟨v2,ev2,b,rfl,ew2,_⟩:=hw j _ eo2
      rw [ev2] at ej
      have hb:b=p.1:=by injection (Option.some.inj (Option.some.inj ej))
      rw [hb,e,ew] at ew2
      cases ew2
      exact n1 hj
    refine ⟨(a,hob) :: L,by simp [l0],List.nodup_cons.mpr ⟨na,l1⟩,fun p hp=>?_,fun p hp=>?_,fun j hj o' eo'=>?_⟩
    · rcases List.mem_cons.mp hp with rfl | hp
      · exact ⟨hh,oo.mut,a2⟩
      · exact l2 p hp
    · rcases List.mem_cons.mp hp with rfl | hp
      · exact ⟨i,by simp,ev⟩
      · obtain ⟨j,hj,e⟩:=l3 p hp; exact ⟨j,by simp [hj],e⟩
    · rcases List.mem_cons.mp hj with rfl | hj
      · rw [eo] at eo'; cases eo'
        exact ⟨(a,hob),List.mem_cons_self,ev,fun F' od ex e=>(oo.mono ex).rep e⟩
      · obtain ⟨p,hp,e,k⟩:=l4 j hj o' eo'
        exact ⟨p,by simp [hp],e,k⟩
end
section
variable {X:Cx} {K:Frag} {e:Expr} {to:DOw}
def zrs (is:List Nat) (to:DOw):DOw:=fun δ Q=>is.Nodup∧(∀ i∈is,∃ o,δ[i]? = some (some (.own o)))∧to (zat is 0 δ) fun _ r=>znm r∧Q δ r
theorem zus {σ:L2.St} (H:Hp) (Q Q':VK) (h:upO K to σ H Q) (i:∀ v H',Q v H'→Q' v H'):upO K to σ H Q':=by
  obtain ⟨F0,H0,P,δ,F,Q1,R,ht,k⟩:=h
  exact ⟨F0,H0,P,δ,F,Q1,R,ht,fun δ' F' H' p ho o a b c d q=>i _ _ (k δ' F' H' p ho o a b c d q)⟩
theorem zwr (is:List Nat) (h:PE X e (upO K to)):PE X e (upO K (zrs is to)):=pimp (zob h is.length) fun σ H Q ⟨F0,H0,P,δ,F,Q',R,⟨nd,ho,ht⟩,k⟩=>by
  obtain ⟨L,l0,l1,l2,l3,l4⟩:=R.lent is nd ho
  rw [← l0]
  refine zoc L H Q (fun p hp=>⟨(l2 p hp).1,(l2 p hp).2.1⟩) l1 (fun M hM=>?_) zus
  have ndM:(M.map (·.1)).Nodup:=by
    have:M.map (·.1)=L.map (·.1):=by rw [← hM,List.map_map]; rfl
    rw [this]; exact l1
  have inL:∀ x∈M,(x.1,x.2.2)∈L:=fun x hx=>hM ▸ List.mem_map.mpr ⟨x,hx,rfl⟩
  have inM:∀ p∈L,∃ od,(p.1,od,p.2)∈M:=fun p hp=>by
    rw [← hM] at hp
    obtain ⟨x,hx,rfl⟩:=List.mem_map.mp hp
    exact ⟨x.2.1,hx⟩
  have FM:∀ x∈M,F x.1=none:=fun x hx=>(l2 _ (inL x hx)).2.2
  have HM:∀ x∈M,H x.1=some x.2.2:=fun x hx=>(l2 _ (inL x hx)).1
  have cas:∀ a,(∃ x∈M,x.1=a)∨∀ x∈M,x.1≠a:=fun a=>by
    by_cases q:∃ x∈M,x.1=a
    · exact .inl q
    · exact .inr fun x hx e=>q ⟨x,hx,e⟩
  have exF:Ex F (uv M F):=fun a o e=>by
    rcases cas a with ⟨x,hx,rfl⟩ | n
    · rw [FM x hx] at e; cases e
    · rw [yg n]; exact e
  have exFH:Ex (uv M F) (uv M H):=fun a o e=>by
    rcases cas a with ⟨x,hx,rfl⟩ | n
    · rw [zef ndM x hx] at e ⊢; exact e
    · rw [yg n] at e ⊢; exact R.e3 _ _ e
  have tpM:Tp (uv M F) (uv M H):=fun a vs e=>by
    rcases cas a with ⟨x,hx,rfl⟩ | n
    · rw [zef ndM x hx] at e; cases e
    · rw [yg n] at e ⊢; exact R.tp _ _ e
  have R0:RepS K (uv M F) (uv M H) [] (zat is 0 δ) σ (uv M F) (uv M H):=by
    refine ⟨Ex.refl _,Ex.refl _,exFH,fun a o e=>.inl e,tpM,by rw [zod]; exact R.len,⟨fun _=>none,(fun _ _ h=>nomatch h),fun j s hs=>?_⟩,(R.low.mono R.e1).mono exF,fun _ _ h=>nomatch h⟩
    rcases zur is 0 δ j s hs with ⟨d,rfl,hd⟩ | ⟨o,rfl,hd,hj⟩
    · obtain ⟨v,ev,r⟩:=R.fz hd
      exact ⟨v,ev,r.mono exF⟩
    · rw [Nat.zero_add] at hj
      obtain ⟨p,hp,ev,q⟩:=l4 j hj o hd
      obtain ⟨od,hm⟩:=inM p hp
      exact ⟨_,ev,q _ od exF (zef ndM _ hm)⟩
  refine ⟨_,_,[],_,_,_,R0,ht,fun δ1 F1 H1 p hob o R1 hP ex1 oa ⟨hf,q⟩=>?_⟩
  have h1M:∀ x∈M,H1 x.1=some (.frz x.2.1 x.2.2):=fun x hx=>R1.e2 _ _ (zef ndM x hx)
  refine ⟨h1M,?_⟩
  have rp:=R1.rsv p hob (by simp)
  have pM:∀ x∈M,x.1≠p:=fun x hx z=>by
    have:=rp.1
    rw [← z,zef ndM x hx] at this; cases this
  let F2:Hp:=fun a=>if H a=none∨F a≠none then F1 a else none
  have f2M:∀ x∈M,F2 x.1=none:=fun x hx=>if_neg (by rw [HM x hx,FM x hx]; simp)
  have f2:∀ a o,F2 a=some o→F1 a=some o∧∀ x∈M,x.1≠a:=fun a o e=>by
    have e':(if H a=none∨F a≠none then F1 a else none)=some o:=e
    split at e'
    · exact ⟨e',fun x hx z=>by subst z; rw [f2M x hx] at e; cases e⟩
    · cases e'
  have eF:Ex F F2:=fun a o e=>by
    have:F2 a=F1 a:=if_pos (.inr (by rw [e]; simp))
    rw [this]; exact R1.e1 _ _ (exF _ _ e)
  have eH:Ex H (yf M H1):=fun a o e=>by
    rcases cas a with ⟨x,hx,rfl⟩ | n
    · rw [zlw ndM x hx,← HM x hx]; exact e
    · rw [zbu n]; exact R1.e2 _ _ (by rw [yg n]; exact e)
  have eFH:Ex F2 (yf M H1):=fun a o e=>by
    obtain ⟨e1,n⟩:=f2 a o e
    rw [zbu n]; exact R1.e3 _ _ e1
  have fr:∀ a o,F2 a=some o→F a=some o∨H a=none:=fun a o e=>by
    obtain ⟨e1,n⟩:=f2 a o e
    rcases R1.fr a o e1 with z | z
    · rw [yg n] at z; exact .inl z
    · rw [yg n] at z; exact .inr z
  have tp:Tp F2 (yf M H1):=fun a vs e=>by
    rcases cas a with ⟨x,hx,rfl⟩ | n
    · rw [zlw ndM x hx] at e
      have mu:=(l2 _ (inL x hx)).2.1
      have e2:x.2.2 = .tup vs:=Option.some.inj e
      rw [show (x.1,x.2.2).2=x.2.2 from rfl,e2] at mu
      exact False.elim mu
    · rw [zbu n] at e
      have e1:=R1.tp _ _ e
      have:F2 a=F1 a:=by
        refine if_pos ?_
        rcases R1.fr a _ e1 with z | z
        · rw [yg n] at z; exact .inr (by rw [z]; simp)
        · rw [yg n] at z; exact .inl z
      rw [this]; exact e1
  have hp0:H p=none:=by have:=rp.1; rw [yg pM] at this; exact this
  have hp2:yf M H1 p=some hob:=by rw [zbu pM]; exact rp.2.2
  have fp2:F2 p=none:=by
    have:F2 p=F1 p:=if_pos (.inl hp0)
    rw [this]; exact rp.2.1
  obtain ⟨R2,hP2⟩:=R.growP ⟨eF,eH,eFH,fr,tp⟩ hp0 hp2 fp2
  exact k δ F2 _ p hob o R2 hP2 eF (oa.flat hf (by rw [hp2,rp.2.2])) q
end
section
variable {X:Cx} {K:Frag} {a o:Expr} {tw:DV} {ta:DE} {pos apos mpos:Pos}
end
def zx {κ α:Type} [DecidableEq κ] (t kvs:List (κ×α)):List (κ×α):=kvs.foldl (fun t q=>putG t q.1 q.2) t
def v9 {κ:Type} [DecidableEq κ] (t kvs:List (κ×V)):List (κ×V):=kvs.foldl (fun t q=>putK t q.1 q.2) t
section
variable {K:Frag} {F:Hp}
theorem RepG.merge {κ:Type} [DecidableEq κ]:∀ {ws us:List (κ×V)} {kvs es:List (κ×D)},RepG K F us es→RepG K F ws kvs→RepG K F (v9 us ws) (zx es kvs)
  | _,_,_,_,h,.nil=>h
  | _,_,_,_,h,.cons (k:=k) r t=>by
    have:=RepG.merge (h.put k r) t
    exact this
end
section
variable {X:Cx}
end
section
variable {X:Cx} {K:Frag} {e a b c o:Expr} {te ta tb tk:DE} {to:DOw} {tw:DV} {pos p apos cpos:Pos}
end
section
variable {X:Cx} {K:Frag}
end
end Mv
namespace Mv
open PySem PySem.Spec PyProof.Rows L2 PySem.SeqAt
open PySem.AutoSeq1 (wpAny_loadPart')
open PySem.MeetsSeq PySem.MeetsSeq2 PySem.MeetsSeq3
section
variable {P:Program} {w:World} {a c:Addr} {us vs:Array Value} {m m2:Nat} {da dc:Option Addr} {la lc:Array (Option Value)} {f:Nat→Bool}
end
end Mv
namespace Mv
open PySem PySem.Spec PyProof.Rows L2
section
variable {P:Program} {w:World} {K:Frag} {F H:Hp} {s:Shared}
end
section
variable {X:Cx}
end
section
variable {X:Cx} {K:Frag}
end
section
variable {X:Cx} {K:Frag}
end
section
variable {prog:Program} {w:World} {K:Type} [DecidableEq K] {knd:KeyKind prog w K} {A:Around} {E:Value→Shared→Prop} {s:Shared}
theorem zsz {d:Addr} {kvs:List (K×Value)} {k:K} {key v:Value} {Q:Unit→Shared→Prop} (is:knd.is k key=true) (at_:s.heap.DictOf knd d kvs) (len:kvs.length≤sizeLine)
    (go:∀ h',h'.DictOf knd d (stored kvs k v)→Heap.SameBut d s.heap h'→Q () { s with heap:=h' }):wpAny (model prog w) A (dictPut d (knd.hash k) key v) Q E s:=by
  obtain ⟨ob,ents,n,get,cls,dat,keys,pairs,once⟩:=at_
  have few:ents.size≤sizeLine:=by
    have:=pairs.length
    rw [Array.length_toList] at this
    omega
  have same:(ents.findIdx? fun e=>knd.is k e.key)=kvs.findIdx? fun kv=>decide (kv.1=k):=by
    have:=pairs.findIdx k
    rw [← this]
    cases ents; simp
  unfold dictPut
  refine wpAny_bind (wpAny_dictFind_of is get dat keys ?_)
  cases f:ents.findIdx? fun e=>knd.is k e.key with
  | none =>
    have out:k ∉ kvs.map (·.1):=not_mem_of_findIdx_none (same ▸ f)
    have no:¬ (kvs.any fun kv=>decide (kv.1=k))=true:=fun z=>by
      obtain ⟨q,hq,e⟩:=List.any_eq_true.mp z
      exact out (of_decide_eq_true e ▸ List.mem_map.mpr ⟨q,hq,rfl⟩)
    have est:stored kvs k v=kvs++[(k,v)]:=by unfold stored; rw [if_neg no]
    refine wpAny_updateDictKeys (hz:=few) get dat (go _ ?_ (Heap.SameBut.update ..))
    refine ⟨_,_,n + 1,Heap.get?_update_self _ get (Obj.isFreed_of_dict (Obj.data_mapDictKeys dat _)),cls.mapDictKeys _,Obj.data_mapDictKeys dat _,keys.push is _,?_,?_⟩
    · rw [est]
      have:=pairs.append is (knd.hash k) v
      cases ents; simpa using this
    · rw [est,List.map_append]
      refine List.nodup_append.mpr ⟨once,by simp,fun a ha b hb e=>out ?_⟩
      have:b=k:=by simpa using hb
      rw [← this,← e]; exact ha
  | some i =>
    have est:stored kvs k v=kvs.map fun kv=>if kv.1=k then (kv.1,v) else kv:=by unfold stored; rw [if_pos (any_of_findIdx_some (same ▸ f))]
    refine wpAny_updateDict get dat (go _ ?_ (Heap.SameBut.update ..))
    refine ⟨_,_,n,Heap.get?_update_self _ get (Obj.isFreed_of_dict (Obj.data_mapDict dat _)),cls.mapDict _,Obj.data_mapDict dat _,keys.modify _ _,?_,?_⟩
    · rw [est]
      have fl:ents.toList.findIdx? (fun e=>knd.is k e.key)=some i:=by rw [← f]; cases ents; simp
      have:=pairs.modify once fl v
      cases ents; simpa using this
    · rw [est,keys_map_store]; exact once
end
section
variable {prog:Program} {w:World} {A:Around} {E:Value→Shared→Prop} {s:Shared}
theorem zs0 {k:Key} {v:Value} (h:(mixKind prog w).is k v=true):∀ a,v≠.ref a:=fun a e=>by
  rcases keyIs_shape h with ⟨i,t,rfl,rfl⟩ | ⟨x,t,rfl,rfl⟩ <;> cases e
theorem zs1 {d o:Addr} {kvs more:List (Key×Value)} {Q:Unit→Shared→Prop} (ne:d≠o) (sys:(o == sysModules)=false) (hd:s.heap.DictOf (mixKind prog w) d kvs) (ho:s.heap.DictOf (mixKind prog w) o more)
    (len:kvs.length + more.length≤sizeLine) (go:∀ h',h'.DictOf (mixKind prog w) d (merged kvs more)→Heap.SameBut d s.heap h'→Q () { s with heap:=h' }):wpAny (model prog w) A (mergeMapping d (.ref o) false) Q E s:=by
  obtain ⟨ob1,ents1,n1,get1,cls1,dat1,keys1,pairs1,once1⟩:=id hd
  obtain ⟨ob2,ents2,n2,get2,cls2,dat2,keys2,pairs2,once2⟩:=id ho
  unfold mergeMapping
  refine wpAny_bind (wpAny_isInstance ho.typeIs isSubtype_dict_dict ?_)
  rw [if_pos rfl]
  refine wpAny_bind (wpAny_specialOf ho.typeIs F.slot_dict_iter.lookup ?_)
  refine wpAny_bind (wpAny_pure ?_)
  simp only [beq_self_eq_true]
  rw [if_neg (by rw [sys]; decide)]
  refine wpAny_bind (wpAny_dictEntries get1 dat1 ?_)
  have loop:wpAny (model prog w) A (do
      let l ← dictEntries o
      let epoch ← dictEpoch o
      forIn (List.range l.size) PUnit.unit fun i (_:PUnit)=>(do
        let l' ← dictEntries o
        match l'[i]? with
          | some e=>do
            holding [e.key,e.val] (dictPut d e.hash e.key e.val)
            let ep ← dictEpoch o
            if (ep != epoch)=true then do
              (unsupported "dict.changed-during-merge" : Sem PUnit)
              pure (ForInStep.yield PUnit.unit)
            else pure (ForInStep.yield PUnit.unit)
          | _=>do
            (unsupported "dict.changed-during-merge" : Sem PUnit)
            pure (ForInStep.yield PUnit.unit):Sem (ForInStep PUnit))
      pure ()) Q E s:=by
    have size:more.length=ents2.size:=by rw [← pairs2.length,Array.length_toList]
    refine wpAny_bind (wpAny_dictEntries get2 dat2 (wpAny_bind (wpAny_dictEpoch get2 dat2 (wpAny_bind ?_))))
    refine wpAny_forIn_list _ (fun rest _ s'=>∃ (h':Heap) (i:Nat),s' = { s with heap:=h' }∧rest=List.range' i (ents2.size - i)∧i≤ents2.size∧h'.get? o=some ob2∧Heap.SameBut d s.heap h'∧h'.DictOf (mixKind prog w) d (merged kvs (more.take i))) _ ?_ ?_ _ _ ?_
    · rintro x rest b s' ⟨h',i,rfl,er,hi,g2,sb,dd⟩
      have hlt:i < ents2.size:=by
        rcases Nat.lt_or_ge i ents2.size with z | z
        · exact z
        · rw [Nat.sub_eq_zero_of_le z] at er; cases er
      have e1:ents2.size - i=(ents2.size - (i + 1)) + 1:=by omega
      rw [e1,List.range'_succ] at er
      obtain ⟨rfl,er⟩:=List.cons.inj er
      obtain ⟨⟨mk,mv⟩,at_⟩:∃ q,more[x]? = some q:=⟨_,List.getElem?_eq_getElem (by omega)⟩
      obtain ⟨q1,q2⟩:=pairs2.get? (e:=ents2[x]) (by simp [hlt]) at_
      obtain ⟨k',q3,q4⟩:=keys2 ents2[x] (Array.getElem_mem hlt)
      obtain rfl:k'=mk:=(mixKind prog w).inj _ _ _ q3 q1
      refine wpAny_bind (wpAny_dictEntries g2 dat2 ?_)
      rw [Array.getElem?_eq_getElem hlt]
      have few:(merged kvs (more.take x)).length≤sizeLine:=by
        have a1:=merged_length_le kvs (more.take x)
        have a2:(more.take x).length≤more.length:=by rw [List.length_take]; omega
        omega
      show wpAny _ _ (holding [ents2[x].key,ents2[x].val] (dictPut d ents2[x].hash ents2[x].key ents2[x].val) >>= _) _ _ _
      rw [q4,q2]
      refine wpAny_bind (wpAny_holding (zsz q1 dd few fun h'' dd'' sb''=>?_))
      have g3:h''.get? o=some ob2:=(sb''.2 o (Ne.symm ne)).trans g2
      refine wpAny_bind (wpAny_dictEpoch g3 dat2 ?_)
      rw [if_neg (by simp)]
      exact wpAny_pure ⟨h'',x + 1,rfl,er,hlt,g3,sb.trans sb'',by rw [merged_take_succ kvs more x (k',mv) at_]; exact dd''⟩
    · rintro b s' ⟨h',i,rfl,er,hi,g2,sb,dd⟩
      have hin:i=ents2.size:=by
        rcases Nat.lt_or_ge i ents2.size with z | z
        · rw [show ents2.size - i=(ents2.size - (i + 1)) + 1 by omega,List.range'_succ] at er; cases er
        · omega
      rw [hin,← size,List.take_length] at dd
      exact wpAny_pure (go h' dd sb)
    · exact ⟨s.heap,0,rfl,by rw [List.range_eq_range']; rfl,Nat.zero_le _,get2,Heap.SameBut.refl _ _,by simpa [merged] using hd⟩
  split
  · refine wpAny_bind (wpAny_dictEntries get2 dat2 ?_)
    refine wpAny_bind ?_
    rw [← Array.forIn_toList]
    refine wpAny_forIn_list _ (fun rest _ s'=>s'=s∧∀ e∈rest,e∈ents2) _ ?_ ?_ _ _ ⟨rfl,fun e he=>by simpa using he⟩
    · rintro e rest b s' ⟨rfl,hm⟩
      obtain ⟨k,hk,_⟩:=keys2 e (hm e (List.mem_cons_self ..))
      have nr:=zs0 hk
      have keep:∀ e'∈rest,e'∈ents2:=fun e' he=>hm e' (List.mem_cons_of_mem _ he)
      split
      · rename_i a he; exact absurd he (nr a)
      · exact wpAny_pure ⟨rfl,keep⟩
    · rintro b s' ⟨rfl,_⟩
      exact loop
  · exact loop
end
section
variable {prog:Program} {w:World} {A:Around} {E:Value→Shared→Prop} {s:Shared}
theorem zut {m1 m2:Sem Value} {Q:Value→Shared→Prop}
    (h:wpAny (model prog w) A (alloc { cls:=.type "dict", data:=.dict #[] }) (fun d s1=>wpAny (model prog w) A m1 (fun x s2=>wpAny (model prog w) A (mergeMapping d x false) (fun _ s3=>wpAny (model prog w) A m2 (fun y s4=>wpAny (model prog w) A (mergeMapping d y false) (fun _ s5=>Q (.ref d) s5) (fun _ _=>False) s4) E s3) (fun _ _=>False) s2) E s1) E s) :
    wpAny (model prog w) A (dictDisplay [(none,m1),(none,m2)]) Q E s:=by
  unfold dictDisplay
  simp only [List.forIn_cons,List.forIn_nil,bind_assoc,pure_bind,List.isEmpty_nil,if_true]
  refine wpAny_bind (wpAny_mono h (fun d s1 h1=>?_) fun _ _ e=>e)
  refine wpAny_bind (wpAny_holding (wpAny_mono h1 (fun x s2 h2=>?_) fun _ _ e=>e))
  refine wpAny_bind (wpAny_onRaise (wpAny_tryCatch (wpAny_onRaise (wpAny_holding (wpAny_mono h2 (fun _ s3 h3=>?_) fun _ _ e=>e.elim)))))
  refine wpAny_bind (wpAny_holding (wpAny_mono h3 (fun y s4 h4=>?_) fun _ _ e=>e))
  refine wpAny_bind (wpAny_onRaise (wpAny_tryCatch (wpAny_onRaise (wpAny_holding (wpAny_mono h4 (fun _ s5 h5=>?_) fun _ _ e=>e.elim)))))
  exact wpAny_pure h5
end
section
variable {X:Cx} {e1 e2:Expr} {t1 t2:TE} {pos:Pos}
def tMrg (t1 t2:TE):TE:=fun σ H Q=>∀ p,H p=none→t1 σ (upd H p (.dK [])) fun x H1=>∃ a ws1,x = .ref a∧Rd H1 a (.dK ws1)∧a≠p∧H1 p=some (.dK []) ∧
  t2 σ (upd H1 p (.dK (v9 [] ws1))) fun y H2=>∃ b ws2,y = .ref b∧Rd H2 b (.dK ws2)∧b≠p∧H2 p=some (.dK (v9 [] ws1))∧ws1.length + ws2.length≤sizeLine∧Q (.ref p) (upd H2 p (.dK (v9 (v9 [] ws1) ws2)))
theorem zyo (h1:PE X e1 t1) (h2:PE X e2 t2):PE X (.Dict [none,none] [e1,e2] pos) (tMrg t1 t2):=⟨fun pins s σ H Q I h=>by
  rw [arm_eval_Dict]
  refine wpAny_bind (wpAny_standAt ?_)
  show wpAny _ _ (dictDisplay [(none,do let x ← eval e1 X.env; standAt pos; pure x),(none,do let x ← eval e2 X.env; standAt pos; pure x)]) _ _ _
  refine zut (wpAny_alloc ?_)
  have I1:Inv X pins σ (upd H s.heap.objs.size (.dK [])) { s with heap:=s.heap.push { cls:=.type "dict", data:=.dict #[] } } :=
    I.laid (a:=s.heap.objs.size) (o:=.dK []) (t':=s.toks) (fun _ _ q=>Heap.get?_push_of_some _ q) (Nat.le_refl _) (dk_empty s.heap I.big)
  have step:∀ {s2:Shared} {H2:Hp} {p a:Addr} {ws0 ws1:List (Key×V)} {R:Unit→Shared→Prop},Inv X pins σ H2 s2→Rd H2 a (.dK ws1)→a≠p→H2 p=some (.dK ws0)→ws0.length + ws1.length≤sizeLine →
      (∀ s3,Inv X pins σ (upd H2 p (.dK (v9 ws0 ws1))) s3→R () s3)→wpAny (model X.prog X.w) X.A (mergeMapping p (.ref a) false) R (fun _ _=>False) s2:=by
    intro s2 H2 p a ws0 ws1 R I2 rd ne hp len go
    obtain ⟨z1,lo1,vs1,rel1,dd1⟩:=dk_rd I2.hok rd
    obtain ⟨z0,lo0,vs0,rel0,dd0⟩:=dk_of I2.hok hp
    have l0:=rel0.length
    have l1:=rel1.length
    refine zs1 (Ne.symm ne) lo1 dd0 dd1 (by omega) fun h' dd sb=>?_
    have rm:KV (v9 ws0 ws1) (merged vs0 vs1):=KV.merge rel1 rel0
    have lm:=merged_length_le vs0 vs1
    have lr:=rm.length
    have he:∃ q,h'.get? p=some q:=by obtain ⟨ob,_,_,g,_⟩:=dd; exact ⟨ob,g⟩
    exact go _ (d_write (t':=s2.toks) I2 (by rw [hp]; trivial) sb he (dk_new (by omega) lo0 rm dd))
  refine wpAny_bind (thn (h1.run pins _ σ _ _ I1 (h _ (I.hok.fresh (Nat.le_refl _)))) fun v s2 ⟨x,H2,I2,r2,q2⟩=>wpAny_bind (wpAny_standAt (wpAny_pure ?_)))
  obtain ⟨a,ws1,rfl,rd,ne,hp,q2⟩:=q2
  cases (show v = .ref a from r2)
  have z1:=(dk_rd I2.hok rd).1
  refine step I2 rd ne hp (by simpa using z1) fun s3 I3=>?_
  refine wpAny_bind (thn (h2.run pins _ σ _ _ I3 q2) fun v s4 ⟨y,H4,I4,r4,q4⟩=>wpAny_bind (wpAny_standAt (wpAny_pure ?_)))
  obtain ⟨b,ws2,rfl,rd2,ne2,hp2,len,q4⟩:=q4
  cases (show v = .ref b from r4)
  have lm:(v9 [] ws1).length + ws2.length≤sizeLine:=by
    obtain ⟨_,_,vs1,rel1,_⟩:=dk_rd I2.hok rd
    have rm:KV (v9 [] ws1) (merged [] vs1):=KV.merge rel1 .nil
    have:=merged_length_le ([]:List (Key×Value)) vs1
    have:=rm.length
    have:=rel1.length
    simp at *
    omega
  exact step I4 rd2 ne2 hp2 lm fun s5 I5=>⟨.ref _,_,I5,rfl,q4⟩⟩
end
section
variable {X:Cx} {K:Frag} {e1 e2:Expr} {ta tb:DE} {pos:Pos}
def dMrg (ta tb:DE):DOw:=fun δ Q=>ta δ fun δ1 x=>∃ k1,x = .dk k1∧tb δ1 fun δ2 y=>∃ k2,y = .dk k2∧k1.length + k2.length≤sizeLine∧Q δ2 (.dk (zx (zx [] k1) k2))
theorem zs2 (h1:PE X e1 (upE K ta)) (h2:PE X e2 (upE K tb)):PE X (.Dict [none,none] [e1,e2] pos) (upO K (dMrg ta tb)):=pimp (zyo h1 h2) fun σ H Q ⟨F0,H0,P,δ,F,Q',R,ht,k⟩=>fun p hp=>by
  have hP:=R.fresh hp
  refine ⟨F0,H0,(p,.dK []) :: P,δ,F,_,R.newP hp,ht,fun δ1 F1 H1 v d R1 ex1 r ⟨k1,ed,ht⟩=>?_⟩
  subst ed
  cases r with
  | @dk a od ws _ h rg =>
    have rs1:=R1.rsv p _ (List.mem_cons_self ..)
    refine ⟨a,ws,rfl,.inr ⟨_,R1.e3 _ _ h⟩,(fun z=>by rw [z,rs1.2.1] at h; cases h),rs1.2.2,F0,H0,_,δ1,F1,_,R1.wrP hP (.dK (v9 [] ws)),ht,fun δ2 F2 H2 v2 d2 R2 ex2 r2 ⟨k2,ed2,len,ht⟩=>?_⟩
    subst ed2
    cases r2 with
    | @dk b od2 ws2 _ h2 rg2 =>
      have rs2:=R2.rsv p _ (List.mem_cons_self ..)
      have l1:=rg.g.length
      have l2:=rg2.g.length
      refine ⟨b,ws2,rfl,.inr ⟨_,R2.e3 _ _ h2⟩,(fun z=>by rw [z,rs2.2.1] at h2; cases h2),rs2.2.2,by omega,?_⟩
      have r12:RepG K F2 (v9 (v9 [] ws) ws2) (zx (zx [] k1) k2):=((RepG.nil).merge (rg.mono ex2).g).merge rg2.g
      exact k δ2 F2 _ p _ _ (R2.wrP hP (.dK (v9 (v9 [] ws) ws2))) hP (ex1.trans ex2) (show OwnAt K F2 _ p (.dk _) from ⟨_,upd_same,r12.k⟩) ht
end
section
variable {K:Frag} {F0 H0 F H F' H':Hp} {P:Pl} {δ:Dl} {σ:L2.St} {κ:Type}
end
section
variable {X:Cx} {K:Frag} {e a b c o f:Expr} {ta tb tc te tk tx tk2:DE} {to:DOw} {pos p apos cpos pos':Pos}
end
section
variable {X:Cx} {pins:List (Addr×Obj)} {σ:L2.St} {H:Hp} {s:Shared} {a b:Addr} {r:Value} {d:V} {A:Around} {E:Value→Shared→Prop}
end
section
variable {X:Cx} {o e f:Expr} {td ty tx:TE} {apos cpos:Pos}
end
section
variable {X:Cx} {K:Frag} {e f o nm:Expr} {tk:DE} {to:DOw} {apos cpos pos' a2 c2:Pos}
end
theorem paired_get {α β:Type} {R:α→β→Prop} {xs:List α} {ys:List β} (p:Paired R xs ys):∀ (i:Nat) (y:β),ys[i]? = some y→∃ x,xs[i]? = some x∧R x y:=by
  induction p with
  | nil=>intro i y h; simp at h
  | cons r t ih =>
    intro i y h
    cases i with
    | zero=>simp at h; subst h; exact ⟨_,rfl,r⟩
    | succ i=>exact ih i y (by simpa using h)
section
variable {X:Cx} {K:Frag} {e:Expr} {td:TE} {pins:List (Addr×Obj)} {σ:L2.St} {H:Hp} {s:Shared} {a:Addr} {apos cpos:Pos}
end
section
variable {X:Cx} {K:Frag} {o:Expr} {tw:DV} {pos p apos mpos:Pos}
end
end Mv
namespace Mv
open PySem PySem.Spec PyProof.Rows L2 PySem.W
section
variable {X:Cx} {K:Frag}
end
end Mv
namespace Mv
open PySem PySem.Spec PyProof.Rows L2
section
variable {K:Frag} {F0 H0 F H F' H':Hp} {P:Pl} {δ:Dl} {σ:L2.St} {W:Wl} {a:Addr} {o o':O} {ho:HO}
end
section
variable {X:Cx} {K:Frag} {e a b c o:Expr} {es:List Expr} {ta tb tc te tk tv:DE} {tw:DV} {to:DOw} {st:Stmt} {rest body:List Stmt} {t u:DS} {ts:DA} {pos p apos cpos:Pos}
end
section
variable {K:Frag} {F H:Hp}
end
section
variable {P:Program} {w:World} {H:Hp} {h:Heap} {a C dx:Addr} {fs:List (Str×V)}
end
section
variable {X:Cx} {pins:List (Addr×Obj)} {σ:L2.St} {H:Hp} {s:Shared} {a C dx:Addr} {fs:List (Str×V)} {f:Str} {v:V} {A:Around} {E:Value→Shared→Prop}
end
section
variable {X:Cx} {K:Frag} {e o value:Expr} {f:Str} {C:Addr} {pos pos' tpos:Pos} {ta tv te:DE} {tw:DV} {t0:TE} {v:V} {u:Value} {d:D}
end
def setO (o:O) (kd d:D) (Q:O→Prop):Prop:=match o with
  | .lst ds=>∃ (z:Int) (k:Nat),kd = .int z∧ixN ds.length z=some k∧Q (.lst (ds.set k d))
  | .dk kvs=>∃ k,dkey kd=some k∧kvs.length < sizeLine∧Q (.dk (putG kvs k d))
  | .dt kvs=>∃ k,tkey kd=some k∧kvs.length < sizeLine∧Q (.dt (putG kvs k d))
  | .ins _ _=>False
section
variable {X:Cx} {K:Frag} {e o:Expr} {pos:Pos} {to tk:DE}
end
abbrev DSpW:=List D→Wl→(S→Prop)→Prop
section
variable {K:Frag} {F0 H0 F H F' H':Hp} {P:Pl} {δ:Dl} {σ:L2.St} {W L L' W':Wl}
end
section
variable {K:Frag} {F0 H0 F H:Hp} {P:Pl} {δ:Dl} {σ:L2.St} {W:Wl} {n:Nat} {sp:DSpW} {Q:VK} {E:XK} {vs:List V} {ds:List D} {Qd:Wl→S→Prop}
end
section
variable {X:Cx} {K:Frag} {e a b c o:Expr} {es:List Expr} {ta tb tc te tk tv:DE} {tw:DV} {st:Stmt} {rest body:List Stmt} {t u:DS} {ts:DA} {pos p apos cpos:Pos} {C g:Addr} {m x:Str} {n k:Nat} {sp:DSpW} {spd:DSp} {E:XK}
theorem zyp {σ:L2.St} {H:Hp} {Q:List V→Hp→Prop} (h:upA K dNil σ H Q):tNil σ H Q:=by
  obtain ⟨F0,H0,P,δ,F,Q',R,ht,k⟩:=h
  exact k δ F H _ _ R (Ex.refl F) .nil ht
variable {t0:TE} {t1:TA} {s0:Sp}
end
section
variable {K:Frag}
end
section
variable {P:Program} {w:World} {K:Frag} {mg:Str→Option Value} {base:Heap}
section
variable {x qual:Str} {st:Stmt} {f:Addr} {fd:FuncData} {N ps:List Str} {k:Nat} {sp:DSpW} {spd:DSp} {kws:List (Str×V)}
end
end
section
variable {prog:Program} {w:World} {A:Around} {E:Value→Shared→Prop} {s:Shared}
end
section
variable {X:Cx} {e1 ek ev:Expr} {t1 tk tv:TE} {pos:Pos}
end
section
variable {X:Cx} {K:Frag} {e1 ek ev e y:Expr} {es:List Expr} {ta tk tv te:DE} {tw:DV} {to:DOw} {ts:DA} {pos p:Pos} {C:Addr} {n m:Nat} {sp:DSpW} {E:XK} {f:Str}
end
section
variable {X:Cx} {K:Frag} {e o:Expr} {es:List Expr} {ta tb tc te tk tv:DE} {tw:DV} {pos p apos cpos:Pos} {C g:Addr} {m:Str} {n k:Nat} {E:XK} {spd:DSp} {sp:DSpW}
end
section
variable {P:Program} {w:World} {K:Frag} {mg:Str→Option Value} {base:Heap} {x qual pv:Str} {st:Stmt} {f:Addr} {fd:FuncData} {N ps:List Str} {k n:Nat} {sp:DSpW}
end
section
variable {X:Cx} {K:Frag} {e o:Expr} {es:List Expr} {ta tb tc te tk tv:DE} {tw:DV} {pos p apos cpos:Pos} {C g:Addr} {m:Str} {n k:Nat} {E:XK} {s0:Sp} {sp:DSpW}
end
def zjc:List (DE×DE)→Dl→(Dl→List (Key×D)→Prop)→Prop
  | [],δ,Q=>Q δ []
  | q :: r,δ,Q=>q.1 δ fun δ1 y=>q.2 δ1 fun δ2 z=>∃ k,dkey y=some k∧zjc r δ2 fun δ3 ps=>Q δ3 ((k,z) :: ps)
def znn (trs:List (DE×DE)):DOw:=fun δ Q=>zjc trs δ fun δ1 ps=>ps.length≤15∧Q δ1 (.dk (zx [] ps))
def zeg (K:Frag) (trs:List (DE×DE)):List (TE×TE):=trs.map fun q=>(upE K q.1,upE K q.2)
section
variable {X:Cx} {K:Frag} {pos:Pos} {keys:List (Option Expr)} {values:List Expr} {trs:List (DE×DE)} {k v:Expr} {ks:List (Option Expr)} {vs:List Expr} {tk tv:DE}
theorem ppn:PPs X pos [] [] (zeg K []):=pps_nil
theorem ppc (hk:PE X k (upE K tk)) (hv:PE X v (upE K tv)) (hr:PPs X pos ks vs (zeg K trs)):PPs X pos (some k :: ks) (v :: vs) (zeg K ((tk,tv) :: trs)):=pps_cons hk hv hr
theorem zof {F0 H0:Hp} {P:Pl} {σ:L2.St}:∀ {trs:List (DE×DE)} {δ:Dl} {F H:Hp} {Q':Dl→List (Key×D)→Prop} {Qd:List (V×V)→Hp→Prop},RepS K F0 H0 P δ σ F H→zjc trs δ Q' →
    (∀ δ' F' H' (kvs:List (Key×V)) dps,RepS K F0 H0 P δ' σ F' H'→Ex F F'→RepG K F' kvs dps→Q' δ' dps→Qd (kvs.map fun kv=>(kV kv.1,kv.2)) H')→tPairs (zeg K trs) σ H Qd
  | [],δ,F,H,Q',Qd,R,h,c=>c δ F H [] [] R (Ex.refl F) .nil h
  | q :: r,δ,F,H,Q',Qd,R,h,c=>by
    refine ⟨F0,H0,P,δ,F,_,R,h,fun δ1 F1 H1 x dx R1 e1 rx h=>?_⟩
    refine ⟨F0,H0,P,δ1,F1,_,R1,h,fun δ2 F2 H2 y dy R2 e2 ry ⟨kk,hk,h⟩=>?_⟩
    have ek:=ye rx hk
    subst ek
    exact zof R2 h fun δ3 F3 H3 kvs dps R3 e3 rg q=>c δ3 F3 H3 ((kk,y) :: kvs) _ R3 ((e1.trans e2).trans e3) (.cons (ry.mono e3) rg) q
theorem zqm (h:PPs X pos keys values (zeg K trs)) (hall:keys.all (·.isSome)=true:=by rfl) (hl:keys.length=values.length:=by rfl) (h0:keys≠[]:=by exact fun z=>nomatch z) (h15:keys.length≤15:=by decide) :
    PE X (.Dict keys values pos) (upO K (znn trs)):=pimp (pe_disp h hall hl h0 h15) fun σ H Q ⟨F0,H0,P,δ,F,Q',R,ht,kk⟩=>fun p hp=>by
  have hP:=R.fresh hp
  refine zof (R.newP (o:=.dK []) hp) ht fun δ1 F1 H1 kvs dps R1 e1 rg ⟨hz,q⟩=>?_
  refine ⟨(R1.rsv p _ (List.mem_cons_self ..)).2.2,kvs,rfl,by rw [rg.length]; exact hz,?_⟩
  have r:RepG K F1 (mergeK [] kvs) (zx [] dps):=(RepG.nil).merge rg
  exact kk δ1 F1 _ p _ _ (R1.wrP hP (.dK (mergeK [] kvs))) hP e1 (show OwnAt K F1 _ p (.dk _) from ⟨_,upd_same,r.k⟩) q
end
section
variable {P:Program} {w:World} {K:Frag} {mg:Str→Option Value} {base:Heap}
end
abbrev fz (d:D):Option S:=some (.fz d)
abbrev ow (o:O):Option S:=some (.own o)
abbrev DEnds.of (Q:S→Prop):DEnds:={ nx:=fun _=>Q (.fz .non),rt:=Q }
def zdw:DS :=
 (dSeq (dIfS (dTst (d2 gGe (d2 gIxS (dVar 0) (dC (.int 0))) (dVar 1))) (dSeq (dAsg (d2 gMod (d2 gIxS (dVar 0) (dC (.int 0))) (dVar 1)) (gN 2))
 (dSeq (dAsg (d2 gDiv (d2 gIxS (dVar 0) (dC (.int 0))) (dVar 1)) (zrm (dVar 0) (dC (.int 0))))
 (za2 2))) vc)
 (dSeq (dAsg (d2 gMod (d2 gAdd (d2 gMul (d2 gIxS (dVar 0) (dC (.int 1))) (dC (.int 48271))) (dC (.int 12345))) (dC (.int 2147483647))) (zrm (dVar 0) (dC (.int 1))))
 (dRet (d2 gMod (d2 gDiv (d2 gMod (d2 gPow (d2 gMod (d2 gPow (d2 gIxS (dVar 0) (dC (.int 1))) (dC (.int 3))) (dC (.int 2147483629))) (dC (.int 5))) (dC (.int 1000000007))) (dC (.int 7))) (dVar 1)))))
def zcp:DSp:=fun ds Q=>∃ n:Int,ds=[.obj 0,.int n]∧0 < n∧n < 1073741824∧∀ r:Int,0≤r→r < n→Q (.fz (.int r))
theorem ifb {b:Bool} {A B:Prop} (h1:b=true→A) (h2:b=false→B):if b=true then A else B:=by
  cases b with
  | true=>rw [if_pos rfl]; exact h1 rfl
  | false=>rw [if_neg (by decide)]; exact h2 rfl
theorem bits_lt {i:Int} {n:Nat} (h:i.natAbs < 2 ^ n):Builtin.Int.intBits i≤n:=by
  unfold Builtin.Int.intBits
  split
  · exact Nat.zero_le _
  · rename_i e
    have:i.natAbs≠0:=by simpa using e
    exact (Nat.log2_lt this).mpr h
theorem zrt {i:Int} {n k:Nat} (h:i.natAbs < 2 ^ n) (hk:n * k≤2 ^ 27):CPw i k:=⟨Int.natCast_nonneg k,by
  have h1:=bits_lt h
  have h2:Builtin.Int.intBits i * k≤n * k:=Nat.mul_le_mul_right k h1
  have h3:Builtin.Int.intBits i * k≤2 ^ 27:=Nat.le_trans h2 hk
  exact_mod_cast h3⟩
theorem zyq (ds:List D) (Q':S→Prop) (h:zcp ds Q'):zdw (DEnds.of Q') (zp 3 ds):=by
  obtain ⟨n,rfl,h0,h1,k⟩:=h
  refine .inl ⟨rfl,fun z=>⟨_,rfl,ifb (fun e=>?_) (fun e=>?_)⟩⟩
  · refine .inl ⟨rfl,fun z2=>⟨h0,.inl ⟨rfl,fun z3=>⟨⟨h0,h1⟩,rfl,_,rfl,.inl rfl,?_⟩⟩⟩⟩
    exact k _ (Int.emod_nonneg _ (by omega)) (Int.emod_lt_of_pos _ h0)
  · refine .inr ⟨rfl,fun z2 a b=>⟨.inl (.inr ⟨by decide,by decide⟩),?_⟩⟩
    have m1:=Int.emod_nonneg (z2 * 48271 + 12345) (show (2147483647:Int)≠0 by decide)
    have m2:=Int.emod_lt_of_pos (z2 * 48271 + 12345) (show (0:Int) < 2147483647 by decide)
    refine ⟨by decide,rfl,_,rfl,.inr ⟨rfl,m1,by omega⟩,.inr ⟨rfl,fun z3 c d=>?_⟩⟩
    have n1:=Int.emod_nonneg (z3 ^ 3) (show (2147483629:Int)≠0 by decide)
    have n2:=Int.emod_lt_of_pos (z3 ^ 3) (show (0:Int) < 2147483629 by decide)
    refine ⟨zrt (n:=32) (k:=3) (by omega) (by decide),by decide,zrt (n:=32) (k:=5) ?_ (by decide),by decide,⟨by decide,by decide⟩,h0,?_⟩
    · show (z3 ^ 3 % 2147483629).natAbs < 2 ^ 32
      omega
    · exact k _ (Int.emod_nonneg _ (by omega)) (Int.emod_lt_of_pos _ h0)
def zuu (c:Int):DS :=
 (dSeq (dAsg (d2 gAdd (dC (.int c)) (dVar 1)) (gN 2))
 (dSeq (dFor (dIL (dVar 0)) (gN 3)
 (dAsg (d2 gAdd (d2 gMod (d2 gPow (d2 gAdd (d2 gMul (dVar 2) (dC (.int 40127))) (dVar 3)) (dC (.int 3))) (dC (.int 2147483629))) (dC (.int 1))) (gN 2)))
 (dSeq (dAsg (dC (.int 0)) (gN 4))
 (dSeq (dIfS (dAnd (dTst (d2 gLt (dVar 1) (d1V gLen (dVV 0)))) (dTst (d2 gGe (d2V gIx (dVV 0) (dVar 1)) (d2 gPow (dC (.int 10)) (dC (.int 18)))))) (dAsg (d2 gSub (d2V gIx (dVV 0) (dVar 1)) (d2 gPow (dC (.int 10)) (dC (.int 18)))) (gN 4)) vc)
 (dRet (znj (dLst (ze (dVar 4) (ze (dVar 2) dNil)))))))))
theorem zuv {i:Int} {n:Nat} (h:Builtin.Int.intBits i≤n):i.natAbs < 2 ^ n:=by
  unfold Builtin.Int.intBits at h
  split at h
  · rename_i e
    have:i.natAbs=0:=by simpa using e
    rw [this]; exact Nat.two_pow_pos n
  · rename_i e
    have:i.natAbs≠0:=by simpa using e
    exact (Nat.log2_lt this).mp h
theorem zuw {n:Nat} (hn:48≤n) {a z:Int} (h0:0≤a) (h1:a < 2 ^ 32) (hz:Builtin.Int.intBits z≤n):Builtin.Int.intBits (a * 40127 + z)≤n + 1:=by
  refine bits_lt ?_
  have h2:=zuv hz
  have h3:(2:Nat) ^ 48≤2 ^ n:=Nat.pow_le_pow_right (by decide) hn
  have h4:(2:Nat) ^ (n + 1)=2 * 2 ^ n:=by rw [Nat.pow_succ,Nat.mul_comm]
  have h5:(2:Nat) ^ 48=281474976710656:=by decide
  rw [h4]
  generalize (2:Nat) ^ n=m at *
  omega
def zbv:DSp:=fun ds Q=>∃ (ns:List Int) (i:Int),ds=[.scr ns,.int i]∧0≤i∧i < 2 ^ 31∧(∀ z∈ns,Builtin.Int.intBits z≤1048576)∧Q (.fz (.obj 0))
theorem ze3 {α:Type} {xs:List α} {i:Int} (h0:0≤i) (h1:i < xs.length):∃ x,atI xs i=some x∧x∈xs:=by
  obtain ⟨j,rfl⟩:=Int.eq_ofNat_of_zero_le h0
  have hj:j < xs.length:=by omega
  have hj2:xs[j]? = some xs[j]:=List.getElem?_eq_getElem hj
  exact ⟨xs[j],atI_nat (j:=j) hj2,List.getElem_mem hj⟩
theorem zux (c:Int) (c0:0≤c) (c1:c < 1000) (ds:List D) (Q':S→Prop) (h:zbv ds Q'):zuu c (DEnds.of Q') (zp 5 ds):=by
  obtain ⟨ns,i,rfl,i0,i1,hz,q⟩:=h
  have tail:∀ (a:Option S) (sd dg:Int),0≤sd→sd < 2 ^ 32→dRet (znj (dLst (ze (dVar 4) (ze (dVar 2) dNil)))) (DEnds.of Q') [fz (.scr ns),fz (.int i),fz (.int sd),a,fz (.int dg)]:=fun a sd dg h0 h1 =>
    ⟨(by show 2≤sizeLine; decide),dg,sd,rfl,h0,h1,q⟩
  refine ⟨fun _ δ=>∃ (sd:Int) (a:Option S),δ=[fz (.scr ns),fz (.int i),fz (.int sd),a,none]∧0≤sd∧sd < 2 ^ 32,⟨c + i,_,rfl,by omega,by omega⟩,?_,?_⟩
  · rintro j d _ hd ⟨sd,a,rfl,h0,h1⟩
    rw [List.getElem?_map] at hd
    cases hj:ns[j]? with
    | none=>rw [hj] at hd; cases hd
    | some z =>
      rw [hj] at hd
      cases hd
      have hb:=zuw (n:=1048576) (by decide) h0 h1 (hz z (List.mem_of_getElem? hj))
      have n1:=Int.emod_nonneg ((sd * 40127 + z) ^ 3) (show (2147483629:Int)≠0 by decide)
      have n2:=Int.emod_lt_of_pos ((sd * 40127 + z) ^ 3) (show (0:Int) < 2147483629 by decide)
      refine ⟨.inl (.inr ⟨by decide,by decide⟩),⟨⟨by decide,?_⟩,by decide,?_⟩⟩
      · show (Builtin.Int.intBits (sd * 40127 + z):Int) * 3≤134217728
        clear n1 n2
        generalize Builtin.Int.intBits (sd * 40127 + z)=b at hb ⊢
        omega
      · exact ⟨_,_,rfl,by show 0≤(sd * 40127 + z) ^ 3 % 2147483629 + 1; omega,by show (sd * 40127 + z) ^ 3 % 2147483629 + 1 < 2 ^ 32; omega⟩
  · rintro _ ⟨sd,a,rfl,h0,h1⟩
    have p18:CPw 10 18:=zrt (i:=10) (n:=4) (k:=18) (by decide) (by decide)
    refine ⟨_,rfl,_,rfl,ifb (fun e=>?_) (fun e=>?_)⟩
    · have e:=of_decide_eq_true e
      obtain ⟨x,hx,_⟩:=ze3 i0 e
      refine ⟨_,rfl,x,hx,p18,_,rfl,ifb (fun e=>?_) (fun e=>?_)⟩
      · exact ⟨_,rfl,x,hx,p18,tail a sd _ h0 h1⟩
      · exact tail a sd _ h0 h1
    · exact tail a sd _ h0 h1
def zb8 (zt:DSp):DS :=
 (dRet (d2V gIx (dVV 1) (dCall 2 zt (ze (dVar 0) (ze (d1V gLen (dVV 1)) dNil)))))
def chD:D→Option (List D)
  | .lst xs=>some xs
  | .tup xs=>some xs
  | .str z=>if z.length≤16777216 then some (z.cps.toList.map fun c=>D.str ⟨#[c]⟩) else none
  | _=>none
def zbw:DSp:=fun ds Q=>∃ d xs,ds=[.obj 0,d]∧chD d=some xs∧0 < xs.length∧xs.length < 1073741824∧∀ x∈xs,Q (.fz x)
theorem zeh {n:Nat} (h:n≤16777216):n≤sizeLine:=by rw [sizeLine_eq]; omega
theorem zuy (ds:List D) (Q':S→Prop) (h:zbw ds Q'):zb8 zcp (DEnds.of Q') (zp 2 ds):=by
  obtain ⟨d,xs,rfl,hd,h0,h1,k⟩:=h
  cases d <;> simp only [chD] at hd <;> try cases hd
  case str z =>
    split at hd
    · rename_i hz
      cases hd
      have hl:z.length=z.cps.toList.length:=by show z.cps.size=_; simp
      rw [List.length_map] at h0 h1
      refine ⟨_,rfl,⟨zeh hz,rfl,z.length,rfl,by omega,by omega,fun r r0 r1=>?_⟩⟩
      obtain ⟨x,hx,hm⟩:=ze3 (xs:=z.cps.toList) r0 (by rw [← hl]; exact r1)
      exact ⟨_,rfl,x,zeh hz,hx,k _ (List.mem_map.mpr ⟨x,hm,rfl⟩)⟩
    · cases hd
  case tup =>
    refine ⟨_,rfl,rfl,xs.length,rfl,by omega,by omega,fun r r0 r1=>?_⟩
    obtain ⟨x,hx,hm⟩:=ze3 (xs:=xs) r0 r1
    exact ⟨_,rfl,x,hx,k _ hm⟩
  case lst =>
    refine ⟨_,rfl,rfl,xs.length,rfl,by omega,by omega,fun r r0 r1=>?_⟩
    obtain ⟨x,hx,hm⟩:=ze3 (xs:=xs) r0 r1
    exact ⟨_,rfl,x,hx,k _ hm⟩
def PureN (n:Nat) (x:D):Prop:=∃ p,toP x=some p∧p.canLay0=true∧p.depth≤n
theorem PureN.pure {n:Nat} {x:D} (h:PureN n x) (hn:n≤64):Pure x:=by
  obtain ⟨p,e,c,d⟩:=h
  exact ⟨p,e,by unfold SeqAt.shaped; simp [c]; omega⟩
theorem zjd {n:Nat}:∀ {xs:List D},(∀ x∈xs,PureN n x)→∃ ps,toPs xs=some ps∧PyData.canLayAll0 ps=true∧PyData.depthAll ps≤n∧ps.length=xs.length
  | [],_=>⟨[],rfl,by simp [PyData.canLayAll0],by simp [PyData.depthAll],rfl⟩
  | x :: xs,h=>by
    obtain ⟨p,e,c,d⟩:=h x (by simp)
    obtain ⟨ps,e2,c2,d2,l⟩:=zjd (n:=n) (xs:=xs) fun y hy=>h y (by simp [hy])
    refine ⟨p :: ps,by simp [toPs,e,e2],by simp [PyData.canLayAll0,c,c2],?_,by simp [l]⟩
    simp only [PyData.depthAll]
    omega
theorem PureN.lst {n:Nat} {xs:List D} (h:∀ x∈xs,PureN n x):PureN (n + 1) (.lst xs):=by
  obtain ⟨ps,e,c,d,_⟩:=zjd h
  exact ⟨.list ps,by simp [toP,e],by simpa [PyData.canLay0] using c,by simp only [PyData.depth]; omega⟩
theorem PureN.tup {n:Nat} {xs:List D} (h:∀ x∈xs,PureN n x):PureN (n + 1) (.tup xs):=by
  obtain ⟨ps,e,c,d,_⟩:=zjd h
  exact ⟨.tuple ps,by simp [toP,e],by simpa [PyData.canLay0] using c,by simp only [PyData.depth]; omega⟩
theorem PureN.mono {n m:Nat} {x:D} (h:PureN n x) (hm:n≤m):PureN m x:=let ⟨p,a,b,c⟩:=h; ⟨p,a,b,Nat.le_trans c hm⟩
theorem PureN.int {n:Nat} (i:Int):PureN n (.int i):=⟨_,rfl,by simp [PyData.canLay0],by simp [PyData.depth]⟩
theorem PureN.str {n:Nat} {i:Str} (h:PyData.strOk i=true):PureN n (.str i):=⟨_,rfl,by simpa [PyData.canLay0] using h,by simp [PyData.depth]⟩
theorem PureN.non {n:Nat}:PureN n .non:=⟨_,rfl,by simp [PyData.canLay0],by simp [PyData.depth]⟩
theorem ze4 (i:Int):toPD (.int i) = .int i:=rfl
theorem ze5 (i:Str):toPD (.str i) = .str i:=rfl
theorem zog {ns:List Int} (h:ns.length≤16777216):SortOk (ns.map D.int) where
  pu:=fun d hd=>by obtain ⟨i,_,rfl⟩:=List.mem_map.mp hd; exact (PureN.int (n:=0) i).pure (by decide)
  al:=fun d hd d' hd'=>by
    simp only [List.map_map,List.mem_map] at hd hd'
    obtain ⟨i,_,rfl⟩:=hd
    obtain ⟨j,_,rfl⟩:=hd'
    simp [ze4,PySem.W.alike]
  so:=.inr fun d hd=>by
    simp only [List.map_map,List.mem_map] at hd
    obtain ⟨i,_,rfl⟩:=hd
    exact ⟨by simp [ze4],fun xs=>by simp [ze4]⟩
  sz:=by rw [List.length_map]; exact zeh h
theorem zoh {ns:List Str} (hs:∀ z∈ns,PyData.strOk z=true) (h:ns.length≤16777216):SortOk (ns.map D.str) where
  pu:=fun d hd=>by obtain ⟨i,hi,rfl⟩:=List.mem_map.mp hd; exact (PureN.str (n:=0) (hs i hi)).pure (by decide)
  al:=fun d hd d' hd'=>by
    simp only [List.map_map,List.mem_map] at hd hd'
    obtain ⟨i,_,rfl⟩:=hd
    obtain ⟨j,_,rfl⟩:=hd'
    simp [ze5,PySem.W.alike]
  so:=.inr fun d hd=>by
    simp only [List.map_map,List.mem_map] at hd
    obtain ⟨i,_,rfl⟩:=hd
    exact ⟨by simp [ze5],fun xs=>by simp [ze5]⟩
  sz:=by rw [List.length_map]; exact zeh h
theorem zs3 (ns:List Int):zdi (ns.map D.int)=(ns.mergeSort fun i j=>decide (i≤j)).map D.int:=by
  unfold zdi
  symm
  refine List.map_mergeSort fun a _ b _=>?_
  exact (congrFun (congrFun (PySem.W.dataLe_int (fun z:Int=>z)) a) b).symm
def zvw (a b:Str):Bool:=decide (a.cps.toList≤b.cps.toList)
theorem zs4 (ns:List Str):zdi (ns.map D.str)=(ns.mergeSort zvw).map D.str:=by
  unfold zdi
  symm
  refine List.map_mergeSort fun a _ b _=>?_
  exact (congrFun (congrFun (PySem.W.dataLe_str (fun z:Str=>z)) a) b).symm
section
variable {κ α:Type} [DecidableEq κ]
def za (t:List (κ×α)):List κ:=t.map (·.1)
theorem zoi (k:κ):valG ([]:List (κ×α)) k=none:=rfl
theorem qk (q:κ×α) (t:List (κ×α)) (k:κ):valG (q :: t) k=if q.1=k then some q.2 else valG t k:=by
  unfold valG
  by_cases h:q.1=k
  · simp [h]
  · simp [h]
theorem zau {t:List (κ×α)} {k:κ} {v:α} (h:valG t k=some v):(k,v)∈t:=by
  induction t with
  | nil=>cases h
  | cons q t ih =>
    rw [qk] at h
    split at h
    · rename_i e; cases h; subst e; exact List.mem_cons_self ..
    · exact List.mem_cons_of_mem _ (ih h)
theorem valG_key {t:List (κ×α)} {k:κ}:k∈za t↔(valG t k).isSome=true:=by
  induction t with
  | nil=>simp [za,zoi]
  | cons q t ih =>
    rw [qk]
    by_cases h:q.1=k
    · simp [za,h]
    · simp only [za,List.map_cons,List.mem_cons,if_neg h]
      rw [← ih]
      simp [za,Ne.symm h]
theorem xt {t:List (κ×α)} (nd:(za t).Nodup) {k:κ} {v:α} (h:(k,v)∈t):valG t k=some v:=by
  induction t with
  | nil=>cases h
  | cons q t ih =>
    have nd':=List.nodup_cons.mp nd
    rw [qk]
    rcases List.mem_cons.mp h with e | h
    · subst e; simp
    · have:q.1≠k:=fun e=>nd'.1 (by show q.1∈_; rw [e]; exact List.mem_map.mpr ⟨_,h,rfl⟩)
      rw [if_neg this]
      exact ih nd'.2 h
theorem vd {t:List (κ×α)} {k:κ} {v:α} (h:k ∉ za t):putG t k v=t++[(k,v)]:=by
  unfold putG
  rw [if_neg]
  simp only [List.any_eq_true,decide_eq_true_eq,not_exists,not_and]
  intro x hx e
  exact h (by rw [← e]; exact List.mem_map.mpr ⟨x,hx,rfl⟩)
theorem zbi {t:List (κ×α)} {k:κ} {v:α} (h:k∈za t):putG t k v=t.map fun kv=>if kv.1=k then (kv.1,v) else kv:=by
  unfold putG
  rw [if_pos]
  obtain ⟨x,hx,e⟩:=List.mem_map.mp h
  simp only [List.any_eq_true,decide_eq_true_eq]
  exact ⟨x,hx,e⟩
theorem yq (t:List (κ×α)) (k:κ) (v:α):za (putG t k v)=if k∈za t then za t else za t++[k]:=by
  by_cases h:k∈za t
  · rw [if_pos h,zbi h]
    unfold za
    rw [List.map_map]
    refine List.map_congr_left fun x _=>?_
    simp only [Function.comp]
    split <;> rfl
  · rw [if_neg h,vd h]
    simp [za]
theorem xk {t:List (κ×α)} (nd:(za t).Nodup) (k:κ) (v:α):(za (putG t k v)).Nodup:=by
  rw [yq]
  split
  · exact nd
  · rename_i h
    exact List.nodup_append.mpr ⟨nd,by simp,fun x hx y hy e=>by
      rw [List.mem_singleton.mp hy] at e; subst e; exact h hx⟩
theorem vo (t:List (κ×α)) (k:κ) (v:α):(putG t k v).length≤t.length + 1:=by
  by_cases h:k∈za t
  · rw [zbi h]; simp
  · rw [vd h]; simp
theorem jm (t:List (κ×α)) (k:κ) (v:α) (k':κ):valG (putG t k v) k'=if k'=k then some v else valG t k':=by
  by_cases h:k∈za t
  · rw [zbi h]
    induction t with
    | nil=>simp [za] at h
    | cons q t ih =>
      rw [List.map_cons,qk,qk]
      by_cases e:q.1=k
      · rw [if_pos e]
        by_cases e2:k'=k
        · subst e2; simp [e]
        · have:¬ q.1=k':=fun z=>e2 (z.symm.trans e)
          simp only [this,if_false,e2]
          by_cases hk:k∈za t
          · rw [ih hk,if_neg e2]
          · have:(t.map fun kv=>if kv.1=k then (kv.1,v) else kv)=t:=by
              conv=>rhs; rw [← List.map_id t]
              refine List.map_congr_left fun x hx=>?_
              have:¬ x.1=k:=fun z=>hk (by rw [← z]; exact List.mem_map.mpr ⟨x,hx,rfl⟩)
              simp [this]
            rw [this]
      · rw [if_neg e]
        have hk:k∈za t:=by
          rcases List.mem_cons.mp (show k∈q.1 :: za t from h) with z | z
          · exact absurd z.symm e
          · exact z
        by_cases e2:q.1=k'
        · have:¬ k'=k:=fun z=>e (e2.trans z)
          simp [e2,this]
        · rw [if_neg e2,if_neg e2]
          exact ih hk
  · rw [vd h]
    induction t with
    | nil =>
      rw [List.nil_append,qk,zoi]
      by_cases e:k=k'
      · subst e; simp
      · simp [e,Ne.symm e]
    | cons q t ih =>
      have h2:k ∉ za t:=fun z=>h (List.mem_cons_of_mem _ z)
      have h1:q.1≠k:=fun z=>h (by rw [← z]; exact List.mem_cons_self ..)
      rw [List.cons_append,qk,qk,ih h2]
      by_cases e:q.1=k'
      · have:¬ k'=k:=fun z=>h1 (e.trans z)
        simp [e,this]
      · rw [if_neg e,if_neg e]
end
theorem zws {a b:Int} (h:(Sum.inl a:Key) = .inl b):a=b:=by injection h
theorem zwt {a b:Str} (h:(Sum.inr a:Key) = .inr b):a=b:=by injection h
abbrev Sg:={z:Str // PyData.strOk z=true}
section
variable {α β γ κ κ' ι:Type}
def sD (z:Sg):D:=.str z.1
def uD (_:Unit):D:=.non
def jl (_:Unit):D:=.obj 0
def eL (e:α→D) (xs:List α):D:=.lst (xs.map e)
def eT (e:α→D) (xs:List α):D:=.tup (xs.map e)
def eP2 (a:α→D) (b:β→D) (p:α×β):D:=.tup [a p.1,b p.2]
def eP3 (a:α→D) (b:β→D) (c:γ→D) (p:α×β×γ):D:=.tup [a p.1,b p.2.1,c p.2.2]
def eP4 {ε:Type} (a:α→D) (b:β→D) (c:γ→D) (d:ε→D) (p:α×β×γ×ε):D:=.tup [a p.1,b p.2.1,c p.2.2.1,d p.2.2.2]
def eO (e:α→D):Option α→D
  | none=>.non
  | some a=>e a
def tyG (f:κ→κ') (g:α→D) (t:List (κ×α)):List (κ'×D):=t.map fun q=>(f q.1,g q.2)
def kI:Int→Key:=Sum.inl
def kS (z:Sg):Key:=.inr z.1
def kP {κ1 κ2:Type} (a:κ1→Key) (b:κ2→Key) (p:κ1×κ2):List Key:=[a p.1,b p.2]
def eK (f:κ→Key) (g:α→D) (t:List (κ×α)):D:=.dk (tyG f g t)
def eDT (f:κ→List Key) (g:α→D) (t:List (κ×α)):D:=.dt (tyG f g t)
def oL (e:α→D) (xs:List α):O:=.lst (xs.map e)
def oK (f:κ→Key) (g:α→D) (t:List (κ×α)):O:=.dk (tyG f g t)
def oDT (f:κ→List Key) (g:α→D) (t:List (κ×α)):O:=.dt (tyG f g t)
class Inj (f:α→β):Prop where
  inj:∀ a b,f a=f b→a=b
instance:Inj kI:=⟨fun _ _ h=>zws h⟩
instance:Inj kS:=⟨fun _ _ h=>Subtype.ext (zwt h)⟩
instance {κ1 κ2:Type} {a:κ1→Key} {b:κ2→Key} [Inj a] [Inj b]:Inj (kP a b):=⟨fun p q h=>by
  unfold kP at h
  simp only [List.cons.injEq,and_true] at h
  exact Prod.ext (Inj.inj _ _ h.1) (Inj.inj _ _ h.2)⟩
section
variable [DecidableEq κ] [DecidableEq κ'] {f:κ→κ'} {g:α→D} [Inj f]
theorem uj (t:List (κ×α)):(tyG f g t).length=t.length:=by unfold tyG; simp
theorem zuz (t:List (κ×α)):za (tyG f g t)=(za t).map f:=by unfold tyG za; simp
theorem tyG_mem {t:List (κ×α)} {k:κ}:f k∈za (tyG f g t)↔k∈za t:=by
  rw [zuz,List.mem_map]
  exact ⟨fun ⟨a,h,e⟩=>Inj.inj _ _ e ▸ h,fun h=>⟨k,h,rfl⟩⟩
theorem y8 (t:List (κ×α)) (k:κ):valG (tyG f g t) (f k)=(valG t k).map g:=by
  induction t with
  | nil=>rfl
  | cons q t ih =>
    show valG ((f q.1,g q.2) :: tyG f g t) (f k)=_
    rw [qk,qk,ih]
    by_cases e:q.1=k
    · simp [e]
    · rw [if_neg e,if_neg (fun z=>e (Inj.inj _ _ z))]
theorem zaz (t:List (κ×α)) (k:κ) (v:α):putG (tyG f g t) (f k) (g v)=tyG f g (putG t k v):=by
  by_cases h:k∈za t
  · rw [zbi h,zbi (tyG_mem.mpr h)]
    unfold tyG
    rw [List.map_map,List.map_map]
    refine List.map_congr_left fun q _=>?_
    simp only [Function.comp]
    by_cases e:q.1=k
    · rw [if_pos e,if_pos (congrArg f e)]
    · rw [if_neg e,if_neg (fun z=>e (Inj.inj _ _ z))]
  · rw [vd h,vd (fun z=>h (tyG_mem.mp z))]
    simp [tyG]
theorem zu0 (t:List (κ×α)) (k:κ):jj (tyG f g t) (f k)=tyG f g (jj t k):=by
  unfold jj tyG
  rw [List.filter_map]
  congr 1
  refine List.filter_congr fun q _=>?_
  by_cases e:q.1=k
  · simp [e]
  · have:¬ f q.1=f k:=fun z=>e (Inj.inj _ _ z)
    simp [e,this]
end
def asgW (a:α) (k:α→Prop):Prop:=k a
def retW (a:α) (k:α→Prop):Prop:=k a
def ifW (b:Bool) (A B:Prop):Prop:=if b=true then A else B
def andW (b:Bool) (m:(Bool→Prop)→Prop) (k:Bool→Prop):Prop:=if b=true then m k else k false
def iteW (b:Bool) (m1 m2:(α→Prop)→Prop) (k:α→Prop):Prop:=if b=true then m1 k else m2 k
def zr (p:Prop) (k:Prop):Prop:=p∧k
def unW (o:Option α) (k:α→Prop):Prop:=∃ a,o=some a∧k a
def getW [DecidableEq κ] (t:List (κ×α)) (x:κ) (k:α→Prop):Prop:=∃ v,valG t x=some v∧k v
def putW [DecidableEq κ] (t:List (κ×α)) (x:κ) (v:α) (k:List (κ×α)→Prop):Prop:=t.length < sizeLine∧k (putG t x v)
def ixW (xs:List α) (i:Int) (k:α→Prop):Prop:=∃ x,atI xs i=some x∧k x
def appW (xs:List α) (v:α) (k:List α→Prop):Prop:=xs.length < sizeLine∧k (xs++[v])
def popW (xs:List α) (i:Int) (k:α→List α→Prop):Prop:=(-(2 ^ 63)≤i∧i < 2 ^ 63)∧∃ j x,seqIndex? i xs.length=some j∧xs[j]? = some x∧k x (xs.eraseIdx j)
def zab (lo hi:Int):List Int:=(List.range (hi - lo).toNat).map fun i:Nat=>lo + (i:Int)
def z5 (xs:List α):List (Int×α):=xs.zipIdx.map fun p=>((p.2:Int),p.1)
def zdj (xs:List ι) (body:ι→Prop→Prop) (k:Prop):Prop:=match xs with
  | []=>k
  | x :: xs=>body x (zdj xs body k)
end
section
variable {α β γ ι σ ρ κ:Type}
def SE (te:DE) (δ δ':Dl) (m:(α→Prop)→Prop) (e:α→D):Prop:=∀ (K:α→Prop) (Q:Dl→D→Prop),m K→(∀ a,K a→Q δ' (e a))→te δ Q
def SOw (to:DOw) (δ δ':Dl) (m:(α→Prop)→Prop) (e:α→O):Prop:=∀ (K:α→Prop) (Q:Dl→O→Prop),m K→(∀ a,K a→Q δ' (e a))→to δ Q
def ST (t:DT) (δ δ':Dl) (m:(Bool→Prop)→Prop):Prop:=∀ (K:Bool→Prop) (Q:Dl→Bool→Prop),m K→(∀ a,K a→Q δ' a)→t δ Q
def SV (tw:DV) (δ δ':Dl) (m:(α→Prop)→Prop) (R:α→Vw→Prop):Prop:=∀ (K:α→Prop) (Q:Dl→Vw→Prop),m K→(∀ a x,K a→R a x→Q δ' x)→tw δ Q
def VOk (δ:Dl) (R:α→Vw→Prop) (e:α→D):Prop:=∀ a x,R a x→vwD δ x=some (e a)
def RV (e:α→D):α→Vw→Prop:=fun a x=>x = .inr (e a)
def RO (i:Nat) (a0:α):α→Vw→Prop:=fun a x=>a=a0∧x = .inl i
def SA (ts:DA) (δ δ':Dl) (m:(σ→Prop)→Prop) (es:σ→List D):Prop:=∀ (K:σ→Prop) (Q:Dl→List D→Prop),m K→(∀ a,K a→Q δ' (es a))→ts δ Q
def SM (ts:DM) (δ δ':Dl) (m:(σ→Prop)→Prop) (es:σ→List S):Prop:=∀ (K:σ→Prop) (Q:Dl→List S→Prop),m K→(∀ a,K a→Q δ' (es a))→ts δ Q
def SI (wi:DI) (δ δ':Dl) (m:(List ι→Prop)→Prop) (e:ι→D):Prop:=∀ (K:List ι→Prop) (Q:Dl→List D→Prop),m K→(∀ xs,K xs→Q δ' (xs.map e))→wi δ Q
def SP (tp:DP) (δ δ':Dl) (m:(Option Int→Prop)→Prop):Prop:=∀ (K:Option Int→Prop) (Q:Dl→Option Int→Prop),m K→(∀ a,K a→Q δ' a)→tp δ Q
variable {te ta tb tc tk tx:DE} {to:DOw} {tA tB:DT} {tw tz:DV} {ts:DA} {δ δ1 δ2 δ3:Dl} {e:α→D} {ea:α→D} {eb:β→D} {er:γ→D} {m ma:(α→Prop)→Prop} {mb:(β→Prop)→Prop} {mc mc':(Bool→Prop)→Prop} {ms:(σ→Prop)→Prop} {es:σ→List D}
theorem zg:VOk δ (RV e) e:=fun a x h=>by subst h; rfl
theorem uw {i:Nat} {a0:α} {o:O} (h:δ[i]? = some (some (.own o))) (he:o.d=e a0):VOk δ (RO i a0) e:=fun a x h'=>by
  obtain ⟨rfl,rfl⟩:=h'
  show (match δ[i]? with
    | some (some (.own o))=>some o.d
    | _=>none)=_
  rw [h]; exact congrArg some he
theorem zb (i:Nat) (e:α→D) (a:α) (h:δ[i]? = some (some (.fz (e a)))):SE (dVar i) δ δ (fun k=>k a) e:=fun K Q hm c=>by
  unfold dVar; rw [h]; exact c a hm
theorem zks (i:Nat) (e:α→D) (a:α) {o:O} (h:δ[i]? = some (some (.own o))) (he:o.d=e a):SE (dVar i) δ (δ.set i (some (.fz (e a)))) (fun k=>k a) e:=fun K Q hm c=>by
  unfold dVar; rw [h]; show Q _ _; rw [he]; exact c a hm
theorem se_c (e:α→D) (a:α) {d:D} (h:d=e a):SE (dC d) δ δ (fun k=>k a) e:=fun K Q hm c=>by subst h; exact c a hm
theorem sv_v (A:SE te δ δ1 m e):SV (dVF te) δ δ1 m (RV e):=fun K Q hm c=>A K _ hm fun a ha=>c a _ ha rfl
theorem sv_f (i:Nat) (e:α→D) (a:α) (h:δ[i]? = some (some (.fz (e a)))):SV (dVV i) δ δ (fun k=>k a) (RV e):=fun K Q hm c=>by
  unfold dVV; rw [h]; exact c a _ hm rfl
theorem sv_o (i:Nat) (a:α) {o:O} (h:δ[i]? = some (some (.own o))):SV (dVV i) δ δ (fun k=>k a) (RO i a):=fun K Q hm c=>by
  unfold dVV; rw [h]; exact c a _ hm ⟨rfl,rfl⟩
theorem zei (A:SE te δ δ1 m e):SE te δ δ1 (fun k=>m fun a=>k (some a)) (eO e):=fun K Q hm c=>A _ Q hm fun a ha=>c (some a) ha
theorem zje {m:(Option α→Prop)→Prop} (A:SE te δ δ1 m (eO e)):SE te δ δ1 (fun k=>m fun o=>unW o k) e:=fun K Q hm c=>A _ Q hm fun o ⟨a,ho,ha⟩=>by
  subst ho; exact c a ha
theorem xf {o:α→O} (A:SOw to δ δ1 m o) (h:∀ a,(o a).d=e a):SE (dFrz to) δ δ1 m e:=fun K Q hm c=>A K _ hm fun a ha=>by
  show Q _ _; rw [h]; exact c a ha
def G2T (g:D→D→(D→Prop)→Prop) (ea:α→D) (eb:β→D) (mg:α→β→(γ→Prop)→Prop) (er:γ→D):Prop:=∀ a b (K:γ→Prop) (Q:D→Prop),mg a b K→(∀ r,K r→Q (er r))→g (ea a) (eb b) Q
def G2TO (g:G2O) (ea:α→D) (eb:β→D) (mg:α→β→(γ→Prop)→Prop) (er:γ→O):Prop:=∀ a b (K:γ→Prop) (Q:O→Prop),mg a b K→(∀ r,K r→Q (er r))→g (ea a) (eb b) Q
section
variable {g:D→D→(D→Prop)→Prop} {mg:α→β→(γ→Prop)→Prop} {Ra:α→Vw→Prop} {Rb:β→Vw→Prop}
theorem xo (G:G2T g ea eb mg er) (A:SE ta δ δ1 ma ea) (B:SE tb δ1 δ2 mb eb):SE (d2 g ta tb) δ δ2 (fun k=>ma fun a=>mb fun b=>mg a b k) er :=
  fun K Q hm c=>A _ _ hm fun a ha=>B _ _ ha fun b hb=>G a b K _ hb c
theorem q7 (G:G2T g ea eb mg er) (A:SV tw δ δ1 ma Ra) (B:SE tb δ1 δ2 mb eb) (V:VOk δ2 Ra ea):SE (d2V g tw tb) δ δ2 (fun k=>ma fun a=>mb fun b=>mg a b k) er :=
  fun K Q hm c=>A _ _ hm fun a x ha hx=>B _ _ ha fun b hb=>⟨_,V a x hx,G a b K _ hb c⟩
theorem u5 (G:G2T g ea eb mg er) (A:SE ta δ δ1 ma ea) (B:SV tw δ1 δ2 mb Rb) (V:VOk δ2 Rb eb):SE (d2W g ta tw) δ δ2 (fun k=>ma fun a=>mb fun b=>mg a b k) er :=
  fun K Q hm c=>A _ _ hm fun a ha=>B _ _ ha fun b y hb hy=>⟨_,V b y hy,G a b K _ hb c⟩
theorem uk (G:G2T g ea eb mg er) (A:SV tw δ δ1 ma Ra) (B:SV tz δ1 δ2 mb Rb) (V:VOk δ2 Ra ea) (W:VOk δ2 Rb eb):SE (d2VV g tw tz) δ δ2 (fun k=>ma fun a=>mb fun b=>mg a b k) er :=
  fun K Q hm c=>A _ _ hm fun a x ha hx=>B _ _ ha fun b y hb hy=>⟨_,_,V a x hx,W b y hy,G a b K _ hb c⟩
theorem zwu {g:G2O} {er:γ→O} (G:G2TO g ea eb mg er) (A:SV tw δ δ1 ma Ra) (B:SV tz δ1 δ2 mb Rb) (V:VOk δ2 Ra ea) (W:VOk δ2 Rb eb):SOw (d2VO g tw tz) δ δ2 (fun k=>ma fun a=>mb fun b=>mg a b k) er :=
  fun K Q hm c=>A _ _ hm fun a x ha hx=>B _ _ ha fun b y hb hy=>⟨_,_,V a x hx,W b y hy,G a b K _ hb c⟩
theorem zjf (i:Int) (f:α→β) (A:SV tw δ δ1 ma Ra) (V:VOk δ1 Ra ea) (h:∀ a,∃ ds,ea a = .tup ds∧atI ds i=some (eb (f a))):SE (d2V gIx tw (dC (.int i))) δ δ1 (fun k=>ma fun a=>k (f a)) eb :=
  fun K Q hm c=>A _ _ hm fun a x ha hx=>by
    obtain ⟨ds,e1,e2⟩:=h a
    refine ⟨_,V a x hx,?_⟩
    rw [e1]; exact ⟨_,e2,c _ ha⟩
end
def G1T (g:D→(D→Prop)→Prop) (ea:α→D) (mg:α→(γ→Prop)→Prop) (er:γ→D):Prop:=∀ a (K:γ→Prop) (Q:D→Prop),mg a K→(∀ r,K r→Q (er r))→g (ea a) Q
def G1L (g:G1) (ea:α→D) (mg:α→(γ→Prop)→Prop) (er:γ→D):Prop:=∀ a (K:γ→Prop) (Q:D→Prop),mg a K→(∀ r,K r→Q (er r))→g [ea a] Q
def G1LO (g:G1O) (ea:α→D) (mg:α→(γ→Prop)→Prop) (er:γ→O):Prop:=∀ a (K:γ→Prop) (Q:O→Prop),mg a K→(∀ r,K r→Q (er r))→g [ea a] Q
section
variable {Ra:α→Vw→Prop} {Rb:β→Vw→Prop} {mg:α→(γ→Prop)→Prop} {mh:α→β→(γ→Prop)→Prop}
theorem za6 {g:D→(D→Prop)→Prop} (G:G1T g ea mg er) (A:SV tw δ δ1 ma Ra) (V:VOk δ1 Ra ea):SE (d1V g tw) δ δ1 (fun k=>ma fun a=>mg a k) er :=
  fun K Q hm c=>A _ _ hm fun a x ha hx=>⟨_,V a x hx,G a K _ ha c⟩
theorem vws1 {x:Vw} {d:D} (h:vwD δ x=some d):vwsD δ [x]=some [d]:=by
  unfold vwsD; rw [h]; rfl
theorem zru {g:G1} (G:G1L g ea mg er) (A:SV tw δ δ1 ma Ra) (V:VOk δ1 Ra ea):SE (d1 g (v8 tw vNil)) δ δ1 (fun k=>ma fun a=>mg a k) er :=
  fun K Q hm c=>A _ _ hm fun a x ha hx=>⟨_,vws1 (V a x hx),G a K _ ha c⟩
theorem za7 {g:G1O} {er:γ→O} (G:G1LO g ea mg er) (A:SV tw δ δ1 ma Ra) (V:VOk δ1 Ra ea):SOw (d1O g (v8 tw vNil)) δ δ1 (fun k=>ma fun a=>mg a k) er :=
  fun K Q hm c=>A _ _ hm fun a x ha hx=>⟨_,vws1 (V a x hx),G a K _ ha c⟩
end
theorem zh:SA dNil δ δ (fun k=>k ()) (fun _=>[]):=fun K Q hm c=>c _ hm
theorem zc (A:SE ta δ δ1 ma ea) (B:SA ts δ1 δ2 ms es):SA (ze ta ts) δ δ2 (fun k=>ma fun a=>ms fun s=>k (a,s)) (fun p=>ea p.1 :: es p.2) :=
  fun K Q hm c=>A _ _ hm fun a ha=>B _ _ ha fun s hs=>c (a,s) hs
theorem zbx (f:σ→α) (e:α→D) (n:Nat) (A:SA ts δ δ1 ms es) (h:∀ s,D.tup (es s)=e (f s)) (hl:∀ s,(es s).length=n) (hn:n≤sizeLine):SE (dTup ts) δ δ1 (fun k=>ms fun s=>k (f s)) e :=
  fun K Q hm c=>A _ _ hm fun s hs=>⟨by rw [hl]; exact hn,by rw [h]; exact c _ hs⟩
theorem yr (f:σ→List α) (e:α→D) (n:Nat) (A:SA ts δ δ1 ms es) (h:∀ s,es s=(f s).map e) (hl:∀ s,(es s).length=n) (hn:n≤sizeLine):SOw (dLst ts) δ δ1 (fun k=>ms fun s=>k (f s)) (oL e) :=
  fun K Q hm c=>A _ _ hm fun s hs=>⟨by rw [hl]; exact hn,by rw [h]; exact c _ hs⟩
theorem ul {f:κ→Key}:SOw y0 δ δ (fun k=>k ([]:List (κ×α))) (oK f e):=fun K Q hm c=>c _ hm
theorem zqn {f:κ→List Key}:SOw znh δ δ (fun k=>k ([]:List (κ×α))) (oDT f e):=fun K Q hm c=>c _ hm
theorem zjg:SM zhb δ δ (fun k=>k ()) (fun _=>[]):=fun K Q hm c=>c _ hm
theorem sm_F {ts:DM} {es:σ→List S} (A:SE ta δ δ1 ma ea) (B:SM ts δ1 δ2 ms es):SM (dmF ta ts) δ δ2 (fun k=>ma fun a=>ms fun s=>k (a,s)) (fun p=>.fz (ea p.1) :: es p.2) :=
  fun K Q hm c=>A _ _ hm fun a ha=>B _ _ ha fun s hs=>c (a,s) hs
theorem sm_O {ts:DM} {es:σ→List S} {eo:α→O} (A:SOw to δ δ1 ma eo) (B:SM ts δ1 δ2 ms es):SM (dmO to ts) δ δ2 (fun k=>ma fun a=>ms fun s=>k (a,s)) (fun p=>.own (eo p.1) :: es p.2) :=
  fun K Q hm c=>A _ _ hm fun a ha=>B _ _ ha fun s hs=>c (a,s) hs
theorem qc {n:Nat} {sp:DSp} {er:ρ→D} (A:SA ts δ δ1 ms es) (hl:∀ s,(es s).length=n) (F:σ→(ρ→Prop)→Prop) (hF:∀ s K (Q':S→Prop),F s K→(∀ r s',K r→s'.d=er r→Q' s')→sp (es s) Q'):SE (dCall n sp ts) δ δ1 (fun k=>ms fun s=>F s k) er :=
  fun K Q hm c=>A _ _ hm fun s hs=>⟨hl s,hF s K _ hs fun r s' hr hd=>by rw [hd]; exact c r hr⟩
theorem zqo {n:Nat} {sp:DSp} {eo:ρ→O} (A:SA ts δ δ1 ms es) (hl:∀ s,(es s).length=n) (F:σ→(ρ→Prop)→Prop) (hF:∀ s K (Q':S→Prop),F s K→(∀ r,K r→Q' (.own (eo r)))→sp (es s) Q'):SOw (zi1 n sp ts) δ δ1 (fun k=>ms fun s=>F s k) eo :=
  fun K Q hm c=>A _ _ hm fun s hs=>⟨hl s,hF s K _ hs fun r hr=>⟨_,rfl,c r hr⟩⟩
theorem qp (A:SE te δ δ1 mc D.bl):ST (dTst te) δ δ1 mc:=fun K Q hm c=>A _ _ hm fun b hb=>⟨b,rfl,c b hb⟩
theorem zkt {y:Bool} (A:ST tA δ δ1 mc) (B:ST tB δ1 δ1 fun k=>k y):ST (dAnd tA tB) δ δ1 (fun k=>mc fun b=>k (b && y)):=fun K Q hm c=>A _ _ hm fun b hb=>by
  cases b with
  | true=>rw [if_pos rfl]; exact B _ _ hb fun z hz=>c z (by simpa using hz)
  | false=>rw [if_neg (by decide)]; exact c _ hb
theorem zyr (A:ST tA δ δ1 mc) (B:ST tB δ1 δ1 mc'):ST (dAnd tA tB) δ δ1 (fun k=>mc fun b=>andW b mc' k):=fun K Q hm c=>A _ _ hm fun b hb=>by
  unfold andW at hb
  cases b with
  | true=>rw [if_pos rfl] at hb ⊢; exact B _ _ hb c
  | false=>rw [if_neg (by decide)] at hb ⊢; exact c _ hb
theorem zs5 (A:SE ta δ δ1 mc D.bl) (B:SE tb δ1 δ1 mc' D.bl):SE (zng ta tb) δ δ1 (fun k=>mc fun b=>andW b mc' k) D.bl:=fun K Q hm c=>A _ _ hm fun b hb=>by
  refine ⟨b,rfl,?_⟩
  unfold andW at hb
  cases b with
  | true=>rw [if_pos rfl] at hb ⊢; exact B _ _ hb c
  | false=>rw [if_neg (by decide)] at hb ⊢; exact c _ hb
theorem zwv {x y:α} (C:ST tA δ δ1 mc) (A:SE ta δ1 δ1 (fun k=>k x) e) (B:SE tb δ1 δ1 (fun k=>k y) e):SE (dIf tA ta tb) δ δ1 (fun k=>mc fun b=>k (if b=true then x else y)) e:=fun K Q hm c=>C _ _ hm fun b hb=>by
  cases b with
  | true=>rw [if_pos rfl] at hb ⊢; exact A _ _ hb c
  | false=>rw [if_neg (by decide)] at hb ⊢; exact B _ _ hb c
theorem zys {m1 m2:(α→Prop)→Prop} (C:ST tA δ δ1 mc) (A:SE ta δ1 δ1 m1 e) (B:SE tb δ1 δ1 m2 e):SE (dIf tA ta tb) δ δ1 (fun k=>mc fun b=>iteW b m1 m2 k) e:=fun K Q hm c=>C _ _ hm fun b hb=>by
  unfold iteW at hb
  cases b with
  | true=>rw [if_pos rfl] at hb ⊢; exact A _ _ hb c
  | false=>rw [if_neg (by decide)] at hb ⊢; exact B _ _ hb c
theorem zyt {m:(Int→Prop)→Prop} (A:SE te δ δ1 m D.int):SE (dNeg te) δ δ1 (fun k=>m fun a=>k (-a)) D.int:=fun K Q hm c=>A _ _ hm fun a ha=>⟨a,rfl,c _ ha⟩
end
section
variable {α β γ ι σ ρ κ:Type} {e:α→D} {eb:β→D}
def eqB [DecidableEq α] (a b:α):Bool:=decide (a=b)
def memB [DecidableEq α] (a:α) (xs:List α):Bool:=decide (a∈xs)
theorem eqB_no [DecidableEq α] {a b:α}:eqB a b=false↔a≠b:=by simp [eqB]
theorem zu1 [DecidableEq α] (a:α):eqB a a=true:=by simp [eqB]
class PuE (n:outParam Nat) (e:α→D):Prop where
  pu:∀ a,PureN n (e a)
instance:PuE 0 D.int:=⟨PureN.int⟩
instance:PuE 0 sD:=⟨fun z=>PureN.str z.2⟩
instance {n:Nat} [h:PuE n e]:PuE (n + 1) (eL e):=⟨fun xs=>PureN.lst fun x hx=>by obtain ⟨a,_,rfl⟩:=List.mem_map.mp hx; exact h.pu a⟩
instance {n:Nat} [h:PuE n e]:PuE n (eO e):=⟨fun o=>by cases o with
  | none=>exact PureN.non
  | some a=>exact h.pu a⟩
instance {n m:Nat} [h:PuE n e] [h':PuE m eb]:PuE (max n m + 1) (eP2 e eb):=⟨fun p=>PureN.tup fun x hx=>by
  simp at hx
  rcases hx with rfl | rfl
  · exact (h.pu _).mono (by omega)
  · exact (h'.pu _).mono (by omega)⟩
instance {n m l:Nat} {ec:γ→D} [h:PuE n e] [h':PuE m eb] [h'':PuE l ec]:PuE (max n (max m l) + 1) (eP3 e eb ec):=⟨fun p=>PureN.tup fun x hx=>by
  simp at hx
  rcases hx with rfl | rfl | rfl
  · exact (h.pu _).mono (by omega)
  · exact (h'.pu _).mono (by omega)
  · exact (h''.pu _).mono (by omega)⟩
class EqE [DecidableEq α] (e:α→D):Prop where
  eq:∀ a b,eqvD (e a) (e b)=decide (a=b)
instance:EqE D.int:=⟨fun a b=>by
  show PyData.eqv (.int a) (.int b)=_
  simp only [PyData.eqv]; rfl⟩
instance:EqE sD:=⟨fun a b=>by
  show PyData.eqv (.str a.1) (.str b.1)=_
  simp only [PyData.eqv]
  by_cases h:a=b
  · subst h; simp
  · have:a.1≠b.1:=fun z=>h (Subtype.ext z)
    simp [h,this]⟩
theorem v5 {x y:D} {p q:PyData} (h:toP x=some p) (h':toP y=some q):eqvD x y=PyData.eqv p q:=by unfold eqvD; rw [h,h']
theorem eqvs [DecidableEq α] {n:Nat} [hp:PuE n e] [he:EqE e]:∀ (xs ys:List α) (ps qs:List PyData),toPs (xs.map e)=some ps→toPs (ys.map e)=some qs→PyData.eqvAll ps qs=decide (xs=ys)
  | [],[],ps,qs,h,h'=>by cases h; cases h'; simp [PyData.eqvAll]
  | [],y :: ys,ps,qs,h,h'=>by
    cases h
    obtain ⟨p,e1,_⟩:=hp.pu y
    simp only [List.map_cons,toPs,e1,Option.bind_some,Option.map_eq_some_iff] at h'
    obtain ⟨r,_,rfl⟩:=h'
    simp [PyData.eqvAll]
  | x :: xs,[],ps,qs,h,h'=>by
    cases h'
    obtain ⟨p,e1,_⟩:=hp.pu x
    simp only [List.map_cons,toPs,e1,Option.bind_some,Option.map_eq_some_iff] at h
    obtain ⟨r,_,rfl⟩:=h
    simp [PyData.eqvAll]
  | x :: xs,y :: ys,ps,qs,h,h'=>by
    obtain ⟨p,e1,_⟩:=hp.pu x
    obtain ⟨q,e2,_⟩:=hp.pu y
    simp only [List.map_cons,toPs,e1,e2,Option.bind_some,Option.map_eq_some_iff] at h h'
    obtain ⟨r,h1,rfl⟩:=h
    obtain ⟨r',h2,rfl⟩:=h'
    have h3:=he.eq x y
    rw [v5 e1 e2] at h3
    rw [PyData.eqvAll,h3,eqvs xs ys r r' h1 h2]
    simp
theorem zlz {n:Nat} [hp:PuE n e] (xs:List α):∃ ps,toPs (xs.map e)=some ps:=by
  obtain ⟨ps,h,_⟩:=zjd (n:=n) (xs:=xs.map e) fun x hx=>by obtain ⟨a,_,rfl⟩:=List.mem_map.mp hx; exact hp.pu a
  exact ⟨ps,h⟩
instance [DecidableEq α] {n:Nat} [PuE n e] [EqE e]:EqE (eL e):=⟨fun xs ys=>by
  obtain ⟨ps,h⟩:=zlz (e:=e) xs
  obtain ⟨qs,h'⟩:=zlz (e:=e) ys
  rw [v5 (p:=.list ps) (q:=.list qs) (by simp [eL,toP,h]) (by simp [eL,toP,h']),PyData.eqv,eqvs xs ys ps qs h h']⟩
theorem zqp {ds es:List D} {ps qs:List PyData} (h:toPs ds=some ps) (h':toPs es=some qs):eqvD (.tup ds) (.tup es)=PyData.eqvAll ps qs:=by
  rw [v5 (p:=.tuple ps) (q:=.tuple qs) (by simp [toP,h]) (by simp [toP,h']),PyData.eqv]
instance [DecidableEq α] [DecidableEq β] {n m:Nat} [h:PuE n e] [h':PuE m eb] [he:EqE e] [he':EqE eb]:EqE (eP2 e eb):=⟨fun p q=>by
  obtain ⟨a,a1,_⟩:=h.pu p.1
  obtain ⟨b,b1,_⟩:=h'.pu p.2
  obtain ⟨c,c1,_⟩:=h.pu q.1
  obtain ⟨d,d1,_⟩:=h'.pu q.2
  have h1:=he.eq p.1 q.1
  have h2:=he'.eq p.2 q.2
  rw [v5 a1 c1] at h1
  rw [v5 b1 d1] at h2
  show eqvD (.tup [e p.1,eb p.2]) (.tup [e q.1,eb q.2])=_
  rw [zqp (ps:=[a,b]) (qs:=[c,d]) (by simp [toPs,a1,b1]) (by simp [toPs,c1,d1])]
  simp [PyData.eqvAll,h1,h2,Prod.ext_iff]⟩
instance [DecidableEq α] [DecidableEq β] [DecidableEq γ] {ec:γ→D} {n m l:Nat} [h:PuE n e] [h':PuE m eb] [h2:PuE l ec] [he:EqE e] [he':EqE eb] [he2:EqE ec]:EqE (eP3 e eb ec):=⟨fun p q=>by
  obtain ⟨a,a1,_⟩:=h.pu p.1
  obtain ⟨b,b1,_⟩:=h'.pu p.2.1
  obtain ⟨x,x1,_⟩:=h2.pu p.2.2
  obtain ⟨c,c1,_⟩:=h.pu q.1
  obtain ⟨d,d1,_⟩:=h'.pu q.2.1
  obtain ⟨y,y1,_⟩:=h2.pu q.2.2
  have h1:=he.eq p.1 q.1
  have h3:=he'.eq p.2.1 q.2.1
  have h4:=he2.eq p.2.2 q.2.2
  rw [v5 a1 c1] at h1
  rw [v5 b1 d1] at h3
  rw [v5 x1 y1] at h4
  show eqvD (.tup [e p.1,eb p.2.1,ec p.2.2]) (.tup [e q.1,eb q.2.1,ec q.2.2])=_
  rw [zqp (ps:=[a,b,x]) (qs:=[c,d,y]) (by simp [toPs,a1,b1,x1]) (by simp [toPs,c1,d1,y1])]
  simp [PyData.eqvAll,h1,h3,h4,Prod.ext_iff]⟩
class NonE (e:α→D):Prop where
  ne:∀ (a:α) (p:PyData),toP (e a)=some p→PyData.eqv .none p=false∧PyData.eqv p .none=false∧(e a).isNon=false
instance:NonE D.int:=⟨fun a p h=>by cases h; simp [PyData.eqv,D.isNon]⟩
instance [DecidableEq α] {n:Nat} [hp:PuE n e] [he:EqE e] [hn:NonE e]:EqE (eO e):=⟨fun a b=>by
  cases a with
  | none=>cases b with
    | none=>show PyData.eqv .none .none=_; simp [PyData.eqv]
    | some b =>
      obtain ⟨p,h,_⟩:=hp.pu b
      show eqvD .non (e b)=_
      rw [v5 (p:=.none) rfl h,(hn.ne b p h).1]; simp
  | some a=>cases b with
    | none =>
      obtain ⟨p,h,_⟩:=hp.pu a
      show eqvD (e a) .non=_
      rw [v5 (q:=.none) h rfl,(hn.ne a p h).2.1]; simp
    | some b =>
      show eqvD (e a) (e b)=_
      rw [he.eq]; simp⟩
def zac [DecidableEq κ] [DecidableEq α] (t u:List (κ×α)):Bool:=t.length == u.length && t.all fun q=>decide (valG u q.1=some q.2)
theorem zyu {κ':Type} [DecidableEq κ] [DecidableEq κ'] [DecidableEq α] {f:κ→κ'} [Inj f] [he:EqE e] (t u:List (κ×α)):eqG (tyG f e t) (tyG f e u)=zac t u:=by
  unfold eqG zac
  rw [uj,uj]
  congr 1
  show (t.map fun q=>(f q.1,e q.2)).all _=_
  rw [List.all_map]
  congr 1
  funext q
  show (match valG (tyG f e u) (f q.1) with
    | some d=>eqvD (e q.2) d
    | none=>false)=_
  rw [y8]
  cases valG u q.1 with
  | none=>simp
  | some v=>simp [he.eq]; exact ⟨fun h=>h.symm,fun h=>h.symm⟩
theorem yh:G2T gAdd D.int D.int (fun x y k=>k (x + y)) D.int:=fun a b K Q h c=>c _ h
theorem zjh:G2T gSub D.int D.int (fun x y k=>k (x - y)) D.int:=fun a b K Q h c=>c _ h
theorem zgc:G2T gMul D.int D.int (fun x y k=>zr (CM x y) (k (x * y))) D.int:=fun a b K Q h c=>⟨h.1,c _ h.2⟩
theorem zyv:G2T gPow D.int D.int (fun x y k=>zr (CPw x y) (k (x ^ y.toNat))) D.int:=fun a b K Q h c=>⟨h.1,c _ h.2⟩
theorem zno:G2T gGt D.int D.int (fun x y k=>k (decide (y < x))) D.bl:=fun a b K Q h c=>c _ h
theorem zyw (h:∀ a,(e a).isNon=false):G2T gIsN (eO e) uD (fun o _ k=>k o.isNone) D.bl:=fun o b K Q hk c=>by
  cases o with
  | none=>exact c true hk
  | some a=>show Q (.bl (e a).isNon); rw [h]; exact c false hk
theorem zqq (h:∀ a,(e a).isNon=false):G2T zex (eO e) uD (fun o _ k=>k o.isSome) D.bl:=fun o b K Q hk c=>by
  cases o with
  | none=>exact c false hk
  | some a=>show Q (.bl (!(e a).isNon)); rw [h]; exact c true hk
theorem zww (f:α→β) (xs:List α) (i:Int):atI (xs.map f) i=(atI xs i).map f:=by
  unfold atI
  rw [List.length_map]
  cases ixN xs.length i with
  | none=>rfl
  | some j=>simp
theorem zji:G2T gIx (eL e) D.int (fun xs i k=>ixW xs i k) e:=fun xs i K Q ⟨x,hx,h⟩ c=>⟨_,by rw [zww,hx]; rfl,c _ h⟩
theorem x4 [DecidableEq κ] {f:κ→Key} [Inj f] {ek:κ→D} (hk:∀ x,dkey (ek x)=some (f x)):G2T gIx (eK f e) ek (fun t x k=>getW t x k) e:=fun t x K Q ⟨v,hv,h⟩ c=>⟨f x,e v,hk x,by rw [y8,hv]; rfl,c _ h⟩
theorem zqr [DecidableEq κ] {f:κ→List Key} [Inj f] {ek:κ→D} (hk:∀ x,tkey (ek x)=some (f x)):G2T gIx (eDT f e) ek (fun t x k=>getW t x k) e:=fun t x K Q ⟨v,hv,h⟩ c=>⟨f x,e v,hk x,by rw [y8,hv]; rfl,c _ h⟩
def hasG [DecidableEq κ] (t:List (κ×α)) (x:κ):Bool:=(valG t x).isSome
theorem zc1 [DecidableEq κ] {f:κ→Key} [Inj f] {ek:κ→D} (hk:∀ x,dkey (ek x)=some (f x)) (h0:∀ (x:κ) (kvs:List (Key×D)) (Q:D→Prop),(∃ k,dkey (ek x)=some k∧Q (.bl (valG kvs k).isSome))→gInB false (ek x) (.dk kvs) Q):G2T (gInB false) ek (eK f e) (fun x t k=>k (hasG t x)) D.bl:=fun x t K Q h c =>
  h0 x _ Q ⟨f x,hk x,by rw [y8,Option.isSome_map]; exact c _ h⟩
theorem zqs [DecidableEq κ] {f:κ→Key} [Inj f] {ek:κ→D} (hk:∀ x,dkey (ek x)=some (f x)) (h0:∀ (x:κ) (kvs:List (Key×D)) (Q:D→Prop),(∃ k,dkey (ek x)=some k∧Q (.bl (!(valG kvs k).isSome)))→gInB true (ek x) (.dk kvs) Q):G2T (gInB true) ek (eK f e) (fun x t k=>k (!hasG t x)) D.bl:=fun x t K Q h c =>
  h0 x _ Q ⟨f x,hk x,by rw [y8,Option.isSome_map]; exact c _ h⟩
class FlatE [DecidableEq α] (e:α→D) where
  fl:α→V
  ok:∀ a,zck (e a)=some (fl a)
  eq:∀ a b,eqV (fl a) (fl b)=decide (a=b)
instance:FlatE D.int:=⟨V.int,fun _=>rfl,fun a b=>rfl⟩
instance:FlatE sD:=⟨fun z=>.str z.1,fun _=>rfl,fun a b=>by
  show decide (a.1=b.1)=_
  by_cases h:a=b
  · subst h; simp
  · have:a.1≠b.1:=fun z=>h (Subtype.ext z)
    simp [h,this]⟩
theorem zby [DecidableEq α] [h:FlatE e]:∀ xs:List α,uh (xs.map e)=some (xs.map h.fl)
  | []=>rfl
  | x :: xs=>by
    rw [List.map_cons,uh,h.ok,zby xs]; rfl
theorem zqt [DecidableEq α] [h:FlatE e] (x:α) (xs:List α):inV (h.fl x) (xs.map h.fl)=decide (x∈xs):=by
  unfold inV
  rw [List.any_map,Bool.eq_iff_iff,List.any_eq_true,decide_eq_true_eq]
  constructor
  · rintro ⟨y,hy,q⟩
    simp only [Function.comp,h.eq,decide_eq_true_eq] at q
    exact q ▸ hy
  · intro hx
    exact ⟨x,hx,by simp [h.eq]⟩
theorem zyx [DecidableEq α] [h:FlatE e]:G2T (gInB false) e (eL e) (fun x xs k=>k (memB x xs)) D.bl:=fun x xs K Q hk c=>by
  unfold eL gInB
  exact ⟨_,_,h.ok x,zby xs,by
    show Q (.bl (inV _ _)); rw [zqt]; exact c _ hk⟩
theorem zwx [DecidableEq α] [h:FlatE e]:G2T (gInB true) e (eL e) (fun x xs k=>k (!memB x xs)) D.bl:=fun x xs K Q hk c=>by
  unfold eL gInB
  exact ⟨_,_,h.ok x,zby xs,by
    show Q (.bl (!inV _ _)); rw [zqt]; exact c _ hk⟩
theorem zvx [DecidableEq α] {n:Nat} [hp:PuE n e] [he:EqE e] (hn:n≤64):G2T (gEqA false) e e (fun a b k=>k (eqB a b)) D.bl:=fun a b K Q h c =>
  .inl (.inl ⟨(hp.pu a).pure hn,(hp.pu b).pure hn,by show Q (.bl (eqvD _ _)); rw [he.eq]; exact c _ h⟩)
theorem zjj [DecidableEq α] {n:Nat} [hp:PuE n e] [he:EqE e] (hn:n≤64):G2T (gEqA true) e e (fun a b k=>k (!eqB a b)) D.bl:=fun a b K Q h c =>
  .inl (.inl ⟨(hp.pu a).pure hn,(hp.pu b).pure hn,by show Q (.bl (!eqvD _ _)); rw [he.eq]; exact c _ h⟩)
theorem zvy {κ':Type} {f:κ→κ'} {n:Nat} [hp:PuE n e] (hn:n≤64) (t:List (κ×α)):∀ q∈tyG f e t,Pure q.2:=fun q hq=>by
  obtain ⟨x,_,rfl⟩:=List.mem_map.mp hq
  exact (hp.pu _).pure hn
theorem zoj [DecidableEq κ] [DecidableEq α] {f:κ→Key} [Inj f] {n:Nat} [hp:PuE n e] [he:EqE e] (hn:n≤64):G2T (gEqA true) (eK f e) (eK f e) (fun a b k=>k (!zac a b)) D.bl:=fun a b K Q h c =>
  .inl (.inr (.inl ⟨_,_,rfl,rfl,zvy hn a,zvy hn b,by show Q (.bl (!eqG _ _)); rw [zyu]; exact c _ h⟩))
theorem y9:G1T gLen (eL e) (fun xs k=>k (xs.length:Int)) D.int:=fun xs K Q h c=>by
  show Q (.int ((xs.map e).length:Nat)); rw [List.length_map]; exact c _ h
theorem zqu:G1L gInt D.bl (fun b k=>k (if b=true then (1:Int) else 0)) D.int:=fun a K Q h c=>.inr ⟨a,rfl,by
  have:=c _ h
  cases a <;> exact this⟩
theorem zwy:G1L zkq (eL e) (fun xs k=>k xs) (eT e):=fun xs K Q h c=>⟨_,.inl rfl,c _ h⟩
theorem zu2:G1LO zf8 (eL e) (fun xs k=>k xs) (oL e):=fun xs K Q h c=>.inl ⟨_,.inl rfl,c _ h⟩
theorem zu3 {f:κ→Key} {ek:κ→D} (hk:∀ x,keyD (f x)=ek x):G1LO zf8 (eK f e) (fun t k=>k (za t)) (oL ek):=fun t K Q h c=>.inr ⟨_,rfl,by
  have:((tyG f e t).map fun kv=>keyD kv.1)=(za t).map ek:=by
    unfold tyG za; rw [List.map_map,List.map_map]; exact List.map_congr_left fun q _=>hk q.1
  rw [this]; exact c _ h⟩
class SrtE (e:α→D) where
  le:α→α→Bool
  ok:∀ xs:List α,xs.length≤16777216→SortOk (xs.map e)
  eq:∀ xs:List α,zdi (xs.map e)=(xs.mergeSort le).map e
def sgLe (a b:Sg):Bool:=zvw a.1 b.1
instance:SrtE D.int:=⟨fun i j=>decide (i≤j),fun xs h=>zog h,zs3⟩
theorem zrv (xs:List Sg):xs.map sD=(xs.map (·.1)).map D.str:=by rw [List.map_map]; rfl
instance:SrtE sD:=⟨sgLe,fun xs h=>by
  rw [zrv]
  exact zoh (fun z hz=>by obtain ⟨a,_,rfl⟩:=List.mem_map.mp hz; exact a.2) (by simpa using h),fun xs=>by
  rw [zrv,zs4,zrv]
  congr 1
  symm
  exact List.map_mergeSort fun a _ b _=>rfl⟩
def zv (e:α→D) [h:SrtE e] (xs:List α):List α:=xs.mergeSort h.le
theorem zok [h:SrtE e]:G1LO vn (eL e) (fun xs k=>zr (xs.length≤16777216) (k (zv e xs))) (oL e):=fun xs K Q hk c=>⟨_,_,rfl,rfl,h.ok xs hk.1,by rw [h.eq]; exact c _ hk.2⟩
theorem zbj {f:κ→Key} {ek:κ→D} [hs:SrtE ek] (hk:∀ x,keyD (f x)=ek x):G1LO vn (eK f e) (fun t k=>zr (t.length≤16777216) (k (zv ek (za t)))) (oL ek):=fun t K Q h c=>by
  have e1:((tyG f e t).map fun kv=>keyD kv.1)=(za t).map ek:=by
    unfold tyG za; rw [List.map_map,List.map_map]; exact List.map_congr_left fun q _=>hk q.1
  exact ⟨_,_,rfl,(by show some ((tyG f e t).map fun kv=>keyD kv.1)=_; rw [e1]),hs.ok _ (by simpa [za] using h.1),by rw [hs.eq]; exact c _ h.2⟩
theorem zs6 {f:κ→List Key} {ek:κ→D} [hs:SrtE ek] (hk:∀ x,D.tup ((f x).map keyD)=ek x):G1LO vn (eDT f e) (fun t k=>zr (t.length≤16777216) (k (zv ek (za t)))) (oL ek):=fun t K Q h c=>by
  have e1:((tyG f e t).map fun kv=>D.tup (kv.1.map keyD))=(za t).map ek:=by
    unfold tyG za; rw [List.map_map,List.map_map]; exact List.map_congr_left fun q _=>hk q.1
  exact ⟨_,_,rfl,(by show some ((tyG f e t).map fun kv=>D.tup (kv.1.map keyD))=_; rw [e1]),hs.ok _ (by simpa [za] using h.1),by rw [hs.eq]; exact c _ h.2⟩
theorem zyy:G2TO gCat (eL e) (eL e) (fun xs ys k=>zr (xs.length + ys.length≤sizeLine) (k (xs++ys))) (oL e):=fun xs ys K Q h c=>⟨_,_,rfl,rfl,by simpa using h.1,by
  rw [← List.map_append]; exact c _ h.2⟩
end
theorem zgd {α β:Type} (f:α→β):∀ (ls:List α) (m:Nat),(ls.eraseIdx m).map f=(ls.map f).eraseIdx m
  | [],_=>rfl
  | a :: ls,0=>rfl
  | a :: ls,m + 1=>by
    show f a :: (ls.eraseIdx m).map f=f a :: (ls.map f).eraseIdx m
    rw [zgd f ls m]
section
variable {α β γ ι σ ρ κ J:Type}
theorem zs7 {xs:List ι}  {body:ι→(Prop)→Prop} {k:Prop} (I:Nat→Prop) (h0:I 0) (hs:∀ i x (nx:Prop),xs[i]? = some x→I i→(I (i + 1)→nx)→body x nx) (hk:I xs.length→k):zdj xs body k:=by
  have key:∀ (ys:List ι) (j:Nat),j≤xs.length→xs.drop j=ys→I j→zdj ys body k:=by
    intro ys
    induction ys with
    | nil =>
      intro j hj e h
      have e2:j=xs.length:=Nat.le_antisymm hj (List.drop_eq_nil_iff.mp e)
      subst e2
      exact hk h
    | cons x ys ih =>
      intro j hj e h
      have hlt:j < xs.length:=by
        refine Nat.lt_of_not_le fun z=>?_
        rw [List.drop_eq_nil_iff.mpr z] at e; cases e
      have e2:=List.drop_eq_getElem_cons hlt
      rw [e] at e2
      have ex:xs[j]? = some x:=by rw [List.getElem?_eq_getElem hlt,← (List.cons.inj e2).1]
      exact hs j x _ ex h fun h=>ih (j + 1) hlt (List.cons.inj e2).2.symm h
  exact key xs 0 (Nat.zero_le _) rfl h0
def qm {A0:Type} (xs:List ι) (a0:A0) (body:ι→A0→(A0→Prop)→Prop) (k:A0→Prop):Prop:=match xs with
  | []=>k a0
  | x :: xs=>body x a0 (fun b0=>qm xs b0 body k)
def ze6 {A0:Type} (K:A0→Prop) (B:(A0→Prop)→Prop):Prop:=B K
theorem ql {A0:Type} {xs:List ι} {a0:A0} {body:ι→A0→(A0→Prop)→Prop} {k:A0→Prop} (I:Nat→A0→Prop) (h0:I 0 a0) (hs:∀ i x (a0:A0) (nx:A0→Prop),xs[i]? = some x→I i a0→(∀ b0,I (i + 1) b0→nx b0)→body x a0 nx) (hk:∀ b0,I xs.length b0→k b0):qm xs a0 body k:=by
  have key:∀ (ys:List ι) (j:Nat) (c0:A0),j≤xs.length→xs.drop j=ys→I j c0→qm ys c0 body k:=by
    intro ys
    induction ys with
    | nil =>
      intro j c0 hj e h
      have e2:j=xs.length:=Nat.le_antisymm hj (List.drop_eq_nil_iff.mp e)
      subst e2
      exact hk c0 h
    | cons x ys ih =>
      intro j c0 hj e h
      have hlt:j < xs.length:=by
        refine Nat.lt_of_not_le fun z=>?_
        rw [List.drop_eq_nil_iff.mpr z] at e; cases e
      have e2:=List.drop_eq_getElem_cons hlt
      rw [e] at e2
      have ex:xs[j]? = some x:=by rw [List.getElem?_eq_getElem hlt,← (List.cons.inj e2).1]
      exact hs j x c0 _ ex h fun d0 h=>ih (j + 1) d0 hlt (List.cons.inj e2).2.symm h
  exact key xs 0 a0 (Nat.zero_le _) rfl h0
def yi {A0 A1:Type} (xs:List ι) (a0:A0) (a1:A1) (body:ι→A0→A1→(A0→A1→Prop)→Prop) (k:A0→A1→Prop):Prop:=match xs with
  | []=>k a0 a1
  | x :: xs=>body x a0 a1 (fun b0 b1=>yi xs b0 b1 body k)
def zcl {A0 A1:Type} (a0:A0) (a1:A1) (K:A0→A1→Prop):Prop:=K a0 a1
theorem zdk {A0 A1:Type} {xs:List ι} {a0:A0} {a1:A1} {body:ι→A0→A1→(A0→A1→Prop)→Prop} {k:A0→A1→Prop} (I:Nat→A0→A1→Prop) (h0:I 0 a0 a1) (hs:∀ i x (a0:A0) (a1:A1) (nx:A0→A1→Prop),xs[i]? = some x→I i a0 a1→(∀ b0 b1,I (i + 1) b0 b1→nx b0 b1)→body x a0 a1 nx) (hk:∀ b0 b1,I xs.length b0 b1→k b0 b1):yi xs a0 a1 body k:=by
  have key:∀ (ys:List ι) (j:Nat) (c0:A0) (c1:A1),j≤xs.length→xs.drop j=ys→I j c0 c1→yi ys c0 c1 body k:=by
    intro ys
    induction ys with
    | nil =>
      intro j c0 c1 hj e h
      have e2:j=xs.length:=Nat.le_antisymm hj (List.drop_eq_nil_iff.mp e)
      subst e2
      exact hk c0 c1 h
    | cons x ys ih =>
      intro j c0 c1 hj e h
      have hlt:j < xs.length:=by
        refine Nat.lt_of_not_le fun z=>?_
        rw [List.drop_eq_nil_iff.mpr z] at e; cases e
      have e2:=List.drop_eq_getElem_cons hlt
      rw [e] at e2
      have ex:xs[j]? = some x:=by rw [List.getElem?_eq_getElem hlt,← (List.cons.inj e2).1]
      exact hs j x c0 c1 _ ex h fun d0 d1 h=>ih (j + 1) d0 d1 hlt (List.cons.inj e2).2.symm h
  exact key xs 0 a0 a1 (Nat.zero_le _) rfl h0
def zap {A0 A1 A2:Type} (xs:List ι) (a0:A0) (a1:A1) (a2:A2) (body:ι→A0→A1→A2→(A0→A1→A2→Prop)→Prop) (k:A0→A1→A2→Prop):Prop:=match xs with
  | []=>k a0 a1 a2
  | x :: xs=>body x a0 a1 a2 (fun b0 b1 b2=>zap xs b0 b1 b2 body k)
def znp {A0 A1 A2:Type} (a0:A0) (a1:A1) (a2:A2) (K:A0→A1→A2→Prop):Prop:=K a0 a1 a2
def zcq {A0 A1 A2:Type} (a0:A0) (a1:A1) (a2:A2) (cond:A0→A1→A2→(Bool→Prop)→Prop) (body:A0→A1→A2→(A0→A1→A2→Prop)→Prop) (k:A0→A1→A2→Prop):Prop:=∃ I:Nat→A0→A1→A2→Prop,(∃ n,I n a0 a1 a2)∧∀ n (a0:A0) (a1:A1) (a2:A2),I n a0 a1 a2→cond a0 a1 a2 fun b=>if b=true then body a0 a1 a2 (fun b0 b1 b2=>∃ m,m < n∧I m b0 b1 b2) else k a0 a1 a2
theorem zge {A0 A1 A2:Type} {xs:List ι} {a0:A0} {a1:A1} {a2:A2} {body:ι→A0→A1→A2→(A0→A1→A2→Prop)→Prop} {k:A0→A1→A2→Prop} (I:Nat→A0→A1→A2→Prop) (h0:I 0 a0 a1 a2) (hs:∀ i x (a0:A0) (a1:A1) (a2:A2) (nx:A0→A1→A2→Prop),xs[i]? = some x→I i a0 a1 a2→(∀ b0 b1 b2,I (i + 1) b0 b1 b2→nx b0 b1 b2)→body x a0 a1 a2 nx) (hk:∀ b0 b1 b2,I xs.length b0 b1 b2→k b0 b1 b2):zap xs a0 a1 a2 body k:=by
  have key:∀ (ys:List ι) (j:Nat) (c0:A0) (c1:A1) (c2:A2),j≤xs.length→xs.drop j=ys→I j c0 c1 c2→zap ys c0 c1 c2 body k:=by
    intro ys
    induction ys with
    | nil =>
      intro j c0 c1 c2 hj e h
      have e2:j=xs.length:=Nat.le_antisymm hj (List.drop_eq_nil_iff.mp e)
      subst e2
      exact hk c0 c1 c2 h
    | cons x ys ih =>
      intro j c0 c1 c2 hj e h
      have hlt:j < xs.length:=by
        refine Nat.lt_of_not_le fun z=>?_
        rw [List.drop_eq_nil_iff.mpr z] at e; cases e
      have e2:=List.drop_eq_getElem_cons hlt
      rw [e] at e2
      have ex:xs[j]? = some x:=by rw [List.getElem?_eq_getElem hlt,← (List.cons.inj e2).1]
      exact hs j x c0 c1 c2 _ ex h fun d0 d1 d2 h=>ih (j + 1) d0 d1 d2 hlt (List.cons.inj e2).2.symm h
  exact key xs 0 a0 a1 a2 (Nat.zero_le _) rfl h0
variable {te ta tb tk:DE} {to:DOw} {tc:DT} {tw:DV} {ts:DA} {tm:DM} {wi:DI} {g:DG} {t u rest:DS} {D':DEnds} {δ δ1 δ2:Dl} {e:α→D} {ei:ι→D} {m:(α→Prop)→Prop} {mc:(Bool→Prop)→Prop} {ms:(σ→Prop)→Prop} {K:α→Prop} {i:Nat}
theorem zjk (C:SE te δ δ1 m e) (h:m fun a=>asgW a K) (hr:∀ v,K v→D'.nx (δ1.set i (some (.fz (e v))))):dAsg te (gN i) D' δ:=C _ _ h hr
theorem zwz {eo:α→O} (C:SOw to δ δ1 m eo) (h:m fun a=>asgW a K) (hr:∀ v,K v→D'.nx (δ1.set i (some (.own (eo v))))):ug i to D' δ:=C _ _ h hr
theorem zw0 {eo:α→O} (C:SOw to δ δ1 m eo) (h:m fun a=>asgW a K) (he:∀ a,(eo a).d=e a) (hr:∀ v,K v→D'.nx (δ1.set i (some (.fz (e v))))):zhc i to D' δ:=C _ _ h fun v hv=>by
  rw [he]; exact hr v hv
theorem u6 (C:SE te δ δ1 m e) (h:m fun a=>retW a K) (hq:∀ a,K a→D'.rt (.fz (e a))):dRet te D' δ:=C _ _ h hq
theorem za0 {eo:α→O} (C:SOw to δ δ1 m eo) (h:m fun a=>retW a K) (hq:∀ a,K a→D'.rt (.own (eo a))):zbr to D' δ:=C _ _ h hq
theorem zbk {o:O} (hs:δ[i]? = some (some (.own o))) (h:D'.rt (.own o)):za2 i D' δ:=by
  unfold za2; rw [hs]; exact h
theorem za8 {A B:Prop} (C:ST tc δ δ1 mc) (h:mc fun b=>ifW b A B) (ha:A→t D' δ1) (hb:B→u D' δ1):dIfS tc t u D' δ:=C _ _ h fun b hb'=>by
  unfold ifW at hb'
  cases b with
  | true=>rw [if_pos rfl] at hb' ⊢; exact ha hb'
  | false=>rw [if_neg (by decide)] at hb' ⊢; exact hb hb'
theorem zw1 (C:SE te δ δ1 m e) (h:m fun a=>asgW a K) (hr:∀ v,K v→g (e v) δ1 D'.nx):dAsg te g D' δ:=C _ _ h hr
theorem zs8 {xs:List α} (h1:δ[i]? = some (some (.own (oL e xs)))) (C:SE te δ δ1 m e) (h2:δ1[i]? = some (some (.own (oL e xs)))) {K:List α→Prop} (h:m fun a=>appW xs a K) (hr:∀ v,K v→D'.nx (δ1.set i (some (.own (oL e v))))):dApp i te D' δ:=by
  unfold dApp
  rw [h1]
  refine C _ _ h fun a ⟨ha,q⟩=>?_
  rw [h2]
  refine ⟨by rw [List.length_map]; exact ha,?_⟩
  have:=hr _ q
  unfold oL at this
  rw [List.map_append] at this
  exact this
theorem zs9 {j:Nat} {xs ys:List α} {mi:(Int→Prop)→Prop} (h1:δ[i]? = some (some (.own (oL e xs)))) (h0:δ[j]? = some (some (.own (oL e ys)))) (C:SE tk δ δ1 mi D.int) (h2:δ1[i]? = some (some (.own (oL e xs)))) (h3:∀ o,(δ1.set i o)[j]? = some (some (.own (oL e ys)))) {K:List α→List α→Prop}
    (h:mi fun z=>popW xs z fun x r=>appW ys x (K r)) (hr:∀ r v,K r v→D'.nx ((δ1.set i (some (.own (oL e r)))).set j (some (.own (oL e v))))):dApp j (zed i tk) D' δ:=by
  unfold dApp
  rw [h0]
  show zed i tk δ _
  unfold zed
  rw [h1]
  refine C _ _ h fun z ⟨hz,k,x,hk,hx,ha,q⟩=>?_
  rw [h2]
  refine ⟨z,k,e x,rfl,hz.1,hz.2,by rw [List.length_map]; exact hk,by rw [List.getElem?_map,hx]; rfl,?_⟩
  show (match (List.set δ1 i (some (S.own (O.lst ((List.map e xs).eraseIdx k)))))[j]? with | some (some (S.own (O.lst ds)))=>ds.length < sizeLine∧D'.nx (List.set (List.set δ1 i (some (S.own (O.lst ((List.map e xs).eraseIdx k))))) j (some (S.own (O.lst (ds++[e x]))))) | _=>False)
  rw [h3]
  refine ⟨by rw [List.length_map]; exact ha,?_⟩
  have:=hr _ _ q
  unfold oL at this
  rw [List.map_append] at this
  rw [zgd] at this
  exact this
theorem zej [DecidableEq κ] {f:κ→Key} [Inj f] {ek:κ→D} {xs:List (κ×α)} {mk:(κ→Prop)→Prop} {K:List (κ×α)→Prop} (hk:∀ x,dkey (ek x)=some (f x)) (C:SE te δ δ1 m e) (B:SE tk δ1 δ2 mk ek) (h1:δ1[i]? = some (some (.own (oK f e xs)))) (h2:δ2[i]? = some (some (.own (oK f e xs))))
    (h:m fun v=>mk fun x=>putW xs x v K) (hr:∀ v,K v→D'.nx (δ2.set i (some (.own (oK f e v))))):dAsg te (gSet i tk) D' δ:=C _ _ h fun v hv=>by
  refine ⟨⟨_,h1⟩,B _ _ hv fun x ⟨hl,q⟩=>?_⟩
  rw [h2]
  refine ⟨f x,hk x,by rw [uj]; exact hl,?_⟩
  rw [zaz]
  exact hr _ q
theorem zol [DecidableEq κ] {f:κ→List Key} [Inj f] {ek:κ→D} {xs:List (κ×α)} {mk:(κ→Prop)→Prop} {K:List (κ×α)→Prop} (hk:∀ x,tkey (ek x)=some (f x)) (C:SE te δ δ1 m e) (B:SE tk δ1 δ2 mk ek) (h1:δ1[i]? = some (some (.own (oDT f e xs)))) (h2:δ2[i]? = some (some (.own (oDT f e xs))))
    (h:m fun v=>mk fun x=>putW xs x v K) (hr:∀ v,K v→D'.nx (δ2.set i (some (.own (oDT f e v))))):dAsg te (gSet i tk) D' δ:=C _ _ h fun v hv=>by
  refine ⟨⟨_,h1⟩,B _ _ hv fun x ⟨hl,q⟩=>?_⟩
  rw [h2]
  refine ⟨f x,hk x,by rw [uj]; exact hl,?_⟩
  rw [zaz]
  exact hr _ q
theorem zyz {f:Int→Int→Int} {x:Int} {mi:(Int→Prop)→Prop} {K:Int→Prop} (h0:δ[i]? = some (some (.fz (.int x)))) (C:SE te δ δ1 mi D.int) (h:mi fun y=>asgW (f x y) K) (hr:∀ v,K v→D'.nx (δ1.set i (some (.fz (.int v))))):dAug i f te D' δ:=by
  unfold dAug
  rw [h0]
  exact C _ _ h fun y hy=>⟨y,rfl,hr _ hy⟩
theorem zw2 {tb:DS} {mi:(List ι→Prop)→Prop}  {body:ι→(Prop)→Prop} {K:Prop} (env:J→Dl) (j0:J) (C:SI wi δ (env j0) mi ei) (h:mi fun xs=>zdj xs body K)
    (hb:∀ (N:Dl→Prop) x j (nx:Prop),(∀ j,nx→N (env j))→body x nx→g (ei x) (env j) fun δ3=>tb { D' with nx:=N,ct:=N,bk:=D'.nx } δ3) (hk:∀ j,K→D'.nx (env j)):dFor wi g tb D' δ:=C _ _ h fun xs hx=>by
  refine ⟨fun i δ'=>∃ j,δ'=env j∧zdj (xs.drop i) body K,⟨j0,rfl,hx⟩,?_,?_⟩
  · rintro i d _ hd ⟨j,rfl,q⟩
    rw [List.getElem?_map] at hd
    cases hy:xs[i]? with
    | none=>rw [hy] at hd; cases hd
    | some x =>
      rw [hy] at hd
      cases hd
      have hlt:=(List.getElem?_eq_some_iff.mp hy).1
      have e2:=List.drop_eq_getElem_cons hlt
      rw [(List.getElem?_eq_some_iff.mp hy).2] at e2
      rw [e2] at q
      exact hb _ x j _ (fun j q=>⟨_,rfl,q⟩) q
  · rintro _ ⟨j,rfl,q⟩
    rw [List.length_map,List.drop_length] at q
    exact hk j q
theorem zom {A0:Type}  {K:A0→Prop} {Bd:(A0→Prop)→Prop} (env:A0→J→Dl) (h:ze6 K Bd) (hr:∀ a0 j,K a0→rest D' (env a0 j)) (hb:∀ K':A0→Prop,(∀ a0 j,K' a0→rest D' (env a0 j))→Bd K'→t { D' with nx:=rest D' } δ):dSeq t rest D' δ:=hb K hr h
theorem zku {A0:Type} {tb:DS} {mi:(List ι→Prop)→Prop} {a0:A0} {body:ι→A0→(A0→Prop)→Prop} {K:A0→Prop} (env:A0→J→Dl) (j0:J) (C:SI wi δ (env a0 j0) mi ei) (h:mi fun xs=>qm xs a0 body K)
    (hb:∀ (N:Dl→Prop) x a0 j (nx:A0→Prop),(∀ a0 j,nx a0→N (env a0 j))→body x a0 nx→g (ei x) (env a0 j) fun δ3=>tb { D' with nx:=N,ct:=N,bk:=D'.nx } δ3) (hk:∀ a0 j,K a0→D'.nx (env a0 j)):dFor wi g tb D' δ:=C _ _ h fun xs hx=>by
  refine ⟨fun i δ'=>∃ a0 j,δ'=env a0 j∧qm (xs.drop i) a0 body K,⟨_,j0,rfl,hx⟩,?_,?_⟩
  · rintro i d _ hd ⟨a0,j,rfl,q⟩
    rw [List.getElem?_map] at hd
    cases hy:xs[i]? with
    | none=>rw [hy] at hd; cases hd
    | some x =>
      rw [hy] at hd
      cases hd
      have hlt:=(List.getElem?_eq_some_iff.mp hy).1
      have e2:=List.drop_eq_getElem_cons hlt
      rw [(List.getElem?_eq_some_iff.mp hy).2] at e2
      rw [e2] at q
      exact hb _ x a0 j _ (fun b0 j q=>⟨_,_,rfl,q⟩) q
  · rintro _ ⟨a0,j,rfl,q⟩
    rw [List.length_map,List.drop_length] at q
    exact hk a0 j q
theorem zw3 {A0 A1:Type} {K:A0→A1→Prop} {ms:(A0×A1×Unit→Prop)→Prop} {is:List Nat} {es:A0×A1×Unit→List S} (C:SM tm δ δ1 ms es) (h:ms fun s=>zcl s.1 s.2.1 K) (hl:∀ s,(es s).length=is.length) (hr:∀ a0 a1,K a0 a1→D'.nx (zc0 δ1 is (es (a0,a1,())))):dPar is tm D' δ:=C _ _ h fun s hs=>⟨hl s,hr _ _ hs⟩
theorem zw4 {A0 A1:Type} {tb:DS} {mi:(List ι→Prop)→Prop} {a0:A0} {a1:A1} {body:ι→A0→A1→(A0→A1→Prop)→Prop} {K:A0→A1→Prop} (env:A0→A1→J→Dl) (j0:J) (C:SI wi δ (env a0 a1 j0) mi ei) (h:mi fun xs=>yi xs a0 a1 body K)
    (hb:∀ (N:Dl→Prop) x a0 a1 j (nx:A0→A1→Prop),(∀ a0 a1 j,nx a0 a1→N (env a0 a1 j))→body x a0 a1 nx→g (ei x) (env a0 a1 j) fun δ3=>tb { D' with nx:=N,ct:=N,bk:=D'.nx } δ3) (hk:∀ a0 a1 j,K a0 a1→D'.nx (env a0 a1 j)):dFor wi g tb D' δ:=C _ _ h fun xs hx=>by
  refine ⟨fun i δ'=>∃ a0 a1 j,δ'=env a0 a1 j∧yi (xs.drop i) a0 a1 body K,⟨_,_,j0,rfl,hx⟩,?_,?_⟩
  · rintro i d _ hd ⟨a0,a1,j,rfl,q⟩
    rw [List.getElem?_map] at hd
    cases hy:xs[i]? with
    | none=>rw [hy] at hd; cases hd
    | some x =>
      rw [hy] at hd
      cases hd
      have hlt:=(List.getElem?_eq_some_iff.mp hy).1
      have e2:=List.drop_eq_getElem_cons hlt
      rw [(List.getElem?_eq_some_iff.mp hy).2] at e2
      rw [e2] at q
      exact hb _ x a0 a1 j _ (fun b0 b1 j q=>⟨_,_,_,rfl,q⟩) q
  · rintro _ ⟨a0,a1,j,rfl,q⟩
    rw [List.length_map,List.drop_length] at q
    exact hk a0 a1 j q
theorem zw5 {A0 A1 A2:Type} {K:A0→A1→A2→Prop} {ms:(A0×A1×A2×Unit→Prop)→Prop} {is:List Nat} {es:A0×A1×A2×Unit→List S} (C:SM tm δ δ1 ms es) (h:ms fun s=>znp s.1 s.2.1 s.2.2.1 K) (hl:∀ s,(es s).length=is.length) (hr:∀ a0 a1 a2,K a0 a1 a2→D'.nx (zc0 δ1 is (es (a0,a1,a2,())))):dPar is tm D' δ:=C _ _ h fun s hs=>⟨hl s,hr _ _ _ hs⟩
theorem zkv {A0 A1 A2:Type} {tb:DS} {mi:(List ι→Prop)→Prop} {a0:A0} {a1:A1} {a2:A2} {body:ι→A0→A1→A2→(A0→A1→A2→Prop)→Prop} {K:A0→A1→A2→Prop} (env:A0→A1→A2→J→Dl) (j0:J) (C:SI wi δ (env a0 a1 a2 j0) mi ei) (h:mi fun xs=>zap xs a0 a1 a2 body K)
    (hb:∀ (N:Dl→Prop) x a0 a1 a2 j (nx:A0→A1→A2→Prop),(∀ a0 a1 a2 j,nx a0 a1 a2→N (env a0 a1 a2 j))→body x a0 a1 a2 nx→g (ei x) (env a0 a1 a2 j) fun δ3=>tb { D' with nx:=N,ct:=N,bk:=D'.nx } δ3) (hk:∀ a0 a1 a2 j,K a0 a1 a2→D'.nx (env a0 a1 a2 j)):dFor wi g tb D' δ:=C _ _ h fun xs hx=>by
  refine ⟨fun i δ'=>∃ a0 a1 a2 j,δ'=env a0 a1 a2 j∧zap (xs.drop i) a0 a1 a2 body K,⟨_,_,_,j0,rfl,hx⟩,?_,?_⟩
  · rintro i d _ hd ⟨a0,a1,a2,j,rfl,q⟩
    rw [List.getElem?_map] at hd
    cases hy:xs[i]? with
    | none=>rw [hy] at hd; cases hd
    | some x =>
      rw [hy] at hd
      cases hd
      have hlt:=(List.getElem?_eq_some_iff.mp hy).1
      have e2:=List.drop_eq_getElem_cons hlt
      rw [(List.getElem?_eq_some_iff.mp hy).2] at e2
      rw [e2] at q
      exact hb _ x a0 a1 a2 j _ (fun b0 b1 b2 j q=>⟨_,_,_,_,rfl,q⟩) q
  · rintro _ ⟨a0,a1,a2,j,rfl,q⟩
    rw [List.length_map,List.drop_length] at q
    exact hk a0 a1 a2 j q
theorem zta {A0 A1 A2:Type} {tb:DS} {a0:A0} {a1:A1} {a2:A2} {cond:A0→A1→A2→(Bool→Prop)→Prop} {body:A0→A1→A2→(A0→A1→A2→Prop)→Prop} {K:A0→A1→A2→Prop} (env:A0→A1→A2→J→Dl) (j0:J) (h0:δ=env a0 a1 a2 j0) (h:zcq a0 a1 a2 cond body K)
    (hc:∀ a0 a1 a2 j,ST tc (env a0 a1 a2 j) (env a0 a1 a2 j) (cond a0 a1 a2)) (hb:∀ (N:Dl→Prop) a0 a1 a2 j (nx:A0→A1→A2→Prop),(∀ a0 a1 a2 j,nx a0 a1 a2→N (env a0 a1 a2 j))→body a0 a1 a2 nx→tb { D' with nx:=N,ct:=N,bk:=D'.nx } (env a0 a1 a2 j)) (hk:∀ a0 a1 a2 j,K a0 a1 a2→D'.nx (env a0 a1 a2 j)):zf5 tc tb D' δ:=by
  obtain ⟨I,⟨n0,i0⟩,hi⟩:=h
  refine ⟨fun m δ'=>∃ a0 a1 a2 j,δ'=env a0 a1 a2 j∧I m a0 a1 a2,⟨n0,_,_,_,j0,h0,i0⟩,?_⟩
  rintro m _ ⟨a0,a1,a2,j,rfl,q⟩
  refine hc a0 a1 a2 j _ _ (hi m a0 a1 a2 q) fun b hb'=>?_
  cases b with
  | true =>
    rw [if_pos rfl] at hb' ⊢
    exact hb _ a0 a1 a2 j _ (fun b0 b1 b2 j ⟨m',hm,q⟩=>⟨m',hm,_,_,_,_,rfl,q⟩) hb'
  | false =>
    rw [if_neg (by decide)] at hb' ⊢
    exact hk a0 a1 a2 j hb'
theorem zc2 (h:rest D' δ):vc { D' with nx:=rest D' } δ:=h
theorem xp {d:D} {F:Dl→Prop} (h:F (δ.set i (some (.fz d)))):gN i d δ F:=h
theorem q8 (C:SE te δ δ1 m e) (h:m fun a=>asgW a K) (hr:∀ v,K v→(rest D') (δ1.set i (some (.fz (e v))))):dSeq (dAsg te (gN i)) rest D' δ:=zjk (D':={ D' with nx:=rest D' }) C h hr
theorem vu {eo:α→O} (C:SOw to δ δ1 m eo) (h:m fun a=>asgW a K) (hr:∀ v,K v→(rest D') (δ1.set i (some (.own (eo v))))):dSeq (ug i to) rest D' δ:=zwz (D':={ D' with nx:=rest D' }) C h hr
theorem zon {eo:α→O} (C:SOw to δ δ1 m eo) (h:m fun a=>asgW a K) (he:∀ a,(eo a).d=e a) (hr:∀ v,K v→(rest D') (δ1.set i (some (.fz (e v))))):dSeq (zhc i to) rest D' δ:=zw0 (D':={ D' with nx:=rest D' }) C h he hr
theorem zgf {A B:Prop} (C:ST tc δ δ1 mc) (h:mc fun b=>ifW b A B) (ha:A→t { D' with nx:=rest D' } δ1) (hb:B→u { D' with nx:=rest D' } δ1):dSeq (dIfS tc t u) rest D' δ:=za8 (D':={ D' with nx:=rest D' }) C h ha hb
theorem zoo (C:SE te δ δ1 m e) (h:m fun a=>asgW a K) (hr:∀ v,K v→g (e v) δ1 (rest D')):dSeq (dAsg te g) rest D' δ:=zw1 (D':={ D' with nx:=rest D' }) C h hr
theorem zop [DecidableEq κ] {f:κ→Key} [Inj f] {ek:κ→D} {xs:List (κ×α)} {mk:(κ→Prop)→Prop} {K:List (κ×α)→Prop} (hk:∀ x,dkey (ek x)=some (f x)) (C:SE te δ δ1 m e) (B:SE tk δ1 δ2 mk ek) (h1:δ1[i]? = some (some (.own (oK f e xs)))) (h2:δ2[i]? = some (some (.own (oK f e xs)))) (h:m fun v=>mk fun x=>putW xs x v K) (hr:∀ v,K v→(rest D') (δ2.set i (some (.own (oK f e v))))):dSeq (dAsg te (gSet i tk)) rest D' δ:=zej (D':={ D' with nx:=rest D' }) hk C B h1 h2 h hr
theorem zu4 {tb:DS} {mi:(List ι→Prop)→Prop} {body:ι→(Prop)→Prop} {K:Prop} (env:J→Dl) (j0:J) (C:SI wi δ (env j0) mi ei) (h:mi fun xs=>zdj xs body K) (hb:∀ (N:Dl→Prop) x j (nx:Prop),(∀ j,nx→N (env j))→body x nx→g (ei x) (env j) fun δ3=>tb { D' with nx:=N,ct:=N,bk:=rest D' } δ3) (hk:∀ j,K→(rest D') (env j)):dSeq (dFor wi g tb) rest D' δ:=zw2 (D':={ D' with nx:=rest D' }) env j0 C h hb hk
theorem yt {A0:Type} {tb:DS} {mi:(List ι→Prop)→Prop} {a0:A0} {body:ι→A0→(A0→Prop)→Prop} {K:A0→Prop} (env:A0→J→Dl) (j0:J) (C:SI wi δ (env a0 j0) mi ei) (h:mi fun xs=>qm xs a0 body K) (hb:∀ (N:Dl→Prop) x a0 j (nx:A0→Prop),(∀ a0 j,nx a0→N (env a0 j))→body x a0 nx→g (ei x) (env a0 j) fun δ3=>tb { D' with nx:=N,ct:=N,bk:=rest D' } δ3) (hk:∀ a0 j,K a0→(rest D') (env a0 j)):dSeq (dFor wi g tb) rest D' δ:=zku (D':={ D' with nx:=rest D' }) env j0 C h hb hk
theorem zh3 {A0 A1:Type} {K:A0→A1→Prop} {ms:(A0×A1×Unit→Prop)→Prop} {is:List Nat} {es:A0×A1×Unit→List S} (C:SM tm δ δ1 ms es) (h:ms fun s=>zcl s.1 s.2.1 K) (hl:∀ s,(es s).length=is.length) (hr:∀ a0 a1,K a0 a1→(rest D') (zc0 δ1 is (es (a0,a1,())))):dSeq (dPar is tm) rest D' δ:=zw3 (D':={ D' with nx:=rest D' }) C h hl hr
theorem ze7 {A0 A1:Type} {tb:DS} {mi:(List ι→Prop)→Prop} {a0:A0} {a1:A1} {body:ι→A0→A1→(A0→A1→Prop)→Prop} {K:A0→A1→Prop} (env:A0→A1→J→Dl) (j0:J) (C:SI wi δ (env a0 a1 j0) mi ei) (h:mi fun xs=>yi xs a0 a1 body K) (hb:∀ (N:Dl→Prop) x a0 a1 j (nx:A0→A1→Prop),(∀ a0 a1 j,nx a0 a1→N (env a0 a1 j))→body x a0 a1 nx→g (ei x) (env a0 a1 j) fun δ3=>tb { D' with nx:=N,ct:=N,bk:=rest D' } δ3) (hk:∀ a0 a1 j,K a0 a1→(rest D') (env a0 a1 j)):dSeq (dFor wi g tb) rest D' δ:=zw4 (D':={ D' with nx:=rest D' }) env j0 C h hb hk
theorem zu5 {A0 A1 A2:Type} {K:A0→A1→A2→Prop} {ms:(A0×A1×A2×Unit→Prop)→Prop} {is:List Nat} {es:A0×A1×A2×Unit→List S} (C:SM tm δ δ1 ms es) (h:ms fun s=>znp s.1 s.2.1 s.2.2.1 K) (hl:∀ s,(es s).length=is.length) (hr:∀ a0 a1 a2,K a0 a1 a2→(rest D') (zc0 δ1 is (es (a0,a1,a2,())))):dSeq (dPar is tm) rest D' δ:=zw5 (D':={ D' with nx:=rest D' }) C h hl hr
theorem zu6 {A0 A1 A2:Type} {tb:DS} {mi:(List ι→Prop)→Prop} {a0:A0} {a1:A1} {a2:A2} {body:ι→A0→A1→A2→(A0→A1→A2→Prop)→Prop} {K:A0→A1→A2→Prop} (env:A0→A1→A2→J→Dl) (j0:J) (C:SI wi δ (env a0 a1 a2 j0) mi ei) (h:mi fun xs=>zap xs a0 a1 a2 body K) (hb:∀ (N:Dl→Prop) x a0 a1 a2 j (nx:A0→A1→A2→Prop),(∀ a0 a1 a2 j,nx a0 a1 a2→N (env a0 a1 a2 j))→body x a0 a1 a2 nx→g (ei x) (env a0 a1 a2 j) fun δ3=>tb { D' with nx:=N,ct:=N,bk:=rest D' } δ3) (hk:∀ a0 a1 a2 j,K a0 a1 a2→(rest D') (env a0 a1 a2 j)):dSeq (dFor wi g tb) rest D' δ:=zkv (D':={ D' with nx:=rest D' }) env j0 C h hb hk
theorem zjl {A0 A1 A2:Type} {tb:DS} {a0:A0} {a1:A1} {a2:A2} {cond:A0→A1→A2→(Bool→Prop)→Prop} {body:A0→A1→A2→(A0→A1→A2→Prop)→Prop} {K:A0→A1→A2→Prop} (env:A0→A1→A2→J→Dl) (j0:J) (h0:δ=env a0 a1 a2 j0) (h:zcq a0 a1 a2 cond body K) (hc:∀ a0 a1 a2 j,ST tc (env a0 a1 a2 j) (env a0 a1 a2 j) (cond a0 a1 a2)) (hb:∀ (N:Dl→Prop) a0 a1 a2 j (nx:A0→A1→A2→Prop),(∀ a0 a1 a2 j,nx a0 a1 a2→N (env a0 a1 a2 j))→body a0 a1 a2 nx→tb { D' with nx:=N,ct:=N,bk:=rest D' } (env a0 a1 a2 j)) (hk:∀ a0 a1 a2 j,K a0 a1 a2→(rest D') (env a0 a1 a2 j)):dSeq (zf5 tc tb) rest D' δ:=zta (D':={ D' with nx:=rest D' }) env j0 h0 h hc hb hk
end
section
variable {α β γ ι σ ρ κ:Type} {e:α→D} {eb:β→D} {ei:ι→D} {te ta tb tk tv tx:DE} {to:DOw} {tt:DT} {tw:DV} {ts:DA} {wi:DI} {g:DG} {δ δ0 δ1 δ2 δ3 δ4 δ5 δh:Dl} {m ma:(α→Prop)→Prop} {mi:(List ι→Prop)→Prop} {mc:(Bool→Prop)→Prop} {vs:List Nat}
def zad (lo hi:Int) (k:List Int→Prop):Prop:=zr (-(2 ^ 62)≤lo∧lo < 2 ^ 62∧-(2 ^ 62)≤hi∧hi < 2 ^ 62) (k (zab lo hi))
theorem zkw (lo hi:Int):rngD lo hi=(zab lo hi).map D.int:=by unfold rngD zab; rw [List.map_map]; rfl
theorem zw6 (xs:List α):((List.range (xs.map e).length).zip (xs.map e) |>.map fun ix=>D.tup [.int (ix.1:Nat),ix.2])=(z5 xs).map (eP2 D.int e):=by
  unfold z5
  rw [List.map_map]
  apply List.ext_getElem
  · simp
  · intro i h1 h2
    simp [eP2]
theorem si_L {m:(List ι→Prop)→Prop} (C:SE te δ δ1 m (eL ei)):SI (dIL te) δ δ1 m ei:=fun K Q h c=>C _ _ h c
theorem si_T {m:(List ι→Prop)→Prop} (C:SE te δ δ1 m (eT ei)):SI (dIT te) δ δ1 m ei:=fun K Q h c=>C _ _ h fun xs hx=>⟨_,rfl,c xs hx⟩
theorem zrw {m:(Int×Unit→Prop)→Prop} (C:SA ts δ δ1 m fun p=>[D.int p.1]):SI (dIR1 ts) δ δ1 (fun k=>m fun s=>zad 0 s.1 k) D.int:=fun K Q h c=>C _ _ h fun s ⟨hs,q⟩=>⟨s.1,rfl,hs.2.2,by rw [zkw]; exact c _ q⟩
theorem zz1 {m:(Int×Int×Unit→Prop)→Prop} (C:SA ts δ δ1 m fun p=>[D.int p.1,D.int p.2.1]):SI (dIR2 ts) δ δ1 (fun k=>m fun s=>zad s.1 s.2.1 k) D.int:=fun K Q h c=>C _ _ h fun s ⟨hs,q⟩=>⟨s.1,s.2.1,rfl,hs,by rw [zkw]; exact c _ q⟩
theorem zjm {m:(List ι×Unit→Prop)→Prop} (C:SA ts δ δ1 m fun p=>[eL ei p.1]):SI (dIEn ts) δ δ1 (fun k=>m fun s=>k (z5 s.1)) (eP2 D.int ei):=fun K Q h c=>C _ _ h fun s hs=>⟨_,rfl,by rw [zw6]; exact c _ hs⟩
theorem zz2 {m:(List (κ×α)→Prop)→Prop} {f:κ→Key} {ek:κ→D} (hk:∀ x,keyD (f x)=ek x) (C:SE te δ δ1 m (eK f e)):SI (dIKs te) δ δ1 (fun k=>m fun t=>k (za t)) ek:=fun K Q h c=>C _ _ h fun t ht=>by
  have e1:((tyG f e t).map fun kv=>keyD kv.1)=(za t).map ek:=by
    unfold tyG za; rw [List.map_map,List.map_map]; exact List.map_congr_left fun q _=>hk q.1
  show Q δ1 ((tyG f e t).map fun kv=>keyD kv.1)
  rw [e1]; exact c _ ht
theorem zoq {m:(List (κ×α)→Prop)→Prop} {f:κ→List Key} {ek:κ→D} (hk:∀ x,D.tup ((f x).map keyD)=ek x) (C:SE te δ δ1 m (eDT f e)):SI (dIKs te) δ δ1 (fun k=>m fun t=>k (za t)) ek:=fun K Q h c=>C _ _ h fun t ht=>by
  have e1:((tyG f e t).map fun kv=>D.tup (kv.1.map keyD))=(za t).map ek:=by
    unfold tyG za; rw [List.map_map,List.map_map]; exact List.map_congr_left fun q _=>hk q.1
  show Q δ1 ((tyG f e t).map fun kv=>D.tup (kv.1.map keyD))
  rw [e1]; exact c _ ht
theorem zjn {m:(List (κ×α)→Prop)→Prop} {f:κ→Key} {ek:κ→D} (hk:∀ x,keyD (f x)=ek x) (C:SE te δ δ1 m (eK f e)):SI (dIIt te) δ δ1 m (eP2 ek e):=fun K Q h c=>C _ _ h fun t ht=>⟨_,rfl,by
  have e1:((tyG f e t).map fun kv=>D.tup [keyD kv.1,kv.2])=t.map (eP2 ek e):=by
    unfold tyG; rw [List.map_map]; exact List.map_congr_left fun q _=>by show D.tup [keyD (f q.1),e q.2]=_; rw [hk]; rfl
  rw [e1]; exact c _ ht⟩
def lcW (xs:List ι) (body:ι→(Option α→Prop)→Prop) (k:List α→Prop):Prop:=zr (xs.length≤sizeLine) (qm xs [] (fun x acc nx=>body x fun o=>nx (acc++o.toList)) k)
def LcB (g:DG) (tt:DT) (te:DE) (vs:List Nat) (δh:Dl) (ei:ι→D) (e:α→D) (body:ι→(Option α→Prop)→Prop):Prop:=∀ x (K:Option α→Prop) (J1:Dl→D→Prop) (J0:Dl→Prop),body x K→(∀ a,K (some a)→J1 δh (e a))→(K none→J0 δh) →
  g (ei x) δh fun δ3=>tt δ3 fun δ4 b=>if b=true then te δ4 fun δ5 y=>J1 (zq δ5 vs) y else J0 (zq δ4 vs)
theorem lc_core {body:ι→(Option α→Prop)→Prop} {K:List α→Prop} {Q:Dl→O→Prop} {xs:List ι} (h0:zq δ1 vs=δh) (hb:LcB g tt te vs δh ei e body) (hr:y4 δ1 (zq δh vs) vs=δ2) (h:lcW xs body K) (c:∀ a,K a→Q δ2 (oL e a)) :
    (xs.map ei).length≤sizeLine∧∃ I:Nat→Dl→List D→Prop,I 0 (zq δ1 vs) [] ∧
  (∀ i d δ2 acc,(xs.map ei)[i]? = some d→I i δ2 acc→g d δ2 fun δ3=>tt δ3 fun δ4 b=>if b=true then te δ4 fun δ5 y=>I (i + 1) (zq δ5 vs) (acc++[y]) else I (i + 1) (zq δ4 vs) acc) ∧
  ∀ δ2 acc,I (xs.map ei).length δ2 acc→Q (y4 δ1 (zq δ2 vs) vs) (.lst acc):=by
  refine ⟨by rw [List.length_map]; exact h.1,fun i δ' acc=>δ'=δh∧∃ as:List α,acc=as.map e∧qm (xs.drop i) as (fun x acc nx=>body x fun o=>nx (acc++o.toList)) K,⟨h0,[],rfl,h.2⟩,?_,?_⟩
  · rintro i d _ acc hd ⟨rfl,as,rfl,q⟩
    rw [List.getElem?_map] at hd
    cases hy:xs[i]? with
    | none=>rw [hy] at hd; cases hd
    | some x =>
      rw [hy] at hd
      cases hd
      have hlt:=(List.getElem?_eq_some_iff.mp hy).1
      have e2:=List.drop_eq_getElem_cons hlt
      rw [(List.getElem?_eq_some_iff.mp hy).2] at e2
      rw [e2] at q
      refine hb x _ (fun δ' y=>δ'=_∧∃ as':List α,as.map e++[y]=as'.map e∧qm (xs.drop (i + 1)) as' (fun x acc nx=>body x fun o=>nx (acc++o.toList)) K) (fun δ'=>δ'=_∧∃ as':List α,as.map e=as'.map e∧qm (xs.drop (i + 1)) as' (fun x acc nx=>body x fun o=>nx (acc++o.toList)) K) q (fun a ha=>⟨rfl,as++[a],by simp,ha⟩) (fun hn=>⟨rfl,as,rfl,by simpa using hn⟩)
  · rintro _ acc ⟨rfl,as,rfl,q⟩
    rw [List.length_map,List.drop_length] at q
    rw [hr]; exact c as q
theorem znq {body:ι→(Option α→Prop)→Prop} (C:SI wi δ δ1 mi ei) (h0:zq δ1 vs=δh) (hb:LcB g tt te vs δh ei e body) (hr:y4 δ1 (zq δh vs) vs=δ2):SOw (dLc wi g tt te vs) δ δ2 (fun k=>mi fun xs=>lcW xs body k) (oL e) :=
  fun K Q h c=>C _ _ h fun xs hx=>lc_core h0 hb hr hx c
theorem zqv {A B:Prop} {J1:Dl→D→Prop} {J0:Dl→Prop} (T:ST tt δ3 δ4 mc) (h:mc fun b=>ifW b A B) (ha:A→te δ4 fun δ5 y=>J1 (zq δ5 vs) y) (hb:B→J0 (zq δ4 vs)):tt δ3 fun δ4 b=>if b=true then te δ4 fun δ5 y=>J1 (zq δ5 vs) y else J0 (zq δ4 vs):=T _ _ h fun b hb'=>by
  unfold ifW at hb'
  cases b with
  | true=>rw [if_pos rfl] at hb' ⊢; exact ha hb'
  | false=>rw [if_neg (by decide)] at hb' ⊢; exact hb hb'
theorem ztb {J1:Dl→D→Prop} {J0:Dl→Prop} (h:te δ3 fun δ5 y=>J1 (zq δ5 vs) y):dYes δ3 fun δ4 b=>if b=true then te δ4 fun δ5 y=>J1 (zq δ5 vs) y else J0 (zq δ4 vs):=by
  unfold dYes
  simpa using h
theorem zjo {K:Option α→Prop} {J1:Dl→D→Prop} (C:SE te δ4 δ5 m e) (h:m fun a=>K (some a)) (h1:∀ a,K (some a)→J1 δh (e a)) (hw:zq δ5 vs=δh):te δ4 fun δ5 y=>J1 (zq δ5 vs) y:=C _ _ h fun a ha=>by
  rw [hw]; exact h1 a ha
theorem zvz {K:Prop} {J0:Dl→Prop} (h:K) (h0:K→J0 δh) (hw:zq δ4 vs=δh):J0 (zq δ4 vs):=by rw [hw]; exact h0 h
def xy (xs:List ι) (acc:α) (body:ι→α→(α→Prop)→Prop) (k:α→Prop):Prop:=zr (xs.length≤sizeLine) (qm xs acc body k)
def DcB (g:DG) (tt:DT) (tb:DB) (vs:List Nat) (δh:Dl) (ei:ι→D) (eo:α→O) (body:ι→α→(α→Prop)→Prop):Prop:=∀ x acc (nx:α→Prop) (J:Dl→O→Prop),body x acc nx→(∀ acc',nx acc'→J δh (eo acc')) →
  g (ei x) δh fun δ3=>tt δ3 fun δ4 b=>if b=true then tb δ4 (eo acc) fun δ5 acc'=>J (zq δ5 vs) acc' else J (zq δ4 vs) (eo acc)
theorem zqw {tb:DB} {eo:α→O} {body:ι→α→(α→Prop)→Prop} {K:α→Prop} {Q:Dl→O→Prop} {xs:List ι} {a0:α} (h0:zq δ1 vs=δh) (hb:DcB g tt tb vs δh ei eo body) (h:xy xs a0 body K) (c:∀ a,K a→Q (zq δh vs) (eo a)):znl g tt tb vs (xs.map ei) δ1 (eo a0) Q:=by
  refine ⟨by rw [List.length_map]; exact h.1,fun i δ' acc=>δ'=δh∧∃ a,acc=eo a∧qm (xs.drop i) a body K,⟨h0,a0,rfl,h.2⟩,?_,?_⟩
  · rintro i d _ acc hd ⟨rfl,a,rfl,q⟩
    rw [List.getElem?_map] at hd
    cases hy:xs[i]? with
    | none=>rw [hy] at hd; cases hd
    | some x =>
      rw [hy] at hd
      cases hd
      have hlt:=(List.getElem?_eq_some_iff.mp hy).1
      have e2:=List.drop_eq_getElem_cons hlt
      rw [(List.getElem?_eq_some_iff.mp hy).2] at e2
      rw [e2] at q
      exact hb x a _ (fun δ' acc=>δ'=_∧∃ a,acc=eo a∧qm (xs.drop (i + 1)) a body K) q fun a' q=>⟨rfl,a',rfl,q⟩
  · rintro _ acc ⟨rfl,a,rfl,q⟩
    rw [List.length_map,List.drop_length] at q
    exact c a q
theorem zdl {tb:DB} {eo:α→O} {body:ι→α→(α→Prop)→Prop} {o0:O} (a0:α) (C:SI wi δ δ1 mi ei) (h00:o0=eo a0) (h0:zq δ1 vs=δh) (hb:DcB g tt tb vs δh ei eo body) (hr:y4 δ1 (zq δh vs) vs=δ2):SOw (dDc o0 wi g tt tb vs) δ δ2 (fun k=>mi fun xs=>xy xs a0 body k) eo :=
  fun K Q h c=>C _ _ h fun xs hx=>by
    subst h00
    exact zqw h0 hb hx fun a ha=>by rw [hr]; exact c a ha
theorem zqx {tb:DB} {A B:Prop} {acc:O} {J:Dl→O→Prop} (T:ST tt δ3 δ4 mc) (h:mc fun b=>ifW b A B) (ha:A→tb δ4 acc fun δ5 acc'=>J (zq δ5 vs) acc') (hb:B→J (zq δ4 vs) acc):tt δ3 fun δ4 b=>if b=true then tb δ4 acc fun δ5 acc'=>J (zq δ5 vs) acc' else J (zq δ4 vs) acc:=T _ _ h fun b hb'=>by
  unfold ifW at hb'
  cases b with
  | true=>rw [if_pos rfl] at hb' ⊢; exact ha hb'
  | false=>rw [if_neg (by decide)] at hb' ⊢; exact hb hb'
theorem zbz {tb:DB} {acc:O} {J:Dl→O→Prop} (h:tb δ3 acc fun δ5 acc'=>J (zq δ5 vs) acc'):dYes δ3 fun δ4 b=>if b=true then tb δ4 acc fun δ5 acc'=>J (zq δ5 vs) acc' else J (zq δ4 vs) acc:=by
  unfold dYes
  simpa using h
theorem zbl [DecidableEq κ] {f:κ→Key} [Inj f] {ek:κ→D} {mk:(κ→Prop)→Prop} {acc:List (κ×α)} {nx:List (κ×α)→Prop} {J:Dl→O→Prop} (hk:∀ x,dkey (ek x)=some (f x)) (A:SE tk δ3 δ4 mk ek) (B:SE tv δ4 δ5 m e) (h:mk fun x=>m fun v=>putW acc x v nx) (hn:∀ a,nx a→J δh (oK f e a)) (hw:zq δ5 vs=δh) :
    y5 tk tv δ3 (oK f e acc) fun δ5 acc'=>J (zq δ5 vs) acc':=A _ _ h fun x hx=>B _ _ hx fun v ⟨hl,q⟩=>⟨f x,hk x,by rw [uj]; exact hl,by
  show J (zq δ5 vs) _
  rw [zaz,hw]; exact hn _ q⟩
theorem zu7 [DecidableEq κ] {f:κ→List Key} [Inj f] {ek:κ→D} {mk:(κ→Prop)→Prop} {acc:List (κ×α)} {nx:List (κ×α)→Prop} {J:Dl→O→Prop} (hk:∀ x,tkey (ek x)=some (f x)) (A:SE tk δ3 δ4 mk ek) (B:SE tv δ4 δ5 m e) (h:mk fun x=>m fun v=>putW acc x v nx) (hn:∀ a,nx a→J δh (oDT f e a)) (hw:zq δ5 vs=δh) :
    y5 tk tv δ3 (oDT f e acc) fun δ5 acc'=>J (zq δ5 vs) acc':=A _ _ h fun x hx=>B _ _ hx fun v ⟨hl,q⟩=>⟨f x,hk x,by rw [uj]; exact hl,by
  show J (zq δ5 vs) _
  rw [zaz,hw]; exact hn _ q⟩
theorem zor {tb:DB} {eo:α→O} {body:ι→α→(α→Prop)→Prop} {us:List Nat} {acc:α} {nx:α→Prop} {J:Dl→O→Prop} (C:SI wi δ3 δ4 mi ei) (h0:zq δ4 us=δ5) (hb:DcB g tt tb us δ5 ei eo body) (h:mi fun ys=>xy ys acc body nx) (hn:∀ a,nx a→J δh (eo a)) (hw:zq (zq δ5 us) vs=δh) :
    zgb wi g tt tb us δ3 (eo acc) fun δ5 acc'=>J (zq δ5 vs) acc':=C _ _ h fun ys hy=>zqw h0 hb hy fun a ha=>by
  show J (zq (zq δ5 us) vs) _
  rw [hw]; exact hn a ha
theorem ze8 [DecidableEq κ] {f:κ→Key} [Inj f] {ek:κ→D} {mt:(List (κ×α)→Prop)→Prop} {mk:(κ→Prop)→Prop} {Ra:List (κ×α)→Vw→Prop} (hk:∀ x,dkey (ek x)=some (f x)) (A:SV tw δ δ1 mt Ra) (B:SE tk δ1 δ2 mk ek) (V:VOk δ1 Ra (eK f e)) (W:VOk δ2 Ra (eK f e)) :
    SE (zg8 tw tk) δ δ2 (fun k=>mt fun t=>mk fun x=>k (valG t x)) (eO e):=fun K Q h c=>A _ _ h fun t v ht hv=>⟨⟨_,V t v hv,.inl ⟨_,rfl⟩⟩,B _ _ ht fun x hx=>⟨_,_,W t v hv,DLook.k (hk x),by
  rw [y8]
  cases hh:valG t x with
  | none=>rw [hh] at hx; exact c none hx
  | some a=>rw [hh] at hx; exact c (some a) hx⟩⟩
theorem zu8 [DecidableEq κ] {f:κ→Key} [Inj f] {ek:κ→D} {mt:(List (κ×α)→Prop)→Prop} {mk:(κ→Prop)→Prop} {Ra:List (κ×α)→Vw→Prop} (hk:∀ x,dkey (ek x)=some (f x)) (A:SV tw δ δ1 mt Ra) (B:SE tk δ1 δ2 mk ek) (C:SE tx δ2 δ3 m e) (V:VOk δ1 Ra (eK f e)) (W:VOk δ3 Ra (eK f e)) :
    SE (zi2 tw tk tx) δ δ3 (fun k=>mt fun t=>mk fun x=>m fun y=>k ((valG t x).getD y)) e:=fun K Q h c=>A _ _ h fun t v ht hv=>⟨⟨_,V t v hv,.inl ⟨_,rfl⟩⟩,B _ _ ht fun x hx=>C _ _ hx fun y hy=>⟨_,_,W t v hv,DLook.k (hk x),by
  rw [y8]
  cases hh:valG t x with
  | none=>rw [hh] at hy; exact c _ hy
  | some a=>rw [hh] at hy; exact c _ hy⟩⟩
theorem ztc [DecidableEq κ] {f:κ→List Key} [Inj f] {ek:κ→D} {mt:(List (κ×α)→Prop)→Prop} {mk:(κ→Prop)→Prop} {Ra:List (κ×α)→Vw→Prop} (hk:∀ x,tkey (ek x)=some (f x)) (A:SV tw δ δ1 mt Ra) (B:SE tk δ1 δ2 mk ek) (C:SE tx δ2 δ3 m e) (V:VOk δ1 Ra (eDT f e)) (W:VOk δ3 Ra (eDT f e)) :
    SE (zi2 tw tk tx) δ δ3 (fun k=>mt fun t=>mk fun x=>m fun y=>k ((valG t x).getD y)) e:=fun K Q h c=>A _ _ h fun t v ht hv=>⟨⟨_,V t v hv,.inr ⟨_,rfl⟩⟩,B _ _ ht fun x hx=>C _ _ hx fun y hy=>⟨_,_,W t v hv,DLook.t (hk x),by
  rw [y8]
  cases hh:valG t x with
  | none=>rw [hh] at hy; exact c _ hy
  | some a=>rw [hh] at hy; exact c _ hy⟩⟩
def rgW (lo hi:Int) (k:List Int→Prop):Prop:=zr (RgOk lo hi) (k (zab lo hi))
theorem zy0 {m m':(Int→Prop)→Prop} (A:SE ta δ δ1 m D.int) (B:SE tb δ1 δ2 m' D.int):SOw (dRg2 ta tb) δ δ2 (fun k=>m fun a=>m' fun n=>rgW a n k) (oL D.int):=fun K Q h c=>A _ _ h fun a ha=>B _ _ ha fun n ⟨hn,q⟩=>⟨a,n,rfl,rfl,hn,by rw [zkw]; exact c _ q⟩
theorem zy1 {to:DOw} {mt:(List α→Prop)→Prop} {m':(Int→Prop)→Prop} (A:SOw to δ δ1 mt (oL e)) (B:SE tb δ1 δ2 m' D.int):SOw (dRep to tb) δ δ2 (fun k=>mt fun xs=>m' fun i=>zr (-(2 ^ 63)≤i∧i < 2 ^ 63∧xs.length * i.toNat≤sizeLine) (k (List.replicate i.toNat xs).flatten)) (oL e):=fun K Q h c=>A _ _ h fun xs hx=>B _ _ hx fun i ⟨hi,q⟩=>⟨_,i,rfl,rfl,hi.1,hi.2.1,by rw [List.length_map]; exact hi.2.2,by
  have:(List.replicate i.toNat (xs.map e)).flatten=((List.replicate i.toNat xs).flatten).map e:=by rw [List.map_flatten,List.map_replicate]
  rw [this]; exact c _ q⟩
def qr (_:Unit) (n:Int) (k:Int→Prop):Prop:=zr (0 < n∧n < 1073741824) (∀ r,0≤r→r < n→k r)
def zgg (ns:List Int) (i:Int) (k:Unit→Prop):Prop:=zr (0≤i∧i < 2 ^ 31∧∀ z∈ns,Builtin.Int.intBits z≤1048576) (k ())
def ur (_:Unit) (xs:List α) (k:α→Prop):Prop:=zr (0 < xs.length∧xs.length < 1073741824) (∀ x∈xs,k x)
theorem zbm (s:Unit×Int×Unit) (K:Int→Prop) (Q':S→Prop) (h:qr s.1 s.2.1 K) (c:∀ r,K r→Q' (.fz (.int r))):zcp [jl s.1,.int s.2.1] Q':=⟨_,rfl,h.1.1,h.1.2,fun r h0 h1=>c r (h.2 r h0 h1)⟩
theorem ztd (s:List Int×Int×Unit) (K:Unit→Prop) (Q':S→Prop) (h:zgg s.1 s.2.1 K) (c:∀ r,K r→Q' (.fz (jl r))):zbv [.scr s.1,.int s.2.1] Q':=⟨_,_,rfl,h.1.1,h.1.2.1,h.1.2.2,c _ h.2⟩
theorem zjp (s:Unit×List α×Unit) (K:α→Prop) (Q':S→Prop) (h:ur s.1 s.2.1 K) (c:∀ r,K r→Q' (.fz (e r))):zbw [jl s.1,eL e s.2.1] Q':=⟨_,_,rfl,rfl,by simpa using h.1.1,by simpa using h.1.2,fun x hx=>by
  obtain ⟨a,ha,rfl⟩:=List.mem_map.mp hx
  exact c a (h.2 a ha)⟩
end
section
variable {α β γ ι σ ρ κ κ2:Type} {e:α→D} {eb:β→D} {ei:ι→D} {te ta tb tk tv tx tl:DE} {to:DOw} {tw tz:DV} {ts tz':DA} {wi:DI} {g:DG} {δ δ0 δ1 δ2 δ3 δ4 δ5:Dl} {m ma:(α→Prop)→Prop} {mb:(β→Prop)→Prop} {D':DEnds} {i j:Nat} {rest:DS}
class AlkE (e:α→D):Prop where
  alk:∀ a b,PySem.W.alike (toPD (e a)) (toPD (e b))=true
instance:AlkE D.int:=⟨fun a b=>by simp [ze4,PySem.W.alike]⟩
instance:AlkE sD:=⟨fun a b=>by show PySem.W.alike (toPD (.str a.1)) (toPD (.str b.1))=true; simp [ze5,PySem.W.alike]⟩
theorem zkx {n n2:Nat} [h:PuE n e] [h2:PuE n2 eb] (p:α×β):toPD (eP2 e eb p) = .tuple [toPD (e p.1),toPD (eb p.2)]:=by
  obtain ⟨a,a1,_⟩:=h.pu p.1
  obtain ⟨b,b1,_⟩:=h2.pu p.2
  simp [toPD,eP2,toP,toPs,a1,b1]
instance {n n2:Nat} [PuE n e] [PuE n2 eb] [h:AlkE e] [h2:AlkE eb]:AlkE (eP2 e eb):=⟨fun a b=>by
  rw [zkx,zkx]
  simp [PySem.W.alike,PySem.W.alikeAll,h.alk,h2.alk]⟩
class Small (n:Nat):Prop where
  le:n≤60
instance srtP2 {n n2:Nat} [h:PuE n e] [h2:PuE n2 eb] [ha:AlkE e] [hb:AlkE eb] [hn:Small (max n n2 + 1)]:SrtE (eP2 e eb):=⟨fun a b=>dataLe false toPD (eP2 e eb a) (eP2 e eb b),fun xs hl=>by
  have hp:PuE (max n n2 + 1) (eP2 e eb):=inferInstance
  have hk:AlkE (eP2 e eb):=inferInstance
  exact {
    pu:=fun d hd=>by obtain ⟨a,_,rfl⟩:=List.mem_map.mp hd; exact (hp.pu a).pure (Nat.le_trans hn.le (by decide))
    al:=fun d hd d' hd'=>by
      simp only [List.map_map,List.mem_map] at hd hd'
      obtain ⟨a,_,rfl⟩:=hd
      obtain ⟨b,_,rfl⟩:=hd'
      exact hk.alk a b
    so:=.inl fun d hd=>by
      simp only [List.map_map,List.mem_map] at hd
      obtain ⟨a,_,rfl⟩:=hd
      exact ⟨_,_,zkx a⟩
    sz:=by rw [List.length_map]; exact zeh hl },fun xs=>by
  unfold zdi
  symm
  exact List.map_mergeSort fun a _ b _=>rfl⟩
instance:Small (max 0 0 + 1):=⟨by decide⟩
variable {Ra:α→Vw→Prop} {Rl:List α→Vw→Prop} {ml:(List α→Prop)→Prop}
def za9 (t:List (κ×α)):List α:=t.map (·.2)
theorem zos {κ':Type} {f:κ→κ'} (t:List (κ×α)):(tyG f e t).map (·.2)=(za9 t).map e:=by unfold tyG za9; rw [List.map_map,List.map_map]; rfl
variable {Rt:List (κ×α)→Vw→Prop} {mt:(List (κ×α)→Prop)→Prop}
theorem zz3 {f:κ→Key} {mt:(List (κ×ι)→Prop)→Prop} (C:SE te δ δ1 mt (eK f ei)):SI (dIVs te) δ δ1 (fun k=>mt fun t=>k (za9 t)) ei:=fun K Q h c=>C _ _ h fun t ht=>⟨_,rfl,by rw [zos]; exact c _ ht⟩
theorem zy2 {f:κ→List Key} {ek:κ→D} {mt:(List (κ×α)→Prop)→Prop} (hk:∀ x,D.tup ((f x).map keyD)=ek x) (C:SE te δ δ1 mt (eDT f e)):SI (zro te) δ δ1 mt (eP2 ek e):=fun K Q h c=>C _ _ h fun t ht=>⟨_,rfl,by
  have e1:((tyG f e t).map fun kv=>D.tup [.tup (kv.1.map keyD),kv.2])=t.map (eP2 ek e):=by
    unfold tyG; rw [List.map_map]; exact List.map_congr_left fun q _=>by show D.tup [.tup ((f q.1).map keyD),e q.2]=_; rw [hk]; rfl
  rw [e1]; exact c _ ht⟩
def idxW [DecidableEq α] (xs:List α) (x:α) (k:Int→Prop):Prop:=∃ j:Nat,xs[j]? = some x∧(∀ m,m < j→xs[m]?≠some x)∧k j
theorem zot [DecidableEq α] [h:FlatE e] {mk:(α→Prop)→Prop} (A:SV tw δ δ1 ml Rl) (B:SE tk δ1 δ2 mk e) (V:VOk δ1 Rl (eL e)) (W:VOk δ2 Rl (eL e)):SE (zja tw tk) δ δ2 (fun k=>ml fun xs=>mk fun x=>idxW xs x k) D.int:=fun K Q hm c=>A _ _ hm fun xs v hx hv =>
  ⟨⟨_,V xs v hv⟩,B _ _ hx fun x ⟨j,h1,h2,hk⟩=>⟨_,_,_,j,W xs v hv,h.ok x,zby xs,⟨h.fl x,by rw [List.getElem?_map,h1]; rfl,by rw [h.eq]; simp,fun m z' hm' hz=>by
    rw [List.getElem?_map] at hz
    obtain ⟨y,hy,rfl⟩:=Option.map_eq_some_iff.mp hz
    rw [h.eq,decide_eq_false_iff_not]
    intro e
    exact h2 m hm' (e ▸ hy)⟩,c _ hk⟩⟩
def inN [DecidableEq κ] (t:List (κ×α)):Option κ→Bool
  | none=>false
  | some x=>hasG t x
theorem zqy {neg:Bool} {x y:D} {Q:D→Prop} (hx:x.isNon=false) (h:gInB neg x y Q):gInN neg x y Q:=by
  cases x <;> first | exact h | cases hx
theorem zy3 [DecidableEq κ] {f:κ→Key} [Inj f] {ek:κ→D} (hk:∀ x,dkey (ek x)=some (f x)) (hn:∀ x,(ek x).isNon=false) (h0:∀ (x:κ) (kvs:List (Key×D)) (Q:D→Prop),(∃ k,dkey (ek x)=some k∧Q (.bl (valG kvs k).isSome))→gInB false (ek x) (.dk kvs) Q) :
    G2T (gInN false) (eO ek) (eK f e) (fun o t k=>k (inN t o)) D.bl:=fun o t K Q h c=>by
  cases o with
  | none=>exact ⟨_,rfl,c _ h⟩
  | some x=>exact zqy (hn x) (zc1 hk h0 x t K Q h c)
theorem zw7 [DecidableEq κ] {f:κ→Key} [Inj f] {ek:κ→D} (hk:∀ x,dkey (ek x)=some (f x)) (hn:∀ x,(ek x).isNon=false) (h0:∀ (x:κ) (kvs:List (Key×D)) (Q:D→Prop),(∃ k,dkey (ek x)=some k∧Q (.bl (!(valG kvs k).isSome)))→gInB true (ek x) (.dk kvs) Q) :
    G2T (gInN true) (eO ek) (eK f e) (fun o t k=>k (!inN t o)) D.bl:=fun o t K Q h c=>by
  cases o with
  | none=>exact ⟨_,rfl,c _ h⟩
  | some x=>exact zqy (hn x) (zqs hk h0 x t K Q h c)
def zjq [DecidableEq κ] (t:List (κ×α)):Option κ→List (κ×α)
  | none=>t
  | some x=>jj t x
theorem zw8 [DecidableEq κ] {f:κ→Key} [Inj f] {ek:κ→D} {t:List (κ×α)} {mo:(Option κ→Prop)→Prop} {K:List (κ×α)→Prop} (hk:∀ x,dkey (ek x)=some (f x)) (h1:δ[i]? = some (some (.own (oK f e t)))) (A:SE tk δ δ1 mo (eO ek)) (h2:δ1[i]? = some (some (.own (oK f e t))))
    (h:mo fun o=>asgW (zjq t o) K) (h3:δ1.set i (some (.own (oK f e t)))=δ1) (hr:∀ v,K v→D'.nx (δ1.set i (some (.own (oK f e v))))):zrg (zhe i tk (dC .non)) D' δ:=by
  show zhe i tk (dC .non) δ _
  unfold zhe
  rw [h1]
  refine A _ _ h fun o ho=>?_
  show (match δ1[i]? with | some (some (.own (.dk kvs)))=>_ | _=>False)
  rw [h2]
  cases o with
  | none=>exact .inr ⟨rfl,by have:=hr _ ho; rw [show zjq t none=t from rfl,h3] at this; exact this⟩
  | some x =>
    refine .inl ⟨f x,hk x,fun v hv=>?_,fun hn=>?_⟩
    · rw [zu0]; exact hr _ ho
    · rw [y8] at hn
      have e1:valG t x=none:=by
        cases q:valG t x with
        | none=>rfl
        | some v=>rw [q] at hn; cases hn
      have e2:jj t x=t:=by
        unfold jj
        rw [List.filter_eq_self]
        intro q hq
        by_cases z:q.1=x
        · exact absurd (List.mem_map.mpr ⟨q,hq,z⟩) (y6 e1)
        · simpa using z
      have:=hr _ ho
      rw [show zjq t (some x)=jj t x from rfl,e2,h3] at this
      exact this
theorem zou [DecidableEq α] [h:FlatE e]:G2T (gInE true) e (eL e) (fun x xs k=>k (!memB x xs)) D.bl:=fun x xs K Q hk c=>zwx x xs K Q hk c
end
section
variable {α β γ ι σ σ' ρ κ κ2:Type} {e:α→D} {ea:α→D} {eb:β→D} {ei:α→D} {te ta tb tk tv tx tl:DE} {to:DOw} {tw tz:DV} {ts tz':DA} {wi:DI} {g:DG} {δ δ0 δ1 δ2 δ3 δ4 δ5:Dl} {m ma:(α→Prop)→Prop} {mb:(β→Prop)→Prop} {D':DEnds} {i j:Nat} {rest:DS} {ms:(σ→Prop)→Prop} {es:σ→List D} {mz:(σ'→Prop)→Prop} {ez:σ'→List D}
def tyN (f:κ→Key) (eo:α→O) (t:List (κ×α)):List (Key×O):=t.map fun q=>(f q.1,eo q.2)
abbrev nkS (f:κ→Key) (eo:α→O) (t:List (κ×α)):Option S:=some (.nk (tyN f eo t))
section
variable [DecidableEq κ] {f:κ→Key} [Inj f] {eo:α→O}
theorem zqz (t:List (κ×α)):(tyN f eo t).length=t.length:=by unfold tyN; simp
theorem zky (t:List (κ×α)) (k:κ):valG (tyN f eo t) (f k)=(valG t k).map eo:=by
  induction t with
  | nil=>rfl
  | cons q t ih =>
    show valG ((f q.1,eo q.2) :: tyN f eo t) (f k)=_
    by_cases e:q.1=k
    · simp [valG,e]
    · have e2:¬ f q.1=f k:=fun z=>e (Inj.inj _ _ z)
      have h1:valG ((f q.1,eo q.2) :: tyN f eo t) (f k)=valG (tyN f eo t) (f k):=by simp [valG,e2]
      have h2:valG (q :: t) k=valG t k:=by simp [valG,e]
      rw [h1,h2,ih]
theorem zw9 (t:List (κ×α)) (k:κ):((tyN f eo t).any fun kv=>decide (kv.1=f k))=(t.any fun kv=>decide (kv.1=k)):=by
  unfold tyN
  rw [List.any_map]
  congr 1
  funext q
  show decide (f q.1=f k)=decide (q.1=k)
  by_cases e:q.1=k
  · simp [e]
  · have e2:¬ f q.1=f k:=fun z=>e (Inj.inj _ _ z)
    simp [e,e2]
theorem zq0 (t:List (κ×α)) (k:κ) (v:α):putG (tyN f eo t) (f k) (eo v)=tyN f eo (putG t k v):=by
  unfold putG
  rw [zw9]
  split
  · unfold tyN
    rw [List.map_map,List.map_map]
    refine List.map_congr_left fun q _=>?_
    simp only [Function.comp]
    by_cases e:q.1=k
    · rw [if_pos e,if_pos (congrArg f e)]
    · rw [if_neg e,if_neg (fun z=>e (Inj.inj _ _ z))]
  · simp [tyN]
theorem zxa (t:List (κ×α)) (k:κ) (v:α):setG (tyN f eo t) (f k) (eo v)=tyN f eo (setG t k v):=by
  unfold setG
  rw [zky,Option.isSome_map]
  split
  · rfl
  · simp [tyN]
theorem zl0 {K:List (κ×α)→Prop} (h:asgW ([]:List (κ×α)) K) (hr:∀ v,K v→rest D' (δ.set i (nkS f eo v))):dSeq (zjb i) rest D' δ:=hr [] h
def sdfW (t:List (κ×α)) (x:κ) (v:α) (K:List (κ×α)→Prop):Prop:=t.length < sizeLine∧K (setG t x v)
variable {ek:κ→D} {mk:(κ→Prop)→Prop} {t:List (κ×α)} {K:List (κ×α)→Prop}
theorem zte (hk:∀ x,dkey (ek x)=some (f x)) (h1:δ[i]? = some (nkS f eo t)) (A:SE tk δ δ1 mk ek) (B:SOw to δ1 δ2 m eo) (h2:δ2[i]? = some (nkS f eo t)) (h:mk fun x=>m fun v=>sdfW t x v K) (hr:∀ v,K v→D'.nx (δ2.set i (nkS f eo v))):zco i tk to D' δ:=by
  unfold zco
  rw [h1]
  refine A _ _ h fun x hx=>B _ _ hx fun v ⟨hl,hv⟩=>?_
  rw [h2]
  exact ⟨f x,hk x,by rw [zqz]; exact hl,by rw [zxa]; exact hr _ hv⟩
theorem zrx (hk:∀ x,dkey (ek x)=some (f x)) (h1:δ[i]? = some (nkS f eo t)) (A:SE tk δ δ1 mk ek) (B:SOw to δ1 δ2 m eo) (h2:δ2[i]? = some (nkS f eo t)) (h:mk fun x=>m fun v=>sdfW t x v K) (hr:∀ v,K v→rest D' (δ2.set i (nkS f eo v))):dSeq (zco i tk to) rest D' δ :=
  zte (D':={ D' with nx:=rest D' }) hk h1 A B h2 h hr
end
section
variable [DecidableEq κ] [DecidableEq κ2] {f:κ→Key} [Inj f] {f2:κ2→Key} [Inj f2] {ek:κ→D} {ek2:κ2→D} {mk:(κ→Prop)→Prop} {mk2:(κ2→Prop)→Prop} {t:List (κ×List (κ2×α))} {K:List (κ×List (κ2×α))→Prop} {tk2:DE}
theorem zxb (hk:∀ x,dkey (ek x)=some (f x)) (hk2:∀ x,dkey (ek2 x)=some (f2 x)) (C:SE te δ δ1 m e) (h1:δ1[i]? = some (nkS f (oK f2 e) t)) (A:SE tk δ1 δ2 mk ek) (h2:δ2[i]? = some (nkS f (oK f2 e) t)) (B:SE tk2 (δ2.set i none) δ3 mk2 ek2)
    (h:m fun v=>mk fun x=>getW t x fun gg=>mk2 fun y=>putW gg y v fun g2=>asgW (putG t x g2) K) (hr:∀ v,K v→D'.nx (δ3.set i (nkS f (oK f2 e) v))):dAsg te (zrq i tk tk2) D' δ:=C _ _ h fun v hv=>by
  refine ⟨⟨_,h1⟩,A _ _ hv fun x ⟨gg,hg,hx⟩=>?_⟩
  rw [h2]
  refine ⟨f x,tyG f2 e gg,hk x,by rw [zky,hg]; rfl,B _ _ hx fun y ⟨hl,hy⟩=>⟨f2 y,hk2 y,by rw [uj]; exact hl,?_⟩⟩
  have e1:(O.dk (putG (tyG f2 e gg) (f2 y) (e v)))=oK f2 e (putG gg y v):=by rw [zaz]; rfl
  rw [e1,zq0]
  exact hr _ hy
end
theorem zq1 [DecidableEq κ] {f:κ→Key} {eo:α→O} (i:Nat) (t:List (κ×α)) (h:δ[i]? = some (nkS f eo t)) (he:∀ x,(eo x).d=ei x):SE (zhg i) δ (δ.set i (some (.fz (eK f ei t)))) (fun k=>k t) (eK f ei):=fun K Q hm c=>by
  unfold zhg
  rw [h]
  show Q (δ.set i (some (.fz (S.nk (tyN f eo t)).d))) (S.nk (tyN f eo t)).d
  have e1:(S.nk (tyN f eo t)).d=eK f ei t:=by
    show D.dk _=D.dk _
    congr 1
    unfold tyN tyG
    rw [List.map_map]
    exact List.map_congr_left fun q _=>by show (f q.1,(eo q.2).d)=_; rw [he]
  rw [e1]; exact c t hm
section
variable [DecidableEq κ] [DecidableEq κ2] {f:κ→Key} [Inj f] {f2:κ2→Key} [Inj f2] {ek:κ→D} {el:κ2→D} {mk:(κ→Prop)→Prop} {ml:(κ2→Prop)→Prop} {t:List (κ×α)} {u:List (κ2×β)} {K:List (κ×α)→List (κ2×β)→Prop} {mp:(α×β→Prop)→Prop} {δt:List (κ×α)→Dl}
theorem zy4 (hk:∀ x,dkey (ek x)=some (f x)) (hl:∀ x,dkey (el x)=some (f2 x)) (C:SE te δ δ1 mp (eP2 ea eb)) (h1:δ1[i]? = some (some (.own (oK f ea t)))) (A:SE tk δ1 δ2 mk ek) (h2:δ2[i]? = some (some (.own (oK f ea t))))
    (h3:∀ t2,(δ2.set i (some (.own (oK f ea t2))))[j]? = some (some (.own (oK f2 eb u)))) (B:∀ t2,SE tl (δ2.set i (some (.own (oK f ea t2)))) (δt t2) ml el) (h4:∀ t2,(δt t2)[j]? = some (some (.own (oK f2 eb u))))
    (h:mp fun p=>mk fun x=>putW t x p.1 fun t2=>ml fun y=>putW u y p.2 fun u2=>K t2 u2) (hr:∀ t2 u2,K t2 u2→D'.nx ((δt t2).set j (some (.own (oK f2 eb u2))))):dAsg te (gTp 2 (zu (gSet i tk) (zu (gSet j tl) jr))) D' δ:=C _ _ h fun p hp=>by
  refine ⟨_,rfl,rfl,_,_,rfl,⟨_,h1⟩,A _ _ hp fun x ⟨hl1,hx⟩=>?_⟩
  rw [h2]
  refine ⟨f x,hk x,by rw [uj]; exact hl1,?_⟩
  rw [zaz]
  refine ⟨_,_,rfl,⟨_,h3 _⟩,B _ _ _ hx fun y ⟨hl2,hy⟩=>?_⟩
  rw [h4]
  refine ⟨f2 y,hl y,by rw [uj]; exact hl2,?_⟩
  rw [zaz]
  exact ⟨rfl,hr _ _ hy⟩
theorem zq2 (hk:∀ x,dkey (ek x)=some (f x)) (hl:∀ x,dkey (el x)=some (f2 x)) (C:SE te δ δ1 mp (eP2 ea eb)) (h1:δ1[i]? = some (some (.own (oK f ea t)))) (A:SE tk δ1 δ2 mk ek) (h2:δ2[i]? = some (some (.own (oK f ea t))))
    (h3:∀ t2,(δ2.set i (some (.own (oK f ea t2))))[j]? = some (some (.own (oK f2 eb u)))) (B:∀ t2,SE tl (δ2.set i (some (.own (oK f ea t2)))) (δt t2) ml el) (h4:∀ t2,(δt t2)[j]? = some (some (.own (oK f2 eb u))))
    (h:mp fun p=>mk fun x=>putW t x p.1 fun t2=>ml fun y=>putW u y p.2 fun u2=>K t2 u2) (hr:∀ t2 u2,K t2 u2→rest D' ((δt t2).set j (some (.own (oK f2 eb u2))))):dSeq (dAsg te (gTp 2 (zu (gSet i tk) (zu (gSet j tl) jr)))) rest D' δ :=
  zy4 (D':={ D' with nx:=rest D' }) hk hl C h1 A h2 h3 B h4 h hr
end
section
variable {n mm N:Nat} {sp:DSp} {er:ρ→D} {eo:ρ→O} {ord:List D→List D→List D} {F:σ→σ'→(ρ→Prop)→Prop}
theorem uy (A:SA ts δ δ1 ms es) (B:SA tz' δ1 δ2 mz ez) (hl:∀ s,(es s).length=n) (hm:∀ s,(ez s).length=mm) (hN:∀ s z,(ord (es s) (ez z)).length=N) (F:σ→σ'→(ρ→Prop)→Prop) (hF:∀ s z K (Q':S→Prop),F s z K→(∀ r s',K r→s'.d=er r→Q' s')→sp (ord (es s) (ez z)) Q') :
    SE (yo n mm N sp ts tz' ord) δ δ2 (fun k=>ms fun s=>mz fun z=>F s z k) er :=
  fun K Q h c=>A _ _ h fun s hs=>B _ _ hs fun z hz=>⟨hl s,hm z,hN s z,hF s z K _ hz fun r s' hr hd=>by rw [hd]; exact c r hr⟩
end
end
section
variable {α β γ ι σ σ' ρ κ κ2:Type} {e:α→D} {ea:α→D} {eb:β→D} {ec:γ→D} {te ta tb tk tv tx tl:DE} {ts:DA} {δ δ1:Dl} {ms:(σ→Prop)→Prop} {es:σ→List D} {D':DEnds} {i:Nat} {rest:DS}
theorem zv0 (i:Nat) (e:α→D) (a:Option α) (h:δ[i]? = some (some (.fz (eO e a)))):SV (dVV i) δ δ (fun k=>unW a k) (RV e):=fun K Q ⟨x,hx,hk⟩ c=>by
  subst hx
  unfold dVV; rw [h]; exact c x _ hk rfl
theorem zxc {to:DOw} {δ':Dl} {m:(α→Prop)→Prop} {eo:α→O} {is:List Nat} (nd:is.Nodup) (hi:∀ i∈is,∃ o,δ[i]? = some (some (.own o))) (A:SOw to (zat is 0 δ) δ' m eo) (hf:∀ a,znm (eo a)):SOw (zrs is to) δ δ m eo :=
  fun K Q hm c=>⟨nd,hi,A K _ hm fun a ha=>⟨hf a,c a ha⟩⟩
theorem zxd [DecidableEq α] [h:FlatE e] {f:κ→Key} (t:List (κ×α)):znm (oK f e t):=⟨(za9 t).map h.fl,by
  have:=zby (e:=e) (za9 t)
  rw [← zos (f:=f)] at this
  exact this⟩
end
section
variable {α κ κ':Type} [DecidableEq κ] [DecidableEq κ'] {f:κ→κ'} {e:α→D} [Inj f]
theorem zgh:∀ (xs t:List (κ×α)),zx (tyG f e t) (tyG f e xs)=tyG f e (zx t xs)
  | [],t=>rfl
  | q :: xs,t=>by
    have h:=zgh xs (putG t q.1 q.2)
    rw [← zaz] at h
    exact h
end
section
variable {α κ:Type} [DecidableEq κ] {e:α→D} {ek:κ→D}
end
section
variable {α β γ ι:Type} {e:α→D} {eb:β→D} {ec:γ→D} {ed:ι→D}
end
section
variable {α β γ κ:Type} {e:α→D} {eb:β→D} {ec:γ→D}
end
section
variable {α κ:Type} {e:α→D} {δ δ1 δ2:Dl} {i:Nat} {D':DEnds} {rest:DS}
theorem ztf [DecidableEq κ] {f:κ→Key} [Inj f] {ta tb:DE} {ma mb:(List (κ×α)→Prop)→Prop} (A:SE ta δ δ1 ma (eK f e)) (B:SE tb δ1 δ2 mb (eK f e)) :
    SOw (dMrg ta tb) δ δ2 (fun k=>ma fun a=>mb fun b=>zr (a.length + b.length≤sizeLine) (k (zx (zx [] a) b))) (oK f e):=fun K Q hm c =>
  A _ _ hm fun a ha=>⟨_,rfl,B _ _ ha fun b ⟨hl,hb⟩=>⟨_,rfl,by rw [uj,uj]; exact hl,by
    have e1:zx [] (tyG f e a)=tyG f e (zx [] a):=zgh a []
    rw [e1,zgh]
    exact c _ hb⟩⟩
theorem ztg {xs:List α} {to:DOw} {m:(List α→Prop)→Prop} (h1:δ[i]? = some (some (.own (oL e xs)))) (C:SOw to δ δ1 m (oL e)) (h2:δ1[i]? = some (some (.own (oL e xs)))) {K:List α→Prop}
    (h:m fun ys=>zr (xs.length + ys.length≤sizeLine) (asgW (xs++ys) K)) (hr:∀ v,K v→D'.nx (δ1.set i (some (.own (oL e v))))):dExt i to D' δ:=by
  unfold dExt
  rw [h1]
  refine C _ _ h fun ys ⟨hl,q⟩=>?_
  rw [h2]
  refine ⟨_,rfl,by rw [List.length_map,List.length_map]; exact hl,?_⟩
  have:=hr _ q
  unfold oL at this
  rw [List.map_append] at this
  exact this
theorem zxe {xs:List α} {to:DOw} {m:(List α→Prop)→Prop} (h1:δ[i]? = some (some (.own (oL e xs)))) (C:SOw to δ δ1 m (oL e)) (h2:δ1[i]? = some (some (.own (oL e xs)))) {K:List α→Prop}
    (h:m fun ys=>zr (xs.length + ys.length≤sizeLine) (asgW (xs++ys) K)) (hr:∀ v,K v→(rest D') (δ1.set i (some (.own (oL e v))))):dSeq (dExt i to) rest D' δ:=ztg (D':={ D' with nx:=rest D' }) h1 C h2 h hr
end
section
variable {α β γ ι σ σ' ρ κ κ2:Type} {e:α→D} {ea:α→D} {eb:β→D} {ei:α→D} {te ta tb tk tv tx tl:DE} {to:DOw} {tw tz:DV} {ts tz':DA} {wi:DI} {g:DG} {δ δ0 δ1 δ2 δ3 δ4 δ5:Dl} {m ma:(α→Prop)→Prop} {mb:(β→Prop)→Prop} {D':DEnds} {i j:Nat} {rest:DS} {ms:(σ→Prop)→Prop} {es:σ→List D} {mz:(σ'→Prop)→Prop} {ez:σ'→List D}
section
variable [DecidableEq κ] {f:κ→List Key} [Inj f] {eo:α→O}
variable {K:List (κ×α)→Prop}
end
end
section
variable {α κ:Type} {e:α→D} {tw:DV} {δ δ1:Dl} {mt:(List (κ×α)→Prop)→Prop} {Rt:List (κ×α)→Vw→Prop}
end
section
variable {α β:Type} {e:α→D} {e2:β→D} {te:DE} {δ δ1:Dl} {i:Nat} {D':DEnds} {rest:DS} {m:(β→Prop)→Prop}
end
section
variable {α:Type} {e:α→D}
end
def zy5 (xs:List (List Int)):List (List Int):=xs.mergeSort fun a b=>dataLe false toPD (eT D.int a) (eT D.int b)
section
variable {α:Type} {e:α→D}
end
class CTb where
  cls:Nat→Addr
section
variable {α β γ ρ σ τ κ:Type} {e ea:α→D} {eb:β→D} {te ta tb tk tv:DE} {to:DOw} {tw:DV} {ts tz:DA} {δ δ1 δ2 δ3:Dl} {m ma:(α→Prop)→Prop} {mb:(β→Prop)→Prop} {ms:(σ→Prop)→Prop} {es:σ→List D} {D':DEnds} {rest:DS} {i n:Nat} {C a ad:Addr} {f mn:Str} {W L:Wl} {NS:List Str} {R:α→Vw→Prop}
end
section
variable {α β γ ρ σ σ' τ κ:Type} {e ea:α→D} {eb:β→D} {te ta tb tk tv:DE} {to:DOw} {tw:DV} {ts tz:DA} {t:DS} {g:DG} {δ δ1 δ2 δ3:Dl} {m ma:(α→Prop)→Prop} {mb:(β→Prop)→Prop} {ms:(σ→Prop)→Prop} {es:σ→List D} {mz:(σ'→Prop)→Prop} {ez:σ'→List D} {D':DEnds} {rest:DS} {i n:Nat} {C a ad:Addr} {f mn:Str} {W L:Wl} {NS:List Str} {R:α→Vw→Prop}
  {sp:DSpW} {spd:DSp}
variable {δ':τ→ρ→Dl} {P:τ→ρ→Prop} {er:τ→ρ→D} {mr:(ρ→Prop)→Prop} {K:ρ→Prop}
def anyD (d:D):D:=d
theorem zjr (A:SE te δ δ1 m e):SE te δ δ1 (fun k=>m fun x=>k (e x)) anyD:=fun K Q hm c=>A _ Q hm fun x hx=>c (e x) hx
end
section
variable {α β γ ρ σ σ' τ κ:Type} {e ea:α→D} {eb:β→D} {te ta tb tk tv:DE} {to:DOw} {tw:DV} {ts tz:DA} {δ δ1 δ2 δ3:Dl} {m ma:(α→Prop)→Prop} {mb:(β→Prop)→Prop} {ms:(σ→Prop)→Prop} {es:σ→List D} {D':DEnds} {rest:DS} {i n:Nat}
def SPr (trs:List (DE×DE)) (δ δ':Dl) (m:(σ→Prop)→Prop) (ps:σ→List (Key×D)):Prop:=∀ (K:σ→Prop) (Q:Dl→List (Key×D)→Prop),m K→(∀ s,K s→Q δ' (ps s))→zjc trs δ Q
theorem zq3:SPr [] δ δ (fun k=>k ()) (fun _=>[]):=fun K Q hm c=>c _ hm
theorem zov {kd:D} {k:Key} {trs:List (DE×DE)} {ps:σ→List (Key×D)} (hk:dkey kd=some k) (A:SE tv δ δ1 ma ea) (B:SPr trs δ1 δ2 ms ps):SPr ((dC kd,tv) :: trs) δ δ2 (fun c=>ma fun a=>ms fun s=>c (a,s)) (fun p=>(k,ea p.1) :: ps p.2) :=
  fun K Q hm c=>A _ _ hm fun a ha=>⟨k,hk,B _ _ ha fun s hs=>c (a,s) hs⟩
theorem zq4 {trs:List (DE×DE)} {ps:σ→List (Key×D)} (f:σ→α) (eo:α→O) (A:SPr trs δ δ1 ms ps) (hl:∀ s,(ps s).length≤15) (h:∀ s,O.dk (zx [] (ps s))=eo (f s)):SOw (znn trs) δ δ1 (fun k=>ms fun s=>k (f s)) eo :=
  fun K Q hm c=>A _ _ hm fun s hs=>⟨hl s,by rw [h]; exact c _ hs⟩
end
section
variable {X:Cx} {K:Frag} {e:Expr} {te:DE}
end
section
variable {X:Cx} {K:Frag} {e o:Expr} {pos apos:Pos} {te tk:DE}
end
end Mv
namespace Mv
open PySem PySem.Spec PyProof.Rows L2 PySem.W
section
variable {X:Cx} {K:Frag}
variable {a:Expr} {tw:DV} {pos p p2 q:Pos}
end
end Mv
namespace Mv
open PySem PySem.Spec PyProof.Rows L2
theorem ze9 {K:Frag} {x qual:Str} {st:Stmt} {f:Addr} {oc:Value} {od:Option Addr} {D:Addr} {doc pm:Value} {an:Option Addr} {cdv ct:Value} {sl:Array (Option Value)} {kws:List (Str×V)}
    (l:K.lookup f=some ⟨oc,od,.func (fnOf x qual (defArgs st) (defBody st) (defScope st) .none (.ref D) doc pm an cdv ct),sl⟩) (c:codeIn K cdv qual=true) (k:keepIn K (.ref f)=true) (q:∀ q∈kws,∃ u,nsIn K D q.1=some (some u)∧RelV q.2 u) :
    FunD K x qual (defArgs st) (defBody st) (defScope st) [] kws f (fnOf x qual (defArgs st) (defBody st) (defScope st) .none (.ref D) doc pm an cdv ct) :=
  ⟨⟨oc,od,.none,.ref D,doc,pm,an,cdv,ct,sl,rfl,l,c,.inl ⟨rfl,rfl⟩,.inr ⟨D,rfl,q⟩⟩,k⟩
section
variable {α β γ ρ σ σ' τ κ:Type} {e ea:α→D} {eb:β→D} {te ta tb tk tv:DE} {to:DOw} {tw:DV} {ts tz:DA} {t:DS} {g:DG} {δ δ1 δ2 δ3:Dl} {m ma:(α→Prop)→Prop} {mb:(β→Prop)→Prop} {ms:(σ→Prop)→Prop} {es:σ→List D} {mz:(σ'→Prop)→Prop} {ez:σ'→List D} {D':DEnds} {rest:DS} {i n N k:Nat} {C a ad:Addr} {W L:Wl}
  {sp:DSpW} {ord:List D→List D→List D}
variable {δ' δ4:τ→ρ→Dl} {P:τ→ρ→Prop} {er:τ→ρ→D} {mr:(ρ→Prop)→Prop} {K:ρ→Prop}
end
section
variable {δ δ1:Dl} {tw:DV} {R:List (List Int)→Vw→Prop} {ml:(List (List Int)→Prop)→Prop}
end
abbrev zcm:=List (Int×(Int×List Int))
abbrev Rule:=List (Int×Int)
abbrev Names:=List (Sg×Int)
structure St where
  store:zcm
  columns:Rule
  parts:List (List Int)
  named:Names
  pinned:Names
structure Bk where
  size:Int
  states:List St
  spot:Int
  depth:Int
structure Bx where
  width:Int
  states:List (zcm×Rule×Names×Names)
  place:Int
section
variable [CTb]
end
section
variable {ι J:Type} {ei:ι→D} {wi:DI} {g:DG} {tb rest:DS} {δ:Dl} {D':DEnds} {mi:(List ι→Prop)→Prop}
end
def hz (s:Option S):Option S:=match s with
  | some (.fz x)=>some (.fz x)
  | _=>none
section
variable {P:Program} {w:World} {A:Around} {E:Value→Shared→Prop} {s:Shared}
end
section
variable {X:Cx} {K:Frag}
variable {e a b c o f:Expr} {tw:DV} {pos p p2 q apos cpos pos':Pos}
end
section
variable {X:Cx} {K:Frag} {e o:Expr} {pos apos:Pos} {tw:DV} {tk:DE}
end
end Mv
namespace Mv
open PySem PySem.Spec PyProof.Rows L2 ClX
section
variable {X:Cx} {K:Frag} {e a b c o:Expr} {es:List Expr} {ta tb tc te tk tv:DE} {ts:DA} {pos p apos cpos:Pos} {C g f:Addr} {m x:Str} {n k:Nat} {sp:DSpW} {E:XK} {t1:TA}
end
end Mv
namespace Mv
open PySem PySem.Spec PyProof.Rows L2
section
variable {X:Cx} {K:Frag} {e o:Expr} {es:List Expr} {ta:TA} {x f:Str} {p p1 p2 pos:Pos} {C CB fI:Addr} {k:Nat}
end
abbrev XQ:=Addr→Str→D→Dl→Prop
abbrev DSX:=XQ→DS
section
variable {X:Cx} {K:Frag} {W:WX} {e o:Expr} {es:List Expr} {te:DE} {tc:DT} {ts:DA} {t u:DS} {tx ux:DSX} {st:Stmt} {b rest:List Stmt} {x m f y:Str} {p pos apos pos':Pos} {C g:Addr} {n k:Nat}
abbrev DSpX:=List D→Wl→(S→Prop)→(Addr→Str→D→Wl→Prop)→Prop
variable {P:Program} {w:World} {mg:Str→Option Value} {base:Heap} {qual:Str} {fa:Addr} {fd:FuncData} {N ps:List Str} {sp:DSpX}
end
section
variable {K:Frag} {F0 H0 F H:Hp} {P:Pl} {δ:Dl} {σ:L2.St} {W:Wl} {n:Nat} {sp:DSpX} {Q:VK} {E:XK} {vs:List V} {ds:List D} {Qd:Wl→S→Prop} {Xd:Addr→Str→D→Wl→Prop}
end
section
variable {X:Cx} {K:Frag} {W:WX} {e o:Expr} {es:List Expr} {te:DE} {ts:DA} {st:Stmt} {body:List Stmt} {x m f y:Str} {p pos apos pos':Pos} {C g:Addr} {n k:Nat} {sp:DSpX} {fd:FuncData} {ps:List Str} {t0:TE} {t1:TA} {s0:Sp} {E:L2.St→XK}
end
section
variable {A α:Type} {K:A→Prop} {B:(A→Prop)→Prop} {e:A→D} {tb:DSX} {D':DEnds} {rest:DS} {δ:Dl} {C CE:Addr} {f mn:Str} {i j:Nat} {te:DE} {sp:DSpX} {W:Wl} {ad:Addr} {NS:List Str}
end
section
variable {α:Type} {e:α→D} {tw:DV} {δ δ1:Dl}
end
end Mv
namespace Mv
namespace Tk
open PySem PySem.Spec PyProof.Rows L2
section
variable {R C:Type} [DecidableEq R] [DecidableEq C]
end
section
variable {ι κ α:Type} [DecidableEq κ]
theorem zgi {xs:List ι} {f:ι→κ} {v:α} {K:List (κ×α)→Prop} (hl:xs.length≤1000000) (h:∀ t:List (κ×α),(za t).Nodup→(∀ k,k∈za t↔∃ x∈xs,f x=k)→(∀ k y,valG t k=some y→y=v)→t.length≤xs.length→K t) :
    xy xs ([]:List (κ×α)) (fun x acc nx=>putW acc (f x) v nx) K:=by
  have hz:(1000000:Nat) < sizeLine:=by decide
  refine ⟨by omega,?_⟩
  refine ql (fun i (t:List (κ×α))=>(za t).Nodup∧(∀ k,k∈za t↔∃ j x,j < i∧xs[j]? = some x∧f x=k)∧(∀ k y,valG t k=some y→y=v)∧t.length≤i) ⟨.nil,by simp [za],by simp [valG],Nat.le_refl _⟩ ?_ ?_
  · intro i x t nx hx ⟨h1,h2,h3,h4⟩ hn
    have hi:=(List.getElem?_eq_some_iff.mp hx).1
    refine ⟨by omega,hn _ ⟨xk h1 _ _,fun k=>?_,fun k y hy=>?_,Nat.le_trans (vo _ _ _) (by omega)⟩⟩
    · rw [yq]
      constructor
      · intro hk
        have hk':k∈za t∨k=f x:=by
          split at hk
          · exact .inl hk
          · simpa using hk
        rcases hk' with hk | rfl
        · obtain ⟨j,y,a,b,c⟩:=(h2 k).mp hk; exact ⟨j,y,by omega,b,c⟩
        · exact ⟨i,x,by omega,hx,rfl⟩
      · rintro ⟨j,y,a,b,rfl⟩
        by_cases e:j=i
        · subst e
          rw [hx] at b; cases b
          split
          · assumption
          · simp
        · have:=(h2 (f y)).mpr ⟨j,y,by omega,b,rfl⟩
          split
          · exact this
          · simp [this]
    · rw [jm] at hy
      split at hy
      · cases hy; rfl
      · exact h3 k y hy
  · intro t ⟨h1,h2,h3,h4⟩
    refine h t h1 (fun k=>(h2 k).trans ?_) h3 h4
    constructor
    · rintro ⟨j,x,a,b,c⟩; exact ⟨x,List.mem_of_getElem? b,c⟩
    · rintro ⟨x,hx,c⟩
      obtain ⟨j,hj,e⟩:=List.mem_iff_getElem.mp hx
      exact ⟨j,x,hj,by rw [List.getElem?_eq_getElem hj,e],c⟩
end
end Tk
end Mv
namespace Mv
namespace Mt
section
variable {R C:Type} [DecidableEq R] [DecidableEq C]
structure Mat (w:R→C→Option Int) (rs:List R) (f:R→Option C):Prop where
  dom:∀ r c,f r=some c→r∈rs∧∃ x,w r c=some x
  inj:∀ r r' c,f r=some c→f r'=some c→r=r'
structure Dual (w:R→C→Option Int) (rs:List R) (u:R→Int) (p:C→Int):Prop where
  u0:∀ r,r∈rs→0≤u r
  p0:∀ c,0≤p c
  fe:∀ r,r∈rs→∀ c x,w r c=some x→x≤u r + p c
structure Cert (w:R→C→Option Int) (rs:List R) (f:R→Option C) (u:R→Int) (p:C→Int):Prop where
  mt:Mat w rs f
  du:Dual w rs u p
  ti:∀ r c x,f r=some c→w r c=some x→u r + p c=x
  un:∀ r,r∈rs→f r=none→u r=0
  fr:∀ c,(∀ r,f r≠some c)→p c=0
def val (w:R→C→Option Int) (f:R→Option C) (r:R):Int:=match f r with
  | some c=>(w r c).getD 0
  | none=>0
def V (w:R→C→Option Int) (rs:List R) (f:R→Option C):Int:=(rs.map (val w f)).sum
theorem sum_le {α:Type} {a b:α→Int}:∀ {l:List α},(∀ x,x∈l→a x≤b x)→(l.map a).sum≤(l.map b).sum
  | [],_=>by simp
  | x :: l,h=>by
    have:=sum_le (l:=l) fun y hy=>h y (by simp [hy])
    have:=h x (by simp)
    simp only [List.map_cons,List.sum_cons]; omega
theorem zcr {α:Type} {a b:α→Int}:∀ {l:List α},(l.map fun x=>a x + b x).sum=(l.map a).sum + (l.map b).sum
  | []=>by simp
  | x :: l=>by
    have:=zcr (a:=a) (b:=b) (l:=l)
    simp only [List.map_cons,List.sum_cons]; omega
theorem zl1 {α:Type} [DecidableEq α] {p:α→Int}:∀ {l:List α} {x:α},x∈l→(l.map p).sum=p x + ((l.erase x).map p).sum
  | y :: l,x,h=>by
    by_cases e:y=x
    · subst e; simp
    · have h2:x∈l:=by grind
      have:=zl1 (p:=p) h2
      rw [List.erase_cons_tail (by simpa using e)]
      simp only [List.map_cons,List.sum_cons]; omega
theorem zry {α:Type} {p:α→Int} {l:List α} (h:∀ x,x∈l→0≤p x):0≤(l.map p).sum:=by
  induction l with
  | nil=>simp
  | cons x l ih =>
    have:=ih fun y hy=>h y (by simp [hy])
    have:=h x (by simp)
    simp only [List.map_cons,List.sum_cons]; omega
theorem zh4 {α:Type} [DecidableEq α] {p:α→Int} (h0:∀ x,0≤p x):∀ {l m:List α},l.Nodup→(∀ x,x∈l→p x≠0→x∈m)→(l.map p).sum≤(m.map p).sum
  | [],m,_,_=>by simpa using zry (l:=m) fun x _=>h0 x
  | x :: l,m,nd,h=>by
    have nd':=List.nodup_cons.mp nd
    by_cases e:p x=0
    · have:=zh4 h0 (l:=l) (m:=m) nd'.2 fun y hy=>h y (by simp [hy])
      simp only [List.map_cons,List.sum_cons]; omega
    · have hx:=h x (by simp) e
      have:=zh4 h0 (l:=l) (m:=m.erase x) nd'.2 fun y hy ne=>by
        have:=h y (by simp [hy]) ne
        have:y≠x:=fun z=>nd'.1 (z ▸ hy)
        exact (List.mem_erase_of_ne this).mpr (h y (by simp [hy]) ne)
      rw [zl1 hx]
      simp only [List.map_cons,List.sum_cons]; omega
def colv (p:C→Int) (f:R→Option C) (r:R):Int:=match f r with
  | some c=>p c
  | none=>0
theorem zh5 (p:C→Int) (f:R→Option C):∀ rs:List R,(rs.map (colv p f)).sum=((rs.filterMap f).map p).sum
  | []=>by simp
  | r :: rs=>by
    have:=zh5 p f rs
    cases e:f r <;> simp [colv,e,this]
theorem zjs {w:R→C→Option Int} {rs rs':List R} {f:R→Option C} (m:Mat w rs' f):∀ {l:List R},l.Nodup→(l.filterMap f).Nodup
  | [],_=>by simp
  | r :: l,nd=>by
    have nd':=List.nodup_cons.mp nd
    have ih:=zjs (rs:=rs) m nd'.2
    cases e:f r with
    | none=>simpa [e] using ih
    | some c =>
      rw [List.filterMap_cons_some e]
      refine List.nodup_cons.mpr ⟨fun h=>?_,ih⟩
      obtain ⟨r',h1,h2⟩:=List.mem_filterMap.mp h
      exact nd'.1 (m.inj _ _ _ e h2 ▸ h1)
theorem zy6 {w:R→C→Option Int} {rs:List R} {g:R→Option C} {u:R→Int} {p:C→Int} (D:Dual w rs u p) (G:Mat w rs g):V w rs g≤(rs.map u).sum + (rs.map (colv p g)).sum:=by
  unfold V
  rw [← zcr]
  refine sum_le fun r hr=>?_
  unfold val colv
  cases e:g r with
  | none=>have:=D.u0 r hr; simp; exact this
  | some c =>
    obtain ⟨_,x,hx⟩:=G.dom r c e
    have:=D.fe r hr c x hx
    simp [hx]; exact this
theorem Cert.val {w:R→C→Option Int} {rs:List R} {f:R→Option C} {u:R→Int} {p:C→Int} (K:Cert w rs f u p):V w rs f=(rs.map u).sum + (rs.map (colv p f)).sum:=by
  unfold V
  rw [← zcr]
  congr 1
  refine List.map_congr_left fun r hr=>?_
  unfold Mt.val colv
  cases e:f r with
  | none=>have:=K.un r hr e; simp [this]
  | some c =>
    obtain ⟨_,x,hx⟩:=K.mt.dom r c e
    have:=K.ti r c x e hx
    simp [hx,this]
theorem Cert.best {w:R→C→Option Int} {rs:List R} {f g:R→Option C} {u:R→Int} {p:C→Int} (nd:rs.Nodup) (K:Cert w rs f u p) (G:Mat w rs g):V w rs g≤V w rs f:=by
  have h1:=zy6 K.du G
  have h2:=K.val
  have h3:(rs.map (colv p g)).sum≤(rs.map (colv p f)).sum:=by
    rw [zh5,zh5]
    refine zh4 K.du.p0 (zjs (rs:=rs) G nd) fun c hc ne=>?_
    cases h:(rs.filterMap f).contains c with
    | true=>simpa using h
    | false =>
      exfalso
      refine ne (K.fr c fun r e=>?_)
      have:c∈rs.filterMap f:=List.mem_filterMap.mpr ⟨r,(K.mt.dom r c e).1,e⟩
      simp at h
      simp at this
      obtain ⟨a,b,c⟩:=this
      exact h a b c
  omega
end
section
variable {R C:Type} [DecidableEq R] [DecidableEq C]
def set1 {α β:Type} [DecidableEq α] (f:α→β) (a:α) (b:β):α→β:=fun x=>if x=a then b else f x
inductive Ends (m f:R→Option C):Nat→R→Prop
  | stop {r:R}:m r=none→Ends m f 0 r
  | free {r:R} {c:C}:m r=some c→(∀ o,f o≠some c)→Ends m f 0 r
  | step {n:Nat} {r o:R} {c:C}:m r=some c→f o=some c→Ends m f n o→Ends m f (n + 1) r
structure Ctx (w:R→C→Option Int) (rs:List R) (z:R) (f:R→Option C) (u:R→Int) (p:C→Int):Prop where
  mt:Mat w rs f
  du:Dual w rs u p
  ti:∀ r c x,f r=some c→w r c=some x→u r + p c=x
  un:∀ r,r∈rs→r≠z→f r=none→u r=0
  fr:∀ c,(∀ r,f r≠some c)→p c=0
  zn:f z=none
structure Inv (w:R→C→Option Int) (rs:List R) (f:R→Option C) (u:R→Int) (p:C→Int) (g:R→Int) (m:R→Option C):Prop where
  g0:∀ r,r∈rs→0≤g r
  gu:∀ r,r∈rs→g r≤u r
  mz:∀ r,r∈rs→m r=none→g r=0
  mr:∀ r c,m r=some c→r∈rs∧f r≠some c
  mf:∀ r c x,m r=some c→w r c=some x→(∀ o,f o≠some c)→g r=x
  mo:∀ r c x o y,m r=some c→w r c=some x→f o=some c→w o c=some y→g r≤x + g o - y
  mw:∀ r c,m r=some c→∃ x,w r c=some x
  en:∀ r,r∈rs→∃ n,Ends m f n r
theorem Inv.start {w:R→C→Option Int} {rs:List R} {z:R} {f:R→Option C} {u:R→Int} {p:C→Int} (X:Ctx w rs z f u p):Inv w rs f u p (fun _=>0) (fun _=>none) where
  g0:=by simp
  gu:=X.du.u0
  mz:=by simp
  mr:=by simp
  mf:=by simp
  mo:=by simp
  mw:=by simp
  en:=fun r _=>⟨0,.stop rfl⟩
def vz (w:R→C→Option Int) (g:R→Int) (x:Int) (c:C):Option R→Int
  | none=>x
  | some o=>x + g o - (w o c).getD 0
theorem Inv.gain_le {w:R→C→Option Int} {rs:List R} {z:R} {f:R→Option C} {u:R→Int} {p:C→Int} {g:R→Int} {m:R→Option C} (X:Ctx w rs z f u p) (I:Inv w rs f u p g m) {r:R} {c:C} {x:Int} (hr:r∈rs) (hx:w r c=some x) {o:Option R} (ho:∀ a,o=some a↔f a=some c) :
    vz w g x c o≤u r∧∀ a,o=some a→u a - g a≤u r - vz w g x c o:=by
  have h1:=X.du.fe r hr c x hx
  cases o with
  | none =>
    have:=X.fr c fun a e=>by have:=(ho a).mpr e; simp at this
    simp [vz]; omega
  | some a =>
    have fa:=(ho a).mp rfl
    obtain ⟨ha,y,hy⟩:=X.mt.dom a c fa
    have h2:=X.ti a c y fa hy
    have h3:=I.gu a ha
    refine ⟨by simp [vz,hy]; omega,fun b e=>by cases e; simp [vz,hy]; omega⟩
theorem Ends.set {w:R→C→Option Int} {rs:List R} {z:R} {f:R→Option C} {u:R→Int} {p:C→Int} {g:R→Int} {m:R→Option C} (X:Ctx w rs z f u p) (I:Inv w rs f u p g m) {r:R} {c:C}:∀ {n a},Ends m f n a→u a - g a < u r - g r→∃ n,Ends (set1 m r (some c)) f n a:=by
  intro n a h
  induction h with
  | @stop a h =>
    intro lt
    have ne:a≠r:=fun e=>by subst e; omega
    exact ⟨0,.stop (by simp [set1,ne,h])⟩
  | @free a c' h hf =>
    intro lt
    have ne:a≠r:=fun e=>by subst e; omega
    exact ⟨0,.free (c:=c') (by simp [set1,ne,h]) hf⟩
  | @step n a o c' h hf _ ih =>
    intro lt
    have ne:a≠r:=fun e=>by subst e; omega
    obtain ⟨x,hx⟩:=I.mw a c' h
    obtain ⟨ho,y,hy⟩:=X.mt.dom o c' hf
    have h1:=I.mo a c' x o y h hx hf hy
    have h2:=X.du.fe a (I.mr a c' h).1 c' x hx
    have h3:=X.ti o c' y hf hy
    obtain ⟨k,hk⟩:=ih (by omega)
    exact ⟨k + 1,.step (by simp [set1,ne,h]) hf hk⟩
theorem Inv.step {w:R→C→Option Int} {rs:List R} {z:R} {f:R→Option C} {u:R→Int} {p:C→Int} {g:R→Int} {m:R→Option C} (X:Ctx w rs z f u p) (I:Inv w rs f u p g m) {r:R} {c:C} {x:Int} (hr:r∈rs) (hx:w r c=some x) {o:Option R} (ho:∀ a,o=some a↔f a=some c) (hn:f r≠some c) (hg:g r < vz w g x c o) :
    Inv w rs f u p (set1 g r (vz w g x c o)) (set1 m r (some c)):=by
  obtain ⟨h1,h2⟩:=I.gain_le X hr hx ho
  have g0:=I.g0 r hr
  refine ⟨fun a ha=>?_,fun a ha=>?_,fun a ha=>?_,fun a c'=>?_,fun a c' y=>?_,fun a c' y b v=>?_,fun a c'=>?_,?_⟩
  · have:=I.g0 a ha; unfold set1; split <;> omega
  · have:=I.gu a ha; unfold set1; split
    · rename_i e; subst e; exact h1
    · exact this
  · have:=I.mz a ha; unfold set1; split <;> simp_all
  · have:=I.mr a c'; unfold set1; split
    · rename_i e; intro q; cases q; subst e; exact ⟨hr,hn⟩
    · exact this
  · have:=I.mf a c' y; unfold set1; split
    · rename_i e; intro q e2 e3; cases q; subst e
      rw [hx] at e2; cases e2
      cases o with
      | none=>rfl
      | some b=>exact absurd ((ho b).mp rfl) (e3 b)
    · exact this
  · have:=I.mo a c' y b v; unfold set1
    by_cases e:a=r
    · subst e
      simp only [if_true]
      intro q e2 e3 e4; cases q
      have hb:o=some b:=(ho b).mpr e3
      have ne:b≠a:=fun e=>by subst e; exact hn e3
      rw [hx] at e2; cases e2
      subst hb
      simp [vz,e4,ne]
    · simp only [e,if_false]
      intro q e2 e3 e4
      have:=this q e2 e3 e4
      split
      · rename_i e; subst e; omega
      · exact this
  · have:=I.mw a c'; unfold set1; split
    · rename_i e; intro q; cases q; subst e; exact ⟨x,hx⟩
    · exact this
  · have er:∃ n,Ends (set1 m r (some c)) f n r:=by
      cases o with
      | none=>exact ⟨0,.free (c:=c) (by simp [set1]) fun b e=>by have:=(ho b).mpr e; simp at this⟩
      | some b =>
        have fb:=(ho b).mp rfl
        obtain ⟨n,hn⟩:=I.en b (X.mt.dom b c fb).1
        obtain ⟨k,hk⟩:=Ends.set (c:=c) (r:=r) X I hn (by have:=h2 b rfl; omega)
        exact ⟨k + 1,.step (by simp [set1]) fb hk⟩
    intro a ha
    obtain ⟨n,hn⟩:=I.en a ha
    clear ha
    induction hn with
    | @stop a h =>
      by_cases e:a=r
      · subst e; exact er
      · exact ⟨0,.stop (by simp [set1,e,h])⟩
    | @free a c' h hf =>
      by_cases e:a=r
      · subst e; exact er
      · exact ⟨0,.free (c:=c') (by simp [set1,e,h]) hf⟩
    | @step n a o c' h hf _ ih =>
      by_cases e:a=r
      · subst e; exact er
      · obtain ⟨k,hk⟩:=ih
        exact ⟨k + 1,.step (by simp [set1,e,h]) hf hk⟩
def Fix (w:R→C→Option Int) (rs:List R) (f:R→Option C) (g:R→Int):Prop :=
  ∀ r,r∈rs→∀ c x o,w r c=some x→f r≠some c→(∀ a,o=some a↔f a=some c)→vz w g x c o≤g r
structure Pr (w:R→C→Option Int) (f:R→Option C) (g:R→Int) (q:C→Int):Prop where
  ow:∀ c o y,f o=some c→w o c=some y→q c=y - g o
  fr:∀ c,(∀ o,f o≠some c)→q c=0
theorem zu9 {m f:R→Option C} (inj:∀ r r' c,f r=some c→f r'=some c→r=r'):∀ {n k:Nat} {r:R},Ends m f n r→Ends m f k r→n=k:=by
  intro n k r h
  induction h generalizing k with
  | stop h=>intro q; cases q <;> simp_all
  | free h hf=>intro q; cases q <;> simp_all
  | @step n r o c h hf _ ih =>
    intro q
    cases q with
    | stop h'=>simp_all
    | free h' hf'=>simp_all
    | @step k _ o' c' h' hf' q =>
      rw [h] at h'; cases h'
      have:=inj _ _ _ hf hf'
      subst this
      rw [ih q]
structure Mov (w:R→C→Option Int) (rs:List R) (f m:R→Option C) (g:R→Int) (q:C→Int) (F:R→Option C) (O:C→Option R) (n:Nat) (a:R):Prop where
  ra:a∈rs
  en:Ends m f n a
  ori:∀ c,(∀ r,O c=some r↔f r=some c)∨∃ o k,f o=some c∧Ends m f k o∧n≤k
  inv:∀ r c,O c=some r↔(r≠a∧F r=some c)
  ent:∀ r c,r≠a→F r=some c→r∈rs∧∃ x,w r c=some x∧g r + q c=x
  un:∀ r,r∈rs→r≠a→F r=none→g r=0
  cov:∀ r c,f r=some c→∃ o,O c=some o
theorem Pr.exists (w:R→C→Option Int) (f:R→Option C) (g:R→Int) (inj:∀ r r' c,f r=some c→f r'=some c→r=r') (hw:∀ r c,f r=some c→∃ x,w r c=some x):∃ q,Pr w f g q:=by
  refine ⟨fun c=>open Classical in if h:∃ o,f o=some c then (w (choose h) c).getD 0 - g (choose h) else 0,fun c o y h1 h2=>?_,fun c h=>?_⟩
  · have h:∃ o,f o=some c:=⟨o,h1⟩
    have e:Classical.choose h=o:=inj _ _ _ (Classical.choose_spec h) h1
    simp only [dif_pos h,e,h2,Option.getD_some]
  · have:¬ ∃ o,f o=some c:=fun ⟨o,h1⟩=>h o h1
    simp only [dif_neg this]
section
variable {w:R→C→Option Int} {rs:List R} {z:R} {f:R→Option C} {u:R→Int} {p:C→Int} {g:R→Int} {m:R→Option C} {q:C→Int} {F:R→Option C} {O:C→Option R} {n:Nat} {a:R}
theorem Pr.du (X:Ctx w rs z f u p) (I:Inv w rs f u p g m) (Z:Fix w rs f g) (P:Pr w f g q):Dual w rs g q:=by
  have p0:∀ c,0≤q c:=fun c=>by
    by_cases h:∃ o,f o=some c
    · obtain ⟨o,h⟩:=h
      obtain ⟨ho,y,hy⟩:=X.mt.dom o c h
      have h1:=P.ow c o y h hy
      have h2:=X.ti o c y h hy
      have h3:=I.gu o ho
      have h4:=X.du.p0 c
      omega
    · have:=P.fr c fun o e=>h ⟨o,e⟩
      omega
  refine ⟨I.g0,p0,fun r hr c x hx=>?_⟩
  by_cases h:f r=some c
  · have:=P.ow c r x h hx; omega
  · by_cases h2:∃ o,f o=some c
    · obtain ⟨o,h2⟩:=h2
      obtain ⟨ho,y,hy⟩:=X.mt.dom o c h2
      have h3:=Z r hr c x (some o) hx h fun a=>⟨fun e=>(by cases e; exact h2),fun e=>by rw [X.mt.inj _ _ _ e h2]⟩
      have h1:=P.ow c o y h2 hy
      simp [vz,hy] at h3
      omega
    · have h3:=Z r hr c x none hx h fun a=>⟨fun e=>(by cases e),fun e=>absurd ⟨a,e⟩ h2⟩
      have:=P.fr c fun o e=>h2 ⟨o,e⟩
      simp [vz] at h3
      omega
theorem Mov.start (X:Ctx w rs z f u p) (I:Inv w rs f u p g m) (P:Pr w f g q) (hz:z∈rs) (hO:∀ r c,O c=some r↔f r=some c):∃ n,Mov w rs f m g q f O n z:=by
  obtain ⟨n,hn⟩:=I.en z hz
  refine ⟨n,hz,hn,fun c=>.inl fun r=>hO r c,fun r c=>?_,fun r c ne h=>?_,fun r hr ne h=>?_,fun r c h=>⟨r,(hO r c).mpr h⟩⟩
  · rw [hO]
    refine ⟨fun h=>⟨fun e=>?_,h⟩,fun h=>h.2⟩
    subst e; rw [X.zn] at h; cases h
  · obtain ⟨h1,x,hx⟩:=X.mt.dom r c h
    have:=P.ow c r x h hx
    exact ⟨h1,x,hx,by omega⟩
  · have h1:=X.un r hr ne h
    have h2:=I.gu r hr
    have h3:=I.g0 r hr
    omega
theorem Mov.step (X:Ctx w rs z f u p) (I:Inv w rs f u p g m) (Z:Fix w rs f g) (P:Pr w f g q) (M:Mov w rs f m g q F O n a) {c:C} (hm:m a=some c) :
    (O c=none∧(∀ r c',set1 O c (some a) c'=some r↔set1 F a (some c) r=some c')∧Cert w rs (set1 F a (some c)) g q) ∨
    (∃ o k,O c=some o∧n=k + 1∧Mov w rs f m g q (set1 F a (some c)) (set1 O c (some a)) k o):=by
  obtain ⟨x,hx⟩:=I.mw a c hm
  have hr:=(I.mr a c hm)
  have D:=Pr.du X I Z P
  cases M.en with
  | stop h=>rw [hm] at h; cases h
  | @free _ c' h hf =>
    rw [hm] at h; cases h
    have oc:O c=none:=by
      rcases M.ori c with h | ⟨o,k,h,_⟩
      · cases e:O c with
        | none=>rfl
        | some r=>exact absurd ((h r).mp e) (hf r)
      · exact absurd h (hf o)
    have inv:∀ r c',set1 O c (some a) c'=some r↔set1 F a (some c) r=some c':=fun r c'=>by
      have:=M.inv r c'
      have hc:=M.inv r c
      unfold set1
      by_cases e1:c'=c <;> by_cases e2:r=a <;> grind
    have tight:g a + q c=x:=by
      have h1:=I.mf a c x hm hx hf
      have h2:=P.fr c hf
      omega
    refine .inl ⟨oc,inv,⟨⟨fun r c' e=>?_,fun r r' c' e e'=>?_⟩,D,fun r c' y e hy=>?_,fun r hr' e=>?_,fun c' h=>?_⟩⟩
    · by_cases e2:r=a
      · subst e2; simp [set1] at e; subst e; exact ⟨hr.1,x,hx⟩
      · simp [set1,e2] at e
        obtain ⟨h1,y,hy,_⟩:=M.ent r c' e2 e
        exact ⟨h1,y,hy⟩
    · have h1:=(inv r c').mpr e
      have h2:=(inv r' c').mpr e'
      rw [h1] at h2; exact Option.some.inj h2
    · by_cases e2:r=a
      · subst e2; simp [set1] at e; subst e; rw [hx] at hy; cases hy; exact tight
      · simp [set1,e2] at e
        obtain ⟨h1,y',hy',e3⟩:=M.ent r c' e2 e
        rw [hy'] at hy; cases hy; exact e3
    · by_cases e2:r=a
      · subst e2; simp [set1] at e
      · simp [set1,e2] at e
        exact M.un r hr' e2 e
    · refine P.fr c' fun o ho=>?_
      obtain ⟨b,hb⟩:=M.cov o c' ho
      have h2:set1 O c (some a) c'≠none:=by unfold set1; split <;> simp [hb]
      cases e:set1 O c (some a) c' with
      | none=>exact h2 e
      | some r=>exact h r ((inv r c').mp e)
  | @step k _ o c' h hf hE =>
    rw [hm] at h; cases h
    have oc:O c=some o:=by
      rcases M.ori c with h | ⟨o',j,h,hj,le⟩
      · exact (h o).mpr hf
      · have:=X.mt.inj _ _ _ h hf
        subst this
        have:=zu9 X.mt.inj hj hE
        omega
    have fo:=(M.inv o c).mp oc
    obtain ⟨ho,y,hy⟩:=X.mt.dom o c hf
    have tight:g a + q c=x:=by
      have h1:=I.mo a c x o y hm hx hf hy
      have h2:=P.ow c o y hf hy
      have h3:=D.fe a hr.1 c x hx
      omega
    refine .inr ⟨o,k,oc,rfl,⟨ho,hE,fun c'=>?_,fun r c'=>?_,fun r c' ne e=>?_,fun r hr' ne e=>?_,fun r c' e=>?_⟩⟩
    · by_cases e:c'=c
      · subst e; exact .inr ⟨o,k,hf,hE,Nat.le_refl _⟩
      · rcases M.ori c' with h | ⟨o',j,h1,h2,h3⟩
        · exact .inl fun r=>by simp only [set1,if_neg e]; exact h r
        · exact .inr ⟨o',j,h1,h2,by omega⟩
    · have h1:=M.inv r c'
      have h2:=M.inv r c
      have h3:=M.inv o c'
      unfold set1
      by_cases e1:c'=c <;> by_cases e2:r=a <;> by_cases e3:r=o <;> grind
    · by_cases e2:r=a
      · subst e2; simp [set1] at e; subst e; exact ⟨hr.1,x,hx,tight⟩
      · simp [set1,e2] at e
        exact M.ent r c' e2 e
    · by_cases e2:r=a
      · subst e2; simp [set1] at e
      · simp [set1,e2] at e
        exact M.un r hr' e2 e
    · obtain ⟨b,hb⟩:=M.cov r c' e
      unfold set1
      split
      · exact ⟨a,rfl⟩
      · exact ⟨b,hb⟩
theorem Mov.stop (X:Ctx w rs z f u p) (I:Inv w rs f u p g m) (Z:Fix w rs f g) (P:Pr w f g q) (M:Mov w rs f m g q F O n a) (hm:m a=none) :
    (∀ r c',O c'=some r↔set1 F a none r=some c')∧Cert w rs (set1 F a none) g q:=by
  have inv:∀ r c',O c'=some r↔set1 F a none r=some c':=fun r c'=>by
    have:=M.inv r c'
    unfold set1
    by_cases e2:r=a <;> grind
  refine ⟨inv,⟨⟨fun r c' e=>?_,fun r r' c' e e'=>?_⟩,Pr.du X I Z P,fun r c' y e hy=>?_,fun r hr' e=>?_,fun c' h=>?_⟩⟩
  · by_cases e2:r=a
    · subst e2; simp [set1] at e
    · simp [set1,e2] at e
      obtain ⟨h1,y,hy,_⟩:=M.ent r c' e2 e
      exact ⟨h1,y,hy⟩
  · have h1:=(inv r c').mpr e
    have h2:=(inv r' c').mpr e'
    rw [h1] at h2; exact Option.some.inj h2
  · by_cases e2:r=a
    · subst e2; simp [set1] at e
    · simp [set1,e2] at e
      obtain ⟨h1,y',hy',e3⟩:=M.ent r c' e2 e
      rw [hy'] at hy; cases hy; exact e3
  · by_cases e2:r=a
    · subst e2; exact I.mz r hr' hm
    · simp [set1,e2] at e
      exact M.un r hr' e2 e
  · refine P.fr c' fun o ho=>?_
    obtain ⟨b,hb⟩:=M.cov o c' ho
    exact h b ((inv b c').mp hb)
end
end
section
variable {R C:Type} [DecidableEq R] [DecidableEq C]
variable {w:R→C→Option Int} {rs:List R} {z:R} {f:R→Option C} {u:R→Int} {p:C→Int} {g:R→Int} {m:R→Option C}
def room (rs:List R) (u g:R→Int):Nat:=(rs.map fun r=>u r - g r).sum.toNat
theorem owner (f:R→Option C) (inj:∀ r r' c,f r=some c→f r'=some c→r=r') (c:C):∃ o:Option R,∀ a,o=some a↔f a=some c:=by
  by_cases h:∃ a,f a=some c
  · obtain ⟨a,h⟩:=h
    exact ⟨some a,fun b=>⟨fun e=>by cases e; exact h,fun e=>by rw [inj _ _ _ e h]⟩⟩
  · exact ⟨none,fun b=>⟨fun e=>(by cases e),fun e=>absurd ⟨b,e⟩ h⟩⟩
theorem owners (f:R→Option C) (inj:∀ r r' c,f r=some c→f r'=some c→r=r'):∃ O:C→Option R,∀ r c,O c=some r↔f r=some c :=
  ⟨fun c=>Classical.choose (owner f inj c),fun r c=>Classical.choose_spec (owner f inj c) r⟩
def zba (w:R→C→Option Int) (cs:List C):Prop:=∀ r c x,w r c=some x→c∈cs
theorem zjt (a:C→Int):∀ cs:List C,∃ b:Int,0≤b∧∀ c,c∈cs→a c≤b
  | []=>⟨0,Int.le_refl _,by simp⟩
  | c :: cs=>by
    obtain ⟨b,h0,h⟩:=zjt a cs
    refine ⟨if a c≤b then b else a c,by split <;> omega,fun d hd=>?_⟩
    rcases List.mem_cons.mp hd with e | e
    · subst e; split <;> omega
    · have:=h d e; split <;> omega
theorem Cert.ctx {cs:List C} (hl:zba w cs) (K:Cert w rs f u p) (hz:z ∉ rs):∃ u',Ctx w (rs++[z]) z f u' p:=by
  obtain ⟨b,b0,hb⟩:=zjt (fun c=>(w z c).getD 0 - p c) cs
  have fz:f z=none:=by
    cases e:f z with
    | none=>rfl
    | some c=>exact absurd (K.mt.dom z c e).1 hz
  refine ⟨set1 u z b,⟨fun r c e=>?_,K.mt.inj⟩,⟨fun r hr=>?_,K.du.p0,fun r hr c x hx=>?_⟩,fun r c x e hx=>?_,fun r hr ne e=>?_,K.fr,fz⟩
  · obtain ⟨h1,h2⟩:=K.mt.dom r c e
    exact ⟨by simp [h1],h2⟩
  · unfold set1
    split
    · exact b0
    · rename_i ne; exact K.du.u0 r (by simpa [ne] using hr)
  · unfold set1
    split
    · rename_i e; subst e
      have:=hb c (hl _ _ _ hx)
      simp [hx] at this
      omega
    · rename_i ne; exact K.du.fe r (by simpa [ne] using hr) c x hx
  · have ne:r≠z:=fun e2=>by subst e2; rw [fz] at e; cases e
    simp only [set1,if_neg ne]
    exact K.ti r c x e hx
  · simp only [set1,if_neg ne]
    exact K.un r (by simpa [ne] using hr) e
end
section
variable {R C:Type} [DecidableEq R] [DecidableEq C]
variable {w:R→C→Option Int} {rs:List R} {z:R} {f F:R→Option C} {u:R→Int} {p:C→Int} {g:R→Int} {m:R→Option C} {q:C→Int}
structure PInv (w:R→C→Option Int) (rs:List R) (f:R→Option C) (pr:C→Int):Prop where
  p0:∀ c,0≤pr c
  le:∀ u p,Cert w rs f u p→∀ c,pr c≤p c
def zq5 (w:R→C→Option Int) (f:R→Option C) (pr:C→Int) (r:R) (x:Int):Int:=match f r with
  | some c=>x + pr c - (w r c).getD 0
  | none=>x
def PFix (w:R→C→Option Int) (rs:List R) (f:R→Option C) (pr:C→Int):Prop:=∀ r,r∈rs→∀ c x,w r c=some x→zq5 w f pr r x≤pr c
def worthOf (w:R→C→Option Int) (f:R→Option C) (pr:C→Int) (r:R):Int:=match f r with
  | some c=>(w r c).getD 0 - pr c
  | none=>0
def wOut (w:R→C→Option Int) (z:R):R→C→Option Int:=fun r c=>if r=z then none else w r c
theorem Cert.perm {rs':List R} (h:rs.Perm rs') (K:Cert w rs f u p):Cert w rs' f u p :=
  ⟨⟨fun r c e=>⟨h.mem_iff.mp (K.mt.dom r c e).1,(K.mt.dom r c e).2⟩,K.mt.inj⟩,⟨fun r hr=>K.du.u0 r (h.mem_iff.mpr hr),K.du.p0,fun r hr=>K.du.fe r (h.mem_iff.mpr hr)⟩,K.ti,fun r hr=>K.un r (h.mem_iff.mpr hr),K.fr⟩
end
end Mt
end Mv
namespace Mv
namespace Tk
open PySem PySem.Spec PyProof.Rows L2
open Mt (Cert PInv PFix zq5 worthOf set1 Mat)
section
variable {R C:Type} [DecidableEq R] [DecidableEq C]
def tb (t:List ((R×C)×Int)):R→C→Option Int:=fun r c=>valG t (r,c)
def fn {κ α:Type} [DecidableEq κ] (t:List (κ×α)):κ→Option α:=fun k=>valG t k
def pv (t:List (C×Int)):C→Int:=fun c=>(valG t c).getD 0
theorem zow (t:List (C×Int)) (c:C) (x:Int):pv (putG t c x)=set1 (pv t) c x:=by
  funext d
  unfold pv set1
  rw [jm]
  split <;> rfl
def rm (cs:List C) (p q:C→Int):Nat:=(cs.map fun c=>(p c - q c).toNat).sum
theorem zth {p q:C→Int} {c:C} {x:Int}:∀ {cs:List C},cs.Nodup→c∈cs→q c < x→x≤p c→rm cs p (set1 q c x) < rm cs p q
  | d :: cs,nd,hc,h1,h2=>by
    obtain ⟨n1,n2⟩:=List.nodup_cons.mp nd
    have no:∀ cs:List C,c ∉ cs→rm cs p (set1 q c x)=rm cs p q:=by
      intro cs h
      unfold rm
      congr 1
      refine List.map_congr_left fun e he=>?_
      have:e≠c:=fun z=>h (z ▸ he)
      simp [set1,this]
    rcases List.mem_cons.mp hc with e | hc
    · subst e
      have h3:=no cs n1
      unfold rm at h3 ⊢
      rw [List.map_cons,List.map_cons,List.sum_cons,List.sum_cons,h3]
      have e1:set1 q c x c=x:=if_pos rfl
      rw [e1]
      omega
    · have h3:=zth (p:=p) n2 hc h1 h2
      have:d≠c:=fun z=>n1 (z ▸ hc)
      unfold rm at h3 ⊢
      rw [List.map_cons,List.map_cons,List.sum_cons,List.sum_cons]
      simp only [set1,if_neg this] at h3 ⊢
      omega
end
section
variable {R C:Type} [DecidableEq R] [DecidableEq C] {entries:List ((R×C)×Int)} {pairs:List (R×C)} {rs:List R} {u:R→Int} {p:C→Int}
theorem has_iff {κ α:Type} [DecidableEq κ] {t:List (κ×α)} {k:κ}:hasG t k=true↔k∈za t:=valG_key.symm
end
section
variable {R C:Type} [DecidableEq R] [DecidableEq C] {entries:List ((R×C)×Int)} {pairs:List (R×C)} {rs:List R} {u:R→Int} {p:C→Int}
end
end Tk
end Mv
namespace Mv
namespace Tk
open PySem PySem.Spec PyProof.Rows L2
section
variable {R C:Type} [DecidableEq R] [DecidableEq C]
def reW (ks:List (R×C)) (entries:List ((R×C)×Int)) (Q:List (R×List (C×Int))→Prop):Prop :=
 asgW ([]:List (R×List (C×Int))) fun found =>
 zr (entries.length≤16777216) <| qm ks found (fun (x_:R×C) (found2:List (R×List (C×Int))) nxt =>
   sdfW found2 x_.1 ([]:List (C×Int)) fun found3 =>
   getW entries x_ fun t_=>getW found3 x_.1 fun row=>putW row x_.2 t_ fun row1=>asgW (putG found3 x_.1 row1) fun found4 =>
   nxt found4) (fun (found1:List (R×List (C×Int))) =>
   retW found1 Q)
def bmW (rows:List (R×List (C×Int))) (pairs:List (R×C)) (owners:List (C×R)) (Q:List (R×C)→Prop):Prop :=
 xy (za rows) ([]:List (R×Int)) (fun (x_:R) (acc:List (R×Int)) (nxt:List (R×Int)→Prop)=>putW acc x_ (0:Int) nxt) fun t_=>asgW t_ fun gains =>
 asgW ([]:List (R×C)) fun moves =>
 asgW true fun is_changed =>
 zcq gains moves is_changed (fun (gains2:List (R×Int)) (moves2:List (R×C)) (is_changed2:Bool) k_=>k_ is_changed2) (fun (gains2:List (R×Int)) (moves2:List (R×C)) (is_changed2:Bool) nxt1 =>
   asgW false fun is_changed3 =>
   zap rows gains2 moves2 is_changed3 (fun (x_1:R×List (C×Int)) (gains4:List (R×Int)) (moves4:List (R×C)) (is_changed5:Bool) nxt2 =>
     zap x_1.2 gains4 moves4 is_changed5 (fun (x_2:C×Int) (gains6:List (R×Int)) (moves6:List (R×C)) (is_changed7:Bool) nxt3 =>
       asgW x_2.2 fun gain =>
       ze6 (fun (gain1:Int) =>
         getW gains6 x_1.1 fun t_5=>ifW ((decide (t_5 < gain1)) && (!eqB (valG pairs x_1.1) (some x_2.1)))
          (putW gains6 x_1.1 (gain1,x_2.1).1 fun gains7=>putW moves6 x_1.1 (gain1,x_2.1).2 fun moves7 =>
           asgW true fun is_changed8 =>
           nxt3 gains7 moves7 is_changed8)
          (nxt3 gains6 moves6 is_changed7)) fun cont =>
       ifW (hasG owners x_2.1)
        (getW owners x_2.1 fun t_1=>asgW t_1 fun other =>
       getW gains6 other fun t_2=>getW rows other fun t_3=>getW t_3 x_2.1 fun t_4=>asgW (gain + (t_2 - t_4)) fun gain2 =>
       cont gain2)
        (cont gain)) (fun (gains5:List (R×Int)) (moves5:List (R×C)) (is_changed6:Bool) =>
       nxt2 gains5 moves5 is_changed6)) (fun (gains3:List (R×Int)) (moves3:List (R×C)) (is_changed4:Bool) =>
     nxt1 gains3 moves3 is_changed4)) (fun (gains1:List (R×Int)) (moves1:List (R×C)) (is_changed1:Bool) =>
   retW moves1 Q)
def gpW (ks:List (R×C)) (entries:List ((R×C)×Int)) (Q:List (R×C)→Prop):Prop :=
 reW ks entries fun t_=>asgW t_ fun every =>
 znp ([]:List (R×List (C×Int))) ([]:List (R×C)) ([]:List (C×R)) fun rows pairs owners =>
 zap every rows pairs owners (fun (x_:R×List (C×Int)) (rows2:List (R×List (C×Int))) (pairs2:List (R×C)) (owners2:List (C×R)) nxt =>
   putW rows2 x_.1 x_.2 fun rows3 =>
   bmW rows3 pairs2 owners2 fun t_1=>asgW t_1 fun moves =>
   asgW (some x_.1) fun row =>
   zcq pairs2 owners2 row (fun (pairs4:List (R×C)) (owners4:List (C×R)) (row2:Option R) k_=>k_ (inN moves row2)) (fun (pairs4:List (R×C)) (owners4:List (C×R)) (row2:Option R) nxt1 =>
     unW row2 fun t_2=>getW moves t_2 fun t_3=>asgW t_3 fun column =>
     asgW (valG owners4 column) fun other =>
     unW row2 fun t_4=>unW row2 fun t_5=>putW pairs4 t_5 (column,t_4).1 fun pairs5=>putW owners4 column (column,t_4).2 fun owners5 =>
     asgW other fun row3 =>
     nxt1 pairs5 owners5 row3) (fun (pairs3:List (R×C)) (owners3:List (C×R)) (row1:Option R) =>
     asgW (zjq pairs3 row1) fun pairs6 =>
     nxt rows3 pairs6 owners3)) (fun (rows1:List (R×List (C×Int))) (pairs1:List (R×C)) (owners1:List (C×R)) =>
   retW pairs1 Q)
end
end Tk
end Mv
namespace Mv
namespace Tk
open PySem PySem.Spec PyProof.Rows L2
open Mt (Cert Ctx Inv Fix vz set1 Mat)
section
variable {R C:Type} [DecidableEq R] [DecidableEq C] {rows:List (R×List (C×Int))} {pairs:List (R×C)} {owners:List (C×R)} {u:R→Int} {p:C→Int} {z:R}
theorem zav {α:Type} [DecidableEq α]:∀ {l m:List α},l.Nodup→(∀ x∈l,x∈m)→l.length≤m.length
  | [],m,_,_=>Nat.zero_le _
  | x :: l,m,nd,h=>by
    obtain ⟨n1,n2⟩:=List.nodup_cons.mp nd
    have hx:=h x (by simp)
    have:=zav (m:=m.erase x) n2 fun y hy=>(List.mem_erase_of_ne (show y≠x from fun e=>n1 (e ▸ hy))).mpr (h y (by simp [hy]))
    rw [List.length_erase_of_mem hx] at this
    have h0:0 < m.length:=List.length_pos_of_mem hx
    simp only [List.length_cons]; omega
def nb (rows:List (R×List (C×Int))):R→C→Option Int:=fun r c=>(valG rows r).bind fun t=>valG t c
theorem zek {κ α:Type} [DecidableEq κ] (t:List (κ×α)) (k:κ) (v:α):fn (putG t k v)=set1 (fn t) k (some v):=by
  funext d
  unfold fn set1
  rw [jm]
theorem zz4 {Q:List (R×C)→Prop} (nd:(za rows).Nodup) (hl:rows.length≤1000000) (ni:∀ q∈rows,(za q.2).Nodup) (X:Ctx (nb rows) (za rows) z (fn pairs) u p) (ho:∀ r c,fn owners c=some r↔fn pairs r=some c)
    (h:∀ (moves:List (R×C)) (g:R→Int),Inv (nb rows) (za rows) (fn pairs) u p g (fn moves)→Fix (nb rows) (za rows) (fn pairs) g→Q moves):bmW rows pairs owners Q:=by
  have hz:(1000000:Nat) < sizeLine:=by decide
  have lk:(za rows).length=rows.length:=by simp [za]
  refine zgi (f:=fun x:R=>x) (by rw [lk]; exact hl) fun t0 h1 h2 h3 h4=>?_
  have dom:∀ r,r∈za t0↔r∈za rows:=fun r=>(h2 r).trans ⟨fun ⟨x,hx,e⟩=>e ▸ hx,fun hx=>⟨r,hx,rfl⟩⟩
  have p00:pv t0=fun _=>0:=by
    funext c
    unfold pv
    cases e:valG t0 c with
    | none=>rfl
    | some v=>exact h3 c v e
  have row_of:∀ r t,(r,t)∈rows→∀ c x,(c,x)∈t→nb rows r c=some x:=fun r t hm c x hc=>by
    unfold nb
    rw [xt nd hm]
    exact xt (ni _ hm) hc
  let B:List (R×Int)→List (R×C)→Prop:=fun t m=>za t=za t0∧(za m).Nodup∧Inv (nb rows) (za rows) (fn pairs) u p (pv t) (fn m)
  have start:B t0 []:=⟨rfl,.nil,by
    rw [p00]
    have:(fn ([]:List (R×C)))=fun _=>none:=by funext r; rfl
    rw [this]; exact Inv.start X⟩
  refine ⟨fun n t m b=>B t m∧(b=false→Fix (nb rows) (za rows) (fn pairs) (pv t))∧rm (za rows) u (pv t) + (if b=true then 1 else 0)≤n,⟨_,start,fun z=>(nomatch z),Nat.le_refl _⟩,?_⟩
  rintro n t m b ⟨bB,bf,bm⟩
  show if b=true then _ else _
  cases b with
  | false =>
    rw [if_neg (by decide)]
    exact h m (pv t) bB.2.2 (bf rfl)
  | true =>
    rw [if_pos rfl]
    rw [if_pos rfl] at bm
    -- what holds while the entries are walked; V the entries that were seen
    let J:List (R×Int)→List (R×C)→Bool→(R→C→Int→Prop)→Prop:=fun t' m' b' V=>B t' m'∧(b'=false→t'=t∧∀ r c x,V r c x→nb rows r c=some x→fn pairs r≠some c→∀ o,(∀ a,o=some a↔fn pairs a=some c)→vz (nb rows) (pv t) x c o≤pv t r) ∧
      rm (za rows) u (pv t')≤rm (za rows) u (pv t)∧(b'=true→rm (za rows) u (pv t') < rm (za rows) u (pv t))
    have one:∀ (r:R) (c:C) (x:Int) (t':List (R×Int)) (m':List (R×C)) (b':Bool) (V V':R→C→Int→Prop) (nx:List (R×Int)→List (R×C)→Bool→Prop),r∈za rows→nb rows r c=some x→J t' m' b' V→(∀ r' c' x',V' r' c' x'→V r' c' x'∨(r'=r∧c'=c))→(∀ t2 m2 b2,J t2 m2 b2 V'→nx t2 m2 b2) →
        ze6 (fun (gain1:Int) =>
         getW t' r fun t_5=>ifW ((decide (t_5 < gain1)) && (!eqB (valG pairs r) (some c)))
          (putW t' r (gain1,c).1 fun gains7=>putW m' r (gain1,c).2 fun moves7 =>
           asgW true fun is_changed8 =>
           nx gains7 moves7 is_changed8)
          (nx t' m' b')) fun cont =>
       ifW (hasG owners c)
        (getW owners c fun t_1=>asgW t_1 fun other =>
       getW t' other fun t_2=>getW rows other fun t_3=>getW t_3 c fun t_4=>asgW (x + (t_2 - t_4)) fun gain2 =>
       cont gain2)
        (cont x):=by
      intro r c x t' m' b' V V' nx hr hx ⟨⟨c1,c2,c3⟩,cf,cm,ct⟩ hV hn
      obtain ⟨v,hv⟩:∃ v,valG t' r=some v:=Option.isSome_iff_exists.mp (valG_key.mp (by rw [c1]; exact (dom r).mpr hr))
      have hpv:pv t' r=v:=by unfold pv; rw [hv]; rfl
      have fin:∀ (y:Int) (o:Option R),(∀ a,o=some a↔fn pairs a=some c)→y=vz (nb rows) (pv t') x c o→(getW t' r fun t_5=>ifW ((decide (t_5 < y)) && (!eqB (valG pairs r) (some c))) (putW t' r (y,c).1 fun gains7=>putW m' r (y,c).2 fun moves7=>asgW true fun is_changed8=>nx gains7 moves7 is_changed8) (nx t' m' b')):=by
        intro y o hoo hy
        refine ⟨v,hv,?_⟩
        show ifW (decide (v < y) && !eqB (valG pairs r) (some c)) _ _
        unfold ifW
        by_cases lt:v < y∧fn pairs r≠some c
        · have e1:(decide (v < y) && !eqB (valG pairs r) (some c))=true:=by
            rw [Bool.and_eq_true]
            refine ⟨decide_eq_true lt.1,?_⟩
            rw [Bool.not_eq_true']
            exact eqB_no.mpr lt.2
          rw [e1,if_pos rfl]
          have I2:=Inv.step X c3 hr hx hoo lt.2 (by rw [hpv,← hy]; exact lt.1)
          rw [← hy] at I2
          have le1:y≤u r:=by
            have:=I2.gu r hr
            have e:set1 (pv t') r y r=y:=if_pos rfl
            rw [e] at this; exact this
          have rm1:=zth (p:=u) nd hr (show pv t' r < y by rw [hpv]; exact lt.1) le1
          have l1:t'.length < sizeLine:=by
            have a1:(za t').length=(za t0).length:=by rw [c1]
            have a2:(za t').length=t'.length:=by simp [za]
            have a3:(za t0).length=t0.length:=by simp [za]
            omega
          have l2:m'.length < sizeLine:=by
            have a1:=zav c2 fun q hq=>(c3.mr q _ (show fn m' q=some _ from (Option.some_get (valG_key.mp hq)).symm)).1
            have a2:(za m').length=m'.length:=by simp [za]
            omega
          refine ⟨l1,l2,hn _ _ _ ⟨⟨?_,xk c2 _ _,?_⟩,fun z=>(nomatch z),?_,fun _=>?_⟩⟩
          · rw [yq,if_pos (by rw [c1]; exact (dom r).mpr hr),c1]
          · show Inv _ _ _ u p (pv (putG t' r y)) (fn (putG m' r c))
            rw [zow,zek]; exact I2
          · show rm _ u (pv (putG t' r y))≤_
            rw [zow]; omega
          · show rm _ u (pv (putG t' r y)) < _
            rw [zow]; omega
        · have e1:(decide (v < y) && !eqB (valG pairs r) (some c))=false:=by
            cases q:(decide (v < y) && !eqB (valG pairs r) (some c)) with
            | false=>rfl
            | true =>
              rw [Bool.and_eq_true,Bool.not_eq_true'] at q
              exact absurd ⟨of_decide_eq_true q.1,eqB_no.mp q.2⟩ lt
          rw [e1,if_neg (by decide)]
          refine hn _ _ _ ⟨⟨c1,c2,c3⟩,fun hb=>?_,cm,ct⟩
          obtain ⟨e,hall⟩:=cf hb
          refine ⟨e,fun r' c' x' hv' hx' hne o' ho'=>?_⟩
          rcases hV r' c' x' hv' with hv' | ⟨rfl,rfl⟩
          · exact hall r' c' x' hv' hx' hne o' ho'
          · rw [hx] at hx'; cases hx'
            have eo:o'=o:=by
              cases o with
              | none =>
                cases o' with
                | none=>rfl
                | some b=>exact (nomatch (hoo b).mpr ((ho' b).mp rfl))
              | some a=>exact (ho' a).mpr ((hoo a).mp rfl)
            subst eo
            subst e
            rw [← hy,hpv]
            by_cases l:v < y
            · exact absurd ⟨l,hne⟩ lt
            · omega
      show ifW (hasG owners c) _ _
      unfold ifW
      cases hp:valG owners c with
      | none =>
        have e1:hasG owners c=false:=by unfold hasG; rw [hp]; rfl
        rw [e1,if_neg (by decide)]
        refine fin x none (fun a=>⟨fun e=>(nomatch e),fun e=>?_⟩) rfl
        have:=(ho a c).mpr e
        unfold fn at this
        rw [hp] at this; cases this
      | some a =>
        have e1:hasG owners c=true:=by unfold hasG; rw [hp]; rfl
        rw [e1,if_pos rfl]
        have fa:fn pairs a=some c:=(ho a c).mp hp
        obtain ⟨ha,y,hy⟩:=X.mt.dom a c fa
        obtain ⟨va,hva⟩:∃ v,valG t' a=some v:=Option.isSome_iff_exists.mp (valG_key.mp (by rw [c1]; exact (dom a).mpr ha))
        unfold nb at hy
        obtain ⟨ra,hra,hy2⟩:=Option.bind_eq_some_iff.mp hy
        refine ⟨a,hp,va,hva,ra,hra,y,hy2,?_⟩
        refine fin (x + (va - y)) (some a) (fun b=>⟨fun e=>by cases e; exact fa,fun e=>by rw [X.mt.inj b a c e fa]⟩) ?_
        show x + (va - y)=x + pv t' a - (nb rows a c).getD 0
        have e3:nb rows a c=some y:=by unfold nb; rw [hra]; exact hy2
        rw [e3]
        unfold pv
        rw [hva]
        simp only [Option.getD_some]
        omega
    refine zge (fun i t' m' b'=>J t' m' b' fun r c x=>∃ j q,j < i∧rows[j]? = some q∧q.1=r∧(c,x)∈q.2) ⟨bB,fun _=>⟨rfl,fun r c x ⟨j,q,hj,_⟩=>absurd hj (Nat.not_lt_zero _)⟩,Nat.le_refl _,fun z=>(nomatch z)⟩ ?_ ?_
    · intro i q t' m' b' nx hq hJ hn
      obtain ⟨r,tr⟩:=q
      have hm:=List.mem_of_getElem? hq
      have hr:r∈za rows:=by unfold za; exact List.mem_map.mpr ⟨_,hm,rfl⟩
      refine zge (fun k t' m' b'=>J t' m' b' fun r' c x=>(∃ j q,j < i∧rows[j]? = some q∧q.1=r'∧(c,x)∈q.2)∨(r'=r∧∃ j,j < k∧tr[j]? = some (c,x))) ?_ ?_ ?_
      · obtain ⟨a,b,c,d⟩:=hJ
        refine ⟨a,fun hb=>⟨(b hb).1,fun r' c' x' hv=>?_⟩,c,d⟩
        rcases hv with hv | ⟨_,j,hj,_⟩
        · exact (b hb).2 r' c' x' hv
        · exact absurd hj (Nat.not_lt_zero _)
      · intro k y t2 m2 b2 nx2 hy hJ2 hn2
        obtain ⟨c,x⟩:=y
        refine one r c x t2 m2 b2 _ _ nx2 hr (row_of r tr hm c x (List.mem_of_getElem? hy)) hJ2 (fun r' c' x' hv=>?_) hn2
        rcases hv with hv | ⟨rfl,j,hj,e⟩
        · exact .inl (.inl hv)
        · by_cases jk:j=k
          · subst jk; rw [hy] at e; cases e; exact .inr ⟨rfl,rfl⟩
          · exact .inl (.inr ⟨rfl,j,by omega,e⟩)
      · intro t2 m2 b2 ⟨a,b,c,d⟩
        refine hn _ _ _ ⟨a,fun hb=>⟨(b hb).1,fun r' c' x' ⟨j,q,hj,e1,e2,e3⟩=>?_⟩,c,d⟩
        by_cases ji:j=i
        · subst ji
          rw [hq] at e1; cases e1
          obtain ⟨l,hl2,e4⟩:=List.mem_iff_getElem.mp e3
          exact (b hb).2 r' c' x' (.inr ⟨e2.symm,l,hl2,by rw [List.getElem?_eq_getElem hl2,e4]⟩)
        · exact (b hb).2 r' c' x' (.inl ⟨j,q,by omega,e1,e2,e3⟩)
    · intro t' m' b' ⟨c0,cf,cm,ct⟩
      cases b' with
      | true =>
        have:=ct rfl
        exact ⟨n - 1,by omega,c0,fun z=>(nomatch z),by rw [if_pos rfl]; omega⟩
      | false =>
        obtain ⟨e,hall⟩:=cf rfl
        subst e
        refine ⟨n - 1,by omega,c0,fun _ r hr c x o hx hne hoo=>?_,by rw [if_neg (by decide)]; omega⟩
        unfold nb at hx
        obtain ⟨tr,htr,hx2⟩:=Option.bind_eq_some_iff.mp hx
        have hm:=zau htr
        obtain ⟨j,hj,e⟩:=List.mem_iff_getElem.mp hm
        exact hall r c x ⟨j,(r,tr),hj,by rw [List.getElem?_eq_getElem hj,e],rfl,zau hx2⟩ hx hne o hoo
end
end Tk
end Mv
namespace Mv
namespace Tk
open PySem PySem.Spec PyProof.Rows L2
open Mt (Cert Ctx Inv Fix vz set1 Mat Mov Pr zba)
section
variable {R C:Type} [DecidableEq R] [DecidableEq C] {entries:List ((R×C)×Int)}
theorem zh6 {κ α:Type} [DecidableEq κ] (t:List (κ×α)) (k:κ) (v:α) (k':κ):valG (setG t k v) k'=if k'=k then some ((valG t k).getD v) else valG t k':=by
  unfold setG
  cases h:valG t k with
  | some x =>
    rw [if_pos (show (some x).isSome=true from rfl)]
    split
    · rename_i e; subst e; exact h
    · rfl
  | none =>
    rw [if_neg (by simp)]
    have h2:k ∉ za t:=fun z=>by have:=valG_key.mp z; rw [h] at this; cases this
    have:=jm t k v k'
    rw [vd h2] at this
    exact this
theorem zdm {κ α:Type} [DecidableEq κ] (t:List (κ×α)) (k:κ) (v:α):za (setG t k v)=if k∈za t then za t else za t++[k]:=by
  unfold setG
  cases h:valG t k with
  | some x =>
    rw [if_pos (show (some x).isSome=true from rfl),if_pos (valG_key.mpr (by rw [h]; rfl))]
  | none =>
    have h2:k ∉ za t:=fun z=>by have:=valG_key.mp z; rw [h] at this; cases this
    rw [if_neg (by simp),if_neg h2]
    simp [za]
theorem z7 {κ α:Type} (t:List (κ×α)):(za t).length=t.length:=by simp [za]
theorem zz5 {ks:List (R×C)} {Q:List (R×List (C×Int))→Prop} (nd:(za entries).Nodup) (hl:entries.length≤1000000) (hp:ks.Perm (za entries))
    (h:∀ every:List (R×List (C×Int)),(za every).Nodup→(∀ q∈every,(za q.2).Nodup)→every.length≤entries.length→(∀ r c,nb every r c=tb entries r c)→(∀ r,r∈za every↔∃ c,(r,c)∈za entries)→Q every):reW ks entries Q:=by
  have hz:(1000000:Nat) < sizeLine:=by decide
  have lk:ks.length=entries.length:=by rw [hp.length_eq,z7]
  refine ⟨by omega,?_⟩
  refine ql (fun i (t:List (R×List (C×Int)))=>(za t).Nodup∧(∀ r row,valG t r=some row→(za row).Nodup∧row.length≤i)∧(∀ r c x,nb t r c=some x↔∃ j,j < i∧ks[j]? = some (r,c)∧tb entries r c=some x)∧(∀ r,r∈za t↔∃ j c,j < i∧ks[j]? = some (r,c))∧t.length≤i)
    ⟨.nil,fun r row e=>(nomatch e),fun r c x=>⟨fun e=>(nomatch e),fun ⟨j,hj,_⟩=>absurd hj (Nat.not_lt_zero _)⟩,fun r=>⟨fun e=>(nomatch e),fun ⟨j,c,hj,_⟩=>absurd hj (Nat.not_lt_zero _)⟩,Nat.le_refl _⟩ ?_ ?_
  · intro i k t nx hk ⟨h1,h2,h3,h4,h5⟩ hn
    obtain ⟨r,c⟩:=k
    have hi:=(List.getElem?_eq_some_iff.mp hk).1
    have hke:(r,c)∈za entries:=hp.mem_iff.mp (List.mem_of_getElem? hk)
    obtain ⟨x,hx⟩:=Option.isSome_iff_exists.mp (valG_key.mp hke)
    refine ⟨by omega,x,hx,(valG t r).getD [],by rw [zh6,if_pos rfl],?_⟩
    have hrow:(za ((valG t r).getD [])).Nodup∧((valG t r).getD []).length≤i:=by
      cases e:valG t r with
      | none=>exact ⟨.nil,Nat.zero_le _⟩
      | some row=>exact h2 r row e
    refine ⟨by omega,hn _ ⟨?_,?_,?_,?_,?_⟩⟩
    · refine xk ?_ _ _
      rw [zdm]
      split
      · exact h1
      · rename_i q
        rw [List.nodup_append]
        exact ⟨h1,by simp,fun a ha b hb e=>by
          have hb:b=r:=by simpa using hb
          subst hb; exact q (e ▸ ha)⟩
    · intro r' row' e
      rw [jm] at e
      split at e
      · cases e
        exact ⟨xk hrow.1 _ _,Nat.le_trans (vo _ _ _) (by omega)⟩
      · rename_i q
        rw [zh6,if_neg q] at e
        have:=h2 r' row' e
        exact ⟨this.1,by omega⟩
    · intro r' c' y
      have e1:nb (putG (setG t r []) r (putG ((valG t r).getD []) c x)) r' c'=if r'=r∧c'=c then some x else nb t r' c':=by
        unfold nb
        rw [jm]
        by_cases er:r'=r
        · subst er
          rw [if_pos rfl]
          simp only [Option.bind_some,true_and]
          rw [jm]
          by_cases ec:c'=c
          · rw [if_pos ec,if_pos ec]
          · rw [if_neg ec,if_neg ec]
            cases valG t r' with
            | none=>rfl
            | some row=>rfl
        · rw [if_neg er,zh6,if_neg er,if_neg (fun z=>er z.1)]
      rw [e1]
      by_cases e:r'=r∧c'=c
      · obtain ⟨rfl,rfl⟩:=e
        rw [if_pos ⟨rfl,rfl⟩]
        exact ⟨fun q=>by cases q; exact ⟨i,by omega,hk,hx⟩,fun ⟨j,_,_,q⟩=>by rw [← q]; exact hx.symm⟩
      · rw [if_neg e,h3]
        constructor
        · rintro ⟨j,a,b,d⟩; exact ⟨j,by omega,b,d⟩
        · rintro ⟨j,a,b,d⟩
          refine ⟨j,?_,b,d⟩
          have:j≠i:=fun z=>by subst z; rw [hk] at b; cases b; exact e ⟨rfl,rfl⟩
          omega
    · intro r'
      rw [yq]
      have hin:r∈za (setG t r []):=by
        rw [zdm]; split
        · assumption
        · simp
      rw [if_pos hin,zdm]
      have:(r'∈(if r∈za t then za t else za t++[r]))↔(r'∈za t∨r'=r):=by
        split
        · rename_i q
          exact ⟨.inl,fun z=>z.elim id fun e=>e ▸ q⟩
        · simp
      rw [this,h4]
      constructor
      · rintro (⟨j,d,a,b⟩ | rfl)
        · exact ⟨j,d,by omega,b⟩
        · exact ⟨i,c,by omega,hk⟩
      · rintro ⟨j,d,a,b⟩
        by_cases e:j=i
        · subst e; rw [hk] at b; cases b; exact .inr rfl
        · exact .inl ⟨j,d,by omega,b⟩
    · have hin:r∈za (setG t r []):=by
        rw [zdm]; split
        · assumption
        · simp
      have e1:=z7 (putG (setG t r []) r (putG ((valG t r).getD []) c x))
      have e2:(setG t r ([]:List (C×Int))).length≤t.length + 1:=by
        unfold setG; split
        · omega
        · simp
      rw [yq,if_pos hin] at e1
      have e3:=z7 (setG t r ([]:List (C×Int)))
      show (putG (setG t r []) r (putG ((valG t r).getD []) c x)).length≤i + 1
      omega
  · intro t ⟨h1,h2,h3,h4,h5⟩
    refine h t h1 (fun q hq=>(h2 q.1 q.2 (xt h1 hq)).1) (by omega) (fun r c=>?_) fun r=>?_
    · cases e:tb entries r c with
      | some x =>
        have hm:(r,c)∈ks:=hp.mem_iff.mpr (valG_key.mpr (by unfold tb at e; rw [e]; rfl))
        obtain ⟨j,hj,e2⟩:=List.mem_iff_getElem.mp hm
        exact (h3 r c x).mpr ⟨j,hj,by rw [List.getElem?_eq_getElem hj,e2],e⟩
      | none =>
        cases e2:nb t r c with
        | none=>rfl
        | some x =>
          obtain ⟨j,_,_,q⟩:=(h3 r c x).mp e2
          rw [e] at q; cases q
    · rw [h4]
      constructor
      · rintro ⟨j,c,_,b⟩; exact ⟨c,hp.mem_iff.mp (List.mem_of_getElem? b)⟩
      · rintro ⟨c,hc⟩
        obtain ⟨j,hj,e2⟩:=List.mem_iff_getElem.mp (hp.mem_iff.mpr hc)
        exact ⟨j,c,hj,by rw [List.getElem?_eq_getElem hj,e2]⟩
end
end Tk
end Mv
namespace Mv
namespace Tk
open PySem PySem.Spec PyProof.Rows L2
open Mt
section
variable {κ α:Type} [DecidableEq κ]
theorem zva (t:List (κ×α)) (k k':κ):valG (jj t k) k'=if k'=k then none else valG t k':=by
  induction t with
  | nil=>simp [jj,valG]
  | cons q t ih =>
    have e:jj (q :: t) k=if q.1=k then jj t k else q :: jj t k:=by
      unfold jj
      by_cases h:q.1=k <;> simp [h]
    rw [e,qk]
    by_cases h:q.1=k
    · rw [if_pos h,ih]
      by_cases h2:k'=k
      · simp [h2]
      · rw [if_neg h2,if_neg h2,if_neg (fun z:q.1=k'=>h2 (z.symm.trans h))]
    · rw [if_neg h,qk,ih]
      by_cases h3:q.1=k'
      · rw [if_pos h3,if_pos h3,if_neg (fun z=>h (h3.trans z))]
      · rw [if_neg h3,if_neg h3]
theorem zti (t:List (κ×α)) (k:κ):za (jj t k)=(za t).filter fun x=>decide (x≠k):=by
  unfold jj za
  rw [List.filter_map]; rfl
theorem zrz {t:List (κ×α)} (nd:(za t).Nodup) (k:κ):(za (jj t k)).Nodup:=by
  rw [zti]; exact nd.filter _
theorem zq6 (t:List (κ×α)) (k:κ):fn (jj t k)=set1 (fn t) k none:=by
  funext d; unfold fn set1; rw [zva]
theorem zc3 {t:List (κ×α)} {k:κ} {v:α} (h:fn t k=some v):k∈za t:=valG_key.mpr (by unfold fn at h; rw [h]; rfl)
theorem zae {t:List (κ×α)} {k:κ} (h:k∈za t):∃ v,fn t k=some v:=Option.isSome_iff_exists.mp (valG_key.mp h)
end
section
variable {R C:Type} [DecidableEq R] [DecidableEq C] {entries:List ((R×C)×Int)}
theorem _root_.Mv.Mt.Cert.congr {w w':R→C→Option Int} {rs:List R} {f:R→Option C} {u:R→Int} {p:C→Int} (e:∀ r,r∈rs→∀ c,w r c=w' r c) (K:Cert w rs f u p):Cert w' rs f u p :=
  ⟨⟨fun r c h=>by obtain ⟨a,x,hx⟩:=K.mt.dom r c h; exact ⟨a,x,by rw [← e r a]; exact hx⟩,K.mt.inj⟩,
   ⟨K.du.u0,K.du.p0,fun r hr c x h=>K.du.fe r hr c x (by rw [e r hr]; exact h)⟩,
   fun r c x h hx=>K.ti r c x h (by rw [e r (K.mt.dom r c h).1]; exact hx),K.un,K.fr⟩
theorem zz6 {ks:List (R×C)} {Q:List (R×C)→Prop} (nd:(za entries).Nodup) (hl:entries.length≤1000000) (hp:ks.Perm (za entries))
    (h:∀ (rs:List R) (pairs:List (R×C)) (u:R→Int) (p:C→Int),rs.Nodup→(∀ r,r∈rs↔∃ c,(r,c)∈za entries)→rs.length≤entries.length→(za pairs).Nodup→pairs.length≤entries.length→Cert (tb entries) rs (fn pairs) u p→Q pairs):gpW ks entries Q:=by
  have hz:(1000000:Nat) < sizeLine:=by decide
  refine zz5 nd hl hp fun every e1 e2 e3 e4 e5=>?_
  have lk:(za every).length=every.length:=z7 _
  let cs:List C:=(za entries).map (·.2)
  have csl:cs.length=entries.length:=by simp [cs,z7]
  have hcs:zba (nb every) cs:=fun r c x hx=>by
    rw [e4] at hx
    exact List.mem_map.mpr ⟨(r,c),valG_key.mpr (by unfold tb at hx; rw [hx]; rfl),rfl⟩
  have sub:∀ (rows:List (R×List (C×Int))),(∀ q∈rows,q∈every)→(za rows).Nodup→∀ r,r∈za rows→∀ c,nb rows r c=nb every r c:=fun rows hs hn r hr c=>by
    obtain ⟨t,ht⟩:=zae hr
    have ht':valG rows r=some t:=ht
    have hm:=zau ht'
    unfold nb
    rw [ht',xt e1 (hs _ hm)]
  refine zge (fun i (rows:List (R×List (C×Int))) (pairs:List (R×C)) (owners:List (C×R))=>rows=every.take i∧(za pairs).Nodup∧(za owners).Nodup∧(∀ r c,fn owners c=some r↔fn pairs r=some c)∧∃ u p,Cert (nb every) (za rows) (fn pairs) u p)
    ⟨rfl,.nil,.nil,fun r c=>⟨fun z=>(nomatch z),fun z=>(nomatch z)⟩,fun _=>0,fun _=>0,⟨fun r c z=>(nomatch z),fun r r' c z=>(nomatch z)⟩,⟨fun r z=>(nomatch z),fun c=>Int.le_refl _,fun r z=>(nomatch z)⟩,fun r c x z=>(nomatch z),fun r z=>(nomatch z),fun c _=>rfl⟩ ?_ ?_
  · intro i x rows pairs owners nx hx ⟨i1,i2,i3,i4,u,p,i5⟩ hn
    have hi:=(List.getElem?_eq_some_iff.mp hx).1
    have kt:za rows=(za every).take i:=by rw [i1]; unfold za; rw [List.map_take]
    have hxk:(za every)[i]? = some x.1:=by unfold za; rw [List.getElem?_map,hx]; rfl
    have nt:((za every).take (i + 1)).Nodup:=e1.sublist (List.take_sublist _ _)
    have ts:(za every).take (i + 1)=za rows++[x.1]:=by rw [List.take_succ,hxk,kt]; rfl
    have nin:x.1 ∉ za rows:=by
      rw [ts] at nt
      exact fun z=>(List.nodup_append.mp nt).2.2 _ z _ (by simp) rfl
    have r3:putG rows x.1 x.2=every.take (i + 1):=by
      rw [vd nin,i1,List.take_succ,hx]; rfl
    have lr:rows.length≤every.length:=by rw [i1]; simp; omega
    have k3:za (putG rows x.1 x.2)=za rows++[x.1]:=by rw [yq,if_neg nin]
    have n3:(za (putG rows x.1 x.2)).Nodup:=by rw [k3,← ts]; exact nt
    have s3:∀ q∈putG rows x.1 x.2,q∈every:=fun q hq=>by rw [r3] at hq; exact List.mem_of_mem_take hq
    have l3:(putG rows x.1 x.2).length≤every.length:=by rw [r3]; simp; omega
    refine ⟨by omega,?_⟩
    obtain ⟨u',X⟩:=i5.ctx hcs nin
    have ce:=sub _ s3 n3
    have X3:Ctx (nb (putG rows x.1 x.2)) (za (putG rows x.1 x.2)) x.1 (fn pairs) u' p:=by
      rw [← k3] at X
      exact ⟨⟨fun r c h=>by obtain ⟨a,y,hy⟩:=X.mt.dom r c h; exact ⟨a,y,by rw [ce r a]; exact hy⟩,X.mt.inj⟩,
        ⟨X.du.u0,X.du.p0,fun r hr c y h=>X.du.fe r hr c y (by rw [← ce r hr]; exact h)⟩,
        fun r c y h hy=>X.ti r c y h (by rw [← ce r (X.mt.dom r c h).1]; exact hy),X.un,X.fr,X.zn⟩
    refine zz4 (z:=x.1) n3 (by omega) (fun q hq=>e2 q (s3 q hq)) X3 i4 fun moves g I Z=>?_
    obtain ⟨q,P⟩:=Pr.exists (nb (putG rows x.1 x.2)) (fn pairs) g X3.mt.inj fun r c h=>(X3.mt.dom r c h).2
    obtain ⟨n0,M0⟩:=Mov.start X3 I P (by rw [k3]; simp) i4
    have hl3:zba (nb (putG rows x.1 x.2)) cs:=fun r c y hy=>by
      have hr:r∈za (putG rows x.1 x.2):=by
        cases e:valG (putG rows x.1 x.2) r with
        | none=>unfold nb at hy; rw [e] at hy; cases hy
        | some t=>exact valG_key.mpr (by rw [e]; rfl)
      rw [ce r hr] at hy; exact hcs r c y hy
    have lp:∀ (F:List (R×C)) (O:List (C×R)) n a,Mov (nb (putG rows x.1 x.2)) (za (putG rows x.1 x.2)) (fn pairs) (fn moves) g q (fn F) (fn O) n a→(za F).Nodup→F.length < sizeLine:=fun F O n a M nF=>by
      have:=zav (l:=za F) (m:=za (putG rows x.1 x.2)) nF fun r hr=>by
        by_cases e:r=a
        · subst e; exact M.ra
        · obtain ⟨c,hc⟩:=zae hr
          exact (M.ent r c e hc).1
      rw [z7,z7] at this
      omega
    have lo:∀ (F:List (R×C)) (O:List (C×R)) n a,Mov (nb (putG rows x.1 x.2)) (za (putG rows x.1 x.2)) (fn pairs) (fn moves) g q (fn F) (fn O) n a→(za O).Nodup→O.length < sizeLine:=fun F O n a M nO=>by
      have:=zav (l:=za O) (m:=cs) nO fun c hc=>by
        obtain ⟨r,hr⟩:=zae hc
        obtain ⟨h1,h2⟩:=(M.inv r c).mp hr
        obtain ⟨_,y,hy,_⟩:=M.ent r c h1 h2
        exact hl3 r c y hy
      rw [z7,csl] at this
      omega
    refine ⟨fun n F O row=>(za F).Nodup∧(za O).Nodup∧((∃ a k,row=some a∧n=k + 1∧Mov (nb (putG rows x.1 x.2)) (za (putG rows x.1 x.2)) (fn pairs) (fn moves) g q (fn F) (fn O) k a)∨(row=none∧(∀ r c,fn O c=some r↔fn F r=some c)∧Cert (nb (putG rows x.1 x.2)) (za (putG rows x.1 x.2)) (fn F) g q)),⟨_,i2,i3,.inl ⟨_,_,rfl,rfl,M0⟩⟩,?_⟩
    rintro n F O row ⟨w1,w2,w3⟩
    show if inN moves row=true then _ else _
    have done:∀ F':List (R×C),(za F').Nodup→(∀ r c,fn O c=some r↔fn F' r=some c)→Cert (nb (putG rows x.1 x.2)) (za (putG rows x.1 x.2)) (fn F') g q→nx (putG rows x.1 x.2) F' O:=fun F' a1 a2 a3=>by
      refine hn _ _ _ ⟨r3,a1,w2,a2,g,q,a3.congr ce⟩
    rcases w3 with ⟨a,k,rfl,rfl,M⟩ | ⟨rfl,v1,v2⟩
    · by_cases hm:hasG moves a=true
      · rw [if_pos (show inN moves (some a)=true from hm)]
        obtain ⟨c,hc⟩:=zae (has_iff.mp hm)
        refine ⟨a,rfl,c,hc,?_⟩
        refine ⟨a,rfl,a,rfl,lp _ _ _ _ M w1,?_⟩
        refine ⟨lo _ _ _ _ M w2,?_⟩
        show ∃ m,_
        rcases Mov.step X3 I Z P M hc with ⟨o1,o2,o3⟩ | ⟨o,k',o1,o2,o3⟩
        · refine ⟨0,Nat.succ_pos _,xk w1 _ _,xk w2 _ _,.inr ⟨o1,fun r c'=>?_,?_⟩⟩
          · rw [zek,zek]; exact o2 r c'
          · rw [zek]; exact o3
        · refine ⟨k' + 1,by omega,xk w1 _ _,xk w2 _ _,.inl ⟨o,k',o1,rfl,?_⟩⟩
          show Mov _ _ _ _ _ _ (fn (putG F a c)) (fn (putG O c a)) k' o
          rw [zek,zek]; exact o3
      · rw [if_neg (show ¬ inN moves (some a)=true from hm)]
        have hm':fn moves a=none:=by
          cases e:fn moves a with
          | none=>rfl
          | some c=>exact absurd (has_iff.mpr (zc3 e)) hm
        obtain ⟨s1,s2⟩:=Mov.stop X3 I Z P M hm'
        show nx _ (jj F a) O
        refine done _ (zrz w1 _) (fun r c=>?_) ?_
        · rw [zq6]; exact s1 r c
        · rw [zq6]; exact s2
    · rw [if_neg (show ¬ inN moves none=true from fun z=>(nomatch z))]
      exact done F w1 v1 v2
  · intro rows pairs owners ⟨i1,i2,i3,i4,u,p,i5⟩
    have er:rows=every:=by rw [i1,List.take_length]
    subst er
    refine h (za rows) pairs u p e1 e5 (by rw [lk]; exact e3) i2 ?_ ?_
    · have:=zav (l:=za pairs) (m:=za rows) i2 fun r hr=>by
        obtain ⟨c,hc⟩:=zae hr
        exact (i5.mt.dom r c hc).1
      rw [z7,z7] at this
      omega
    · exact i5.congr fun r _ c=>e4 r c
end
end Tk
end Mv
namespace Mv
namespace Mt
theorem zgj {a a' b b' k:Int} (h1:0≤b) (h2:b < k) (h3:0≤b') (h4:b' < k):a * k + b≤a' * k + b'↔a < a'∨a=a'∧b≤b':=by
  rcases Int.lt_trichotomy a a' with h | h | h
  · have:(a + 1) * k≤a' * k:=Int.mul_le_mul_of_nonneg_right (by omega) (by omega)
    rw [Int.add_mul] at this
    constructor <;> intro _ <;> omega
  · subst h; constructor <;> intro _ <;> omega
  · have:(a' + 1) * k≤a * k:=Int.mul_le_mul_of_nonneg_right (by omega) (by omega)
    rw [Int.add_mul] at this
    constructor <;> intro _ <;> omega
theorem zju {a a' b b' k:Int} (h1:0≤b) (h2:b < k) (h3:0≤b') (h4:b' < k):a * k + b=a' * k + b'↔a=a'∧b=b':=by
  have x:=zgj (a:=a) (a':=a') h1 h2 h3 h4
  have y:=zgj (a:=a') (a':=a) h3 h4 h1 h2
  constructor
  · intro e
    have:=x.mp (by omega); have:=y.mp (by omega); omega
  · rintro ⟨rfl,rfl⟩; rfl
section
variable {R C:Type} [DecidableEq R] [DecidableEq C]
def num (K:Int) (d:R→Int):List R→Int
  | []=>0
  | r :: rs=>d r * K ^ rs.length + num K d rs
theorem zox {K:Int} (h:0 < K):∀ n:Nat,0 < K ^ n
  | 0=>by simp
  | n + 1=>by rw [Int.pow_succ]; exact Int.mul_pos (zox h n) h
theorem zdn {K:Int} {d:R→Int} (hK:0 < K):∀ {rs:List R},(∀ r,r∈rs→0≤d r∧d r < K)→0≤num K d rs∧num K d rs < K ^ rs.length
  | [],_=>by simp [num]
  | r :: rs,h=>by
    obtain ⟨i1,i2⟩:=zdn hK (rs:=rs) fun x hx=>h x (by simp [hx])
    obtain ⟨j1,j2⟩:=h r (by simp)
    have hp:=zox hK rs.length
    have e:K ^ (r :: rs).length=K ^ rs.length * K:=by simp [Int.pow_succ]
    have a1:0≤d r * K ^ rs.length:=Int.mul_nonneg j1 (by omega)
    have a2:(d r + 1) * K ^ rs.length≤K * K ^ rs.length:=Int.mul_le_mul_of_nonneg_right (by omega) (by omega)
    rw [Int.add_mul,Int.mul_comm K] at a2
    unfold num
    rw [e]
    constructor <;> omega
theorem ztj {K:Int} {d d':R→Int} (hK:0 < K):∀ {rs:List R},(∀ r,r∈rs→0≤d r∧d r < K)→(∀ r,r∈rs→0≤d' r∧d' r < K)→num K d rs=num K d' rs→∀ r,r∈rs→d r=d' r
  | [],_,_,_,r,hr=>by simp at hr
  | a :: rs,h,h',e,r,hr=>by
    obtain ⟨i1,i2⟩:=zdn hK (rs:=rs) (d:=d) fun x hx=>h x (by simp [hx])
    obtain ⟨i3,i4⟩:=zdn hK (rs:=rs) (d:=d') fun x hx=>h' x (by simp [hx])
    unfold num at e
    obtain ⟨e1,e2⟩:=(zju i1 i2 i3 i4).mp e
    rcases List.mem_cons.mp hr with q | q
    · subst q; exact e1
    · exact ztj hK (fun x hx=>h x (by simp [hx])) (fun x hx=>h' x (by simp [hx])) e2 r q
theorem zq7 {K:Int} {d:R→Int}:∀ {rs:List R},rs.Nodup→num K d rs=(rs.map fun r=>d r * K ^ (rs.length - 1 - rs.idxOf r)).sum
  | [],_=>by simp [num]
  | a :: rs,nd=>by
    obtain ⟨n1,n2⟩:=List.nodup_cons.mp nd
    have ih:=zq7 (K:=K) (d:=d) n2
    unfold num
    rw [ih,List.map_cons,List.sum_cons]
    have e1:(a :: rs).length - 1 - (a :: rs).idxOf a=rs.length:=by simp
    rw [e1]
    congr 2
    refine List.map_congr_left fun r hr=>?_
    have ne:a≠r:=fun z=>n1 (z ▸ hr)
    have e2:(a :: rs).idxOf r=rs.idxOf r + 1:=by
      rw [List.idxOf_cons,beq_false_of_ne ne]; rfl
    rw [e2]
    have:=List.idxOf_lt_length_iff.mpr hr
    have:(a :: rs).length - 1 - (rs.idxOf r + 1)=rs.length - 1 - rs.idxOf r:=by simp; omega
    rw [this]
structure Ex (R C:Type) where
  ns:List R
  ps:List C
  hm:R→C→Bool
variable (X:Ex R C) (w:R→C→Option Int)
def Ex.n:Int:=X.ns.length
def Ex.m:Int:=X.ps.length
def Ex.M:Int:=(X.m + 1) ^ X.ns.length
def Ex.hd (r:R) (c:C):Int:=if X.hm r c=true then 1 else 0
def Ex.dg (c:C):Int:=X.m - (X.ps.idxOf c:Int)
def Ex.wt (r:R) (c:C) (x:Int):Int:=((x * (X.n + 1) + 1) * (X.n + 1) + X.hd r c) * X.M + X.dg c * (X.m + 1) ^ (X.ns.length - 1 - X.ns.idxOf r)
def Ex.tab (r:R) (c:C):Option Int:=(w r c).map (X.wt r c)
def card (rs:List R) (f:R→Option C):Int:=(rs.map fun r=>if (f r).isSome=true then (1:Int) else 0).sum
def Ex.home (f:R→Option C):Int:=(X.ns.map fun r=>match f r with | some c=>X.hd r c | none=>0).sum
def Ex.dig (f:R→Option C) (r:R):Int:=match f r with | some c=>X.dg c | none=>0
def Ex.ord (f:R→Option C):Int:=num (X.m + 1) (X.dig f) X.ns
structure Ex.Fits:Prop where
  nd:X.ns.Nodup
  rows:∀ r c x,w r c=some x→r∈X.ns
  cols:∀ r c x,w r c=some x→c∈X.ps
variable {X:Ex R C} {w:R→C→Option Int}
theorem zhi {α:Type} {a:α→Int} {k:Int}:∀ {l:List α},(l.map fun x=>a x * k).sum=(l.map a).sum * k
  | []=>by simp
  | x :: l=>by simp only [List.map_cons,List.sum_cons,zhi (l:=l),Int.add_mul]
theorem Ex.val (F:X.Fits w) {f:R→Option C} (G:Mat w X.ns f):V (X.tab w) X.ns f=((V w X.ns f * (X.n + 1) + card X.ns f) * (X.n + 1) + X.home f) * X.M + X.ord f:=by
  have e:V (X.tab w) X.ns f=(X.ns.map fun r=>((Mt.val w f r * (X.n + 1) + (if (f r).isSome=true then (1:Int) else 0)) * (X.n + 1) + (match f r with | some c=>X.hd r c | none=>0)) * X.M + X.dig f r * (X.m + 1) ^ (X.ns.length - 1 - X.ns.idxOf r)).sum:=by
    unfold V
    congr 1
    refine List.map_congr_left fun r hr=>?_
    unfold Mt.val Ex.dig
    cases h:f r with
    | none=>simp
    | some c =>
      obtain ⟨_,x,hx⟩:=G.dom r c h
      simp [Ex.tab,hx,Ex.wt]
  rw [e,zcr,zhi,zcr,zhi,zcr,zhi]
  unfold Ex.ord
  rw [zq7 F.nd]
  rfl
theorem zjv {rs:List R} {f:R→Option C}:0≤card rs f∧card rs f≤rs.length:=by
  unfold card
  induction rs with
  | nil=>simp
  | cons r rs ih=>simp only [List.map_cons,List.sum_cons,List.length_cons]; split <;> omega
theorem Ex.home_bound {f:R→Option C}:0≤X.home f∧X.home f≤X.n:=by
  unfold Ex.home Ex.n
  generalize X.ns=rs
  induction rs with
  | nil=>simp
  | cons r rs ih =>
    simp only [List.map_cons,List.sum_cons,List.length_cons]
    have:∀ c,0≤X.hd r c∧X.hd r c≤1:=fun c=>by unfold Ex.hd; split <;> omega
    cases f r with
    | none=>simp only; omega
    | some c=>simp only; have:=this c; omega
theorem Ex.dg_bound {c:C} (h:c∈X.ps):1≤X.dg c∧X.dg c≤X.m:=by
  have:=List.idxOf_lt_length_iff.mpr h
  unfold Ex.dg Ex.m; omega
theorem Ex.dig_bound (F:X.Fits w) {f:R→Option C} (G:Mat w X.ns f) (r:R):0≤X.dig f r∧X.dig f r < X.m + 1:=by
  have h0:0≤X.m:=by unfold Ex.m; omega
  unfold Ex.dig
  cases h:f r with
  | none=>simp only; omega
  | some c =>
    obtain ⟨_,x,hx⟩:=G.dom r c h
    have:=Ex.dg_bound (F.cols r c x hx)
    simp only; omega
theorem Ex.ord_bound (F:X.Fits w) {f:R→Option C} (G:Mat w X.ns f):0≤X.ord f∧X.ord f < X.M:=by
  have h0:0≤X.m:=by unfold Ex.m; omega
  exact zdn (by omega) fun r _=>Ex.dig_bound F G r
def Ex.le (X:Ex R C) (w:R→C→Option Int) (f g:R→Option C):Prop :=
  V w X.ns f < V w X.ns g∨V w X.ns f=V w X.ns g∧(card X.ns f < card X.ns g∨card X.ns f=card X.ns g∧(X.home f < X.home g∨X.home f=X.home g∧X.ord f≤X.ord g))
theorem Ex.le_iff (F:X.Fits w) {f g:R→Option C} (A:Mat w X.ns f) (B:Mat w X.ns g):V (X.tab w) X.ns f≤V (X.tab w) X.ns g↔X.le w f g:=by
  rw [Ex.val F A,Ex.val F B]
  have h1:=Ex.ord_bound F A; have h2:=Ex.ord_bound F B
  have h3:=Ex.home_bound (X:=X) (f:=f); have h4:=Ex.home_bound (X:=X) (f:=g)
  have h5:=zjv (rs:=X.ns) (f:=f); have h6:=zjv (rs:=X.ns) (f:=g)
  have hn:X.n=X.ns.length:=rfl
  rw [zgj h1.1 h1.2 h2.1 h2.2,show ∀ a b:Int,(a < b)↔¬ (b≤a) from fun a b=>by omega,zgj h4.1 (by omega) h3.1 (by omega),zju h3.1 (by omega) h4.1 (by omega),
    show ∀ a b:Int,(V w X.ns g * (X.n + 1) + a < V w X.ns f * (X.n + 1) + b)↔¬ (V w X.ns f * (X.n + 1) + b≤V w X.ns g * (X.n + 1) + a) from fun a b=>by omega,zgj h5.1 (by omega) h6.1 (by omega),zju h5.1 (by omega) h6.1 (by omega),zju h6.1 (by omega) h5.1 (by omega)]
  unfold Ex.le
  omega
theorem Ex.mat (F:X.Fits w) {f:R→Option C}:Mat (X.tab w) X.ns f↔Mat w X.ns f:=by
  constructor
  · exact fun G=>⟨fun r c h=>by
      obtain ⟨a,x,hx⟩:=G.dom r c h
      unfold Ex.tab at hx
      cases e:w r c with
      | none=>rw [e] at hx; cases hx
      | some y=>exact ⟨a,y,rfl⟩,G.inj⟩
  · exact fun G=>⟨fun r c h=>by
      obtain ⟨a,x,hx⟩:=G.dom r c h
      exact ⟨a,_,by unfold Ex.tab; rw [hx]; rfl⟩,G.inj⟩
theorem Ex.best (F:X.Fits w) {f:R→Option C} (A:Mat w X.ns f) (h:∀ g,Mat (X.tab w) X.ns g→V (X.tab w) X.ns g≤V (X.tab w) X.ns f):∀ g,Mat w X.ns g→X.le w g f :=
  fun g G=>(Ex.le_iff F G A).mp (h g ((Ex.mat F).mpr G))
theorem Ex.anti (F:X.Fits w) {f g:R→Option C} (A:Mat w X.ns f) (B:Mat w X.ns g) (np:X.ps.Nodup) (h1:X.le w f g) (h2:X.le w g f):f=g:=by
  have eo:X.ord f=X.ord g:=by unfold Ex.le at h1 h2; omega
  have h0:0≤X.m:=by unfold Ex.m; omega
  have ed:=ztj (K:=X.m + 1) (by omega) (fun r _=>Ex.dig_bound F A r) (fun r _=>Ex.dig_bound F B r) eo
  funext r
  by_cases hr:r∈X.ns
  · have q:=ed r hr
    unfold Ex.dig at q
    cases ef:f r with
    | none =>
      cases eg:g r with
      | none=>rfl
      | some c =>
        obtain ⟨_,x,hx⟩:=B.dom r c eg
        have:=Ex.dg_bound (F.cols r c x hx)
        rw [ef,eg] at q; simp at q; omega
    | some c =>
      obtain ⟨_,x,hx⟩:=A.dom r c ef
      have b1:=Ex.dg_bound (F.cols r c x hx)
      cases eg:g r with
      | none=>rw [ef,eg] at q; simp at q; omega
      | some c' =>
        obtain ⟨_,x',hx'⟩:=B.dom r c' eg
        have b2:=Ex.dg_bound (F.cols r c' x' hx')
        rw [ef,eg] at q
        simp only [Ex.dg] at q
        have e:X.ps.idxOf c=X.ps.idxOf c':=by omega
        have g1:=List.getElem_idxOf (List.idxOf_lt_length_iff.mpr (F.cols r c x hx))
        have g2:=List.getElem_idxOf (List.idxOf_lt_length_iff.mpr (F.cols r c' x' hx'))
        congr 1
        rw [← g1,← g2]
        congr 1
  · have n1:f r=none:=by
      cases e:f r with
      | none=>rfl
      | some c=>exact absurd (A.dom r c e).1 hr
    have n2:g r=none:=by
      cases e:g r with
      | none=>rfl
      | some c=>exact absurd (B.dom r c e).1 hr
    rw [n1,n2]
end
end Mt
end Mv
namespace Mv
namespace Lb
open PySem PySem.Spec PyProof.Rows L2 Tk
section
variable {α β γ κ:Type}
theorem asgI {a:α} {k:α→Prop} (h:k a):asgW a k:=h
theorem retI {a:α} {k:α→Prop} (h:k a):retW a k:=h
theorem ifI {b:Bool} {A B:Prop} (h1:b=true→A) (h2:b=false→B):ifW b A B:=by
  unfold ifW; cases b with
  | true=>rw [if_pos rfl]; exact h1 rfl
  | false=>rw [if_neg (by decide)]; exact h2 rfl
theorem ifT {b:Bool} {A B:Prop} (e:b=true) (h:A):ifW b A B:=by unfold ifW; rw [if_pos e]; exact h
theorem ifF {b:Bool} {A B:Prop} (e:b=false) (h:B):ifW b A B:=by unfold ifW; rw [e,if_neg (by decide)]; exact h
theorem andI {b:Bool} {m:(Bool→Prop)→Prop} {k:Bool→Prop} (h1:b=true→m k) (h2:b=false→k false):andW b m k:=by
  unfold andW; cases b with
  | true=>rw [if_pos rfl]; exact h1 rfl
  | false=>rw [if_neg (by decide)]; exact h2 rfl
theorem qo {p k:Prop} (h1:p) (h2:k):zr p k:=⟨h1,h2⟩
theorem unI {o:Option α} {a:α} {k:α→Prop} (e:o=some a) (h:k a):unW o k:=⟨a,e,h⟩
theorem getI [DecidableEq κ] {t:List (κ×α)} {x:κ} {v:α} {k:α→Prop} (e:valG t x=some v) (h:k v):getW t x k:=⟨v,e,h⟩
theorem putI [DecidableEq κ] {t:List (κ×α)} {x:κ} {v:α} {k:List (κ×α)→Prop} (e:t.length < sizeLine) (h:k (putG t x v)):putW t x v k:=⟨e,h⟩
theorem ixI {xs:List α} {i:Int} {x:α} {k:α→Prop} (e:atI xs i=some x) (h:k x):ixW xs i k:=⟨x,e,h⟩
theorem appI {xs:List α} {v:α} {k:List α→Prop} (e:xs.length < sizeLine) (h:k (xs++[v])):appW xs v k:=⟨e,h⟩
theorem ztk {a:α} {b:β} {k:α→β→Prop} (h:k a b):zcl a b k:=h
end
class LeOk {α:Type} (e:α→D) [h:SrtE e]:Prop where
  tr:∀ a b c,h.le a b=true→h.le b c=true→h.le a c=true
  to:∀ a b,h.le a b=true∨h.le b a=true
  an:∀ a b,h.le a b=true→h.le b a=true→a=b
instance:LeOk D.int where
  tr a b c h1 h2:=by have:=of_decide_eq_true h1; have:=of_decide_eq_true h2; exact decide_eq_true (by omega)
  to a b:=by
    by_cases h:a≤b
    · exact .inl (decide_eq_true h)
    · exact .inr (decide_eq_true (by omega))
  an a b h1 h2:=by have:=of_decide_eq_true h1; have:=of_decide_eq_true h2; omega
theorem zxf {a b:Str} (h:a.cps.toList=b.cps.toList):a=b:=by
  cases a; cases b; simp at h; simp [h]
instance:LeOk sD where
  tr a b c h1 h2:=decide_eq_true (List.le_trans (of_decide_eq_true h1) (of_decide_eq_true h2))
  to a b:=by
    rcases List.le_total a.1.cps.toList b.1.cps.toList with h | h
    · exact .inl (decide_eq_true h)
    · exact .inr (decide_eq_true h)
  an a b h1 h2:=Subtype.ext (zxf (List.le_antisymm (of_decide_eq_true h1) (of_decide_eq_true h2)))
section
variable {α:Type} {e:α→D} [h:SrtE e] [LeOk e]
def leS (e:α→D) [h:SrtE e] (a b:α):Prop:=h.le a b=true
omit [LeOk e] in
theorem ua (e:α→D) [h:SrtE e] (xs:List α):(zv e xs).Perm xs:=List.mergeSort_perm _ _
theorem zgk (xs:List α):(zv e xs).Pairwise (leS e):=by
  unfold zv
  exact List.pairwise_mergeSort (fun a b c=>LeOk.tr (e:=e) a b c) (fun a b=>by
    rcases LeOk.to (e:=e) a b with q | q <;> simp [q]) xs
theorem sort_unique {xs ys:List α} (hx:xs.Pairwise (leS e)) (hy:ys.Pairwise (leS e)) (p:xs.Perm ys):xs=ys :=
  List.Perm.eq_of_pairwise (fun a b _ _ h1 h2=>LeOk.an (e:=e) a b h1 h2) hx hy p
theorem zvb {xs ys:List α} (p:xs.Perm ys):zv e xs=zv e ys :=
  sort_unique (zgk xs) (zgk ys) ((ua e xs).trans (p.trans (ua e ys).symm))
theorem zhr {xs ys:List α} (hx:xs.Nodup) (hy:ys.Nodup) (hm:∀ a,a∈xs↔a∈ys):xs.Perm ys:=(List.perm_ext_iff_of_nodup hx hy).mpr hm
omit [LeOk e] in
theorem mem_sortL {xs:List α} {a:α}:a∈zv e xs↔a∈xs:=(ua e xs).mem_iff
omit [LeOk e] in
theorem nodup_sortL {xs:List α}:(zv e xs).Nodup↔xs.Nodup:=(ua e xs).nodup_iff
omit [LeOk e] in
theorem zdo {xs:List α}:(zv e xs).length=xs.length:=(ua e xs).length_eq
def dd [DecidableEq α]:List α→List α
  | []=>[]
  | x :: xs=>if x∈xs then dd xs else x :: dd xs
omit h [LeOk e] in
theorem mem_dd [DecidableEq α] {a:α}:∀ {xs:List α},a∈dd xs↔a∈xs
  | []=>Iff.rfl
  | x :: xs=>by
    unfold dd
    split
    · rename_i q
      rw [mem_dd (xs:=xs),List.mem_cons]
      exact ⟨.inr,fun z=>z.elim (fun z=>z ▸ q) id⟩
    · rw [List.mem_cons,List.mem_cons,mem_dd (xs:=xs)]
omit h [LeOk e] in
theorem zc4 [DecidableEq α]:∀ {xs:List α},(dd xs).Nodup
  | []=>.nil
  | x :: xs=>by
    unfold dd
    split
    · exact zc4
    · rename_i q; exact List.nodup_cons.mpr ⟨fun z=>q (mem_dd.mp z),zc4⟩
def asc [DecidableEq α] (e:α→D) [h:SrtE e] (xs:List α):List α:=zv e (dd xs)
theorem asc_of [DecidableEq α] {xs ys:List α} (nd:ys.Nodup) (hm:∀ a,a∈ys↔a∈xs):zv e ys=asc e xs :=
  zvb (zhr nd (zc4) (fun a=>by rw [hm,mem_dd]))
theorem mem_asc [DecidableEq α] {xs:List α} {a:α}:a∈asc e xs↔a∈xs:=by unfold asc; rw [mem_sortL,mem_dd]
theorem zgl [DecidableEq α] {xs:List α}:(asc e xs).Nodup:=nodup_sortL.mpr zc4
theorem zq8 [DecidableEq α] {xs:List α}:(asc e xs).length≤xs.length:=zav zgl fun a h=>mem_asc.mp h
theorem ztl [DecidableEq α] {xs ys:List α} (hm:∀ a,a∈xs↔a∈ys):asc e xs=asc e ys:=by
  refine asc_of zc4 fun a=>?_
  rw [mem_dd,hm]
end
def Bits (k:Nat) (x:Int):Prop:=x.natAbs < 2 ^ k
theorem Bits.mono {k l:Nat} {x:Int} (h:Bits k x) (e:k≤l):Bits l x:=Nat.lt_of_lt_of_le h (Nat.pow_le_pow_right (by decide) e)
theorem Bits.mul {k l:Nat} {x y:Int} (h:Bits k x) (g:Bits l y):Bits (k + l) (x * y):=L2.wide_lt h g
theorem Bits.add {k:Nat} {x y:Int} (h:Bits k x) (g:Bits k y):Bits (k + 1) (x + y):=by
  unfold Bits at *
  rw [Nat.pow_succ]; omega
theorem Bits.of {k:Nat} {x:Int} (h0:0≤x) (h:x < (2 ^ k:Nat)):Bits k x:=by unfold Bits; omega
theorem Bits.cm {k l:Nat} {x y:Int} (h:Bits k x) (g:Bits l y) (h0:0 < k) (h1:0 < l) (e:k + l≤1000000):CM x y:=.inr (L2.wide_mul h g h0 h1 e)
theorem Bits.pow {k:Nat} {x:Int} (h:Bits k x):∀ n:Nat,Bits (k * n + 1) (x ^ n)
  | 0=>by simp [Bits]
  | n + 1=>by
    rw [Int.pow_succ]
    exact ((Bits.pow h n).mul h).mono (by rw [Nat.mul_succ]; omega)
abbrev Tb:=List ((Sg×Int)×Int)
def nms (t:Tb):List Sg:=asc sD ((za t).map (·.1))
def pls (t:Tb):List Int:=asc D.int ((za t).map (·.2))
def tnW (table:Tb) (Q:List Sg→Prop):Prop :=
 xy (za table) ([]:(List (Sg×Bool))) (fun (x_:(Sg×Int)) (acc:(List (Sg×Bool))) (nxt:(List (Sg×Bool))→Prop)=>putW acc x_.1 true nxt) fun t_=>zr (t_.length≤16777216) <| retW (zv sD (za t_)) Q
def tpW (table:Tb) (Q:List Int→Prop):Prop :=
 xy (za table) ([]:(List (Int×Bool))) (fun (x_:(Sg×Int)) (acc:(List (Int×Bool))) (nxt:(List (Int×Bool))→Prop)=>putW acc x_.2 true nxt) fun t_=>zr (t_.length≤16777216) <| retW (zv D.int (za t_)) Q
theorem zz7 {t:Tb} {Q:List Sg→Prop} (hl:t.length≤1000000) (h:Q (nms t)):tnW t Q:=by
  refine zgi (f:=fun x:Sg×Int=>x.1) (by rw [z7]; exact hl) fun u h1 h2 h3 h4=>?_
  rw [z7] at h4
  refine ⟨by omega,?_⟩
  show Q _
  rw [asc_of (xs:=(za t).map (·.1)) h1 fun a=>by rw [h2,List.mem_map]]
  exact h
theorem zz8 {t:Tb} {Q:List Int→Prop} (hl:t.length≤1000000) (h:Q (pls t)):tpW t Q:=by
  refine zgi (f:=fun x:Sg×Int=>x.2) (by rw [z7]; exact hl) fun u h1 h2 h3 h4=>?_
  rw [z7] at h4
  refine ⟨by omega,?_⟩
  show Q _
  rw [asc_of (xs:=(za t).map (·.2)) h1 fun a=>by rw [h2,List.mem_map]]
  exact h
theorem mem_nms {t:Tb} {n:Sg}:n∈nms t↔∃ p,(n,p)∈za t:=by
  unfold nms; rw [mem_asc,List.mem_map]
  exact ⟨fun ⟨a,h,e⟩=>⟨a.2,e ▸ h⟩,fun ⟨p,h⟩=>⟨_,h,rfl⟩⟩
theorem mem_pls {t:Tb} {p:Int}:p∈pls t↔∃ n,(n,p)∈za t:=by
  unfold pls; rw [mem_asc,List.mem_map]
  exact ⟨fun ⟨a,h,e⟩=>⟨a.1,e ▸ h⟩,fun ⟨p,h⟩=>⟨_,h,rfl⟩⟩
theorem zxg (t:Tb):(nms t).length≤t.length:=Nat.le_trans zq8 (by simp [z7])
theorem zxh (t:Tb):(pls t).length≤t.length:=Nat.le_trans zq8 (by simp [z7])
theorem zoy (t:Tb):(nms t).Nodup:=zgl
theorem zy7 (t:Tb):(pls t).Nodup:=zgl
def zb0 (homes:Option (List (Sg×Int))) (n:Sg) (p:Int):Bool:=match homes with
  | none=>false
  | some d=>decide (valG d n=some p)
def exX (t:Tb) (homes:Option (List (Sg×Int))):Mt.Ex Sg Int:=⟨nms t,pls t,zb0 homes⟩
def exT (t:Tb) (homes:Option (List (Sg×Int))):Tb:=t.map fun q=>(q.1,(exX t homes).wt q.1.1 q.1.2 q.2)
theorem zh7 (t:Tb) (homes):za (exT t homes)=za t:=by unfold exT za; rw [List.map_map]; rfl
theorem zq9 {κ α β:Type} [DecidableEq κ] (f:κ→α→β) (t:List (κ×α)) (k:κ):valG (t.map fun q=>(q.1,f q.1 q.2)) k=(valG t k).map (f k):=by
  induction t with
  | nil=>rfl
  | cons q t ih =>
    rw [List.map_cons,qk,qk,ih]
    by_cases h:q.1=k
    · rw [if_pos h,if_pos h,← h]; rfl
    · rw [if_neg h,if_neg h]
theorem zy8 (t:Tb) (homes):tb (exT t homes)=(exX t homes).tab (tb t):=by
  funext r c
  unfold tb Mt.Ex.tab exT
  exact zq9 (fun (k:Sg×Int) (x:Int)=>(exX t homes).wt k.1 k.2 x) t (r,c)
theorem zoz {R C:Type} [DecidableEq R] [DecidableEq C] {t:List ((R×C)×Int)} {r:R} {c:C} {x:Int} (h:tb t r c=some x):(r,c)∈za t:=zc3 h
theorem zfa (t:Tb) (homes):(exX t homes).Fits (tb t):=⟨zoy t,fun r c x h=>mem_nms.mpr ⟨c,zoz h⟩,fun r c x h=>mem_pls.mpr ⟨r,zoz h⟩⟩
def exW (table:(List ((Sg×Int)×Int))) (homes:(Option (List (Sg×Int)))) (Q:(List ((Sg×Int)×Int))→Prop):Prop :=
 tnW table fun t_=>tpW table fun t_1=>zcl t_ t_1 fun names places =>
 asgW ([(1:Int)]:(List Int)) fun powers =>
 qm names powers (fun (x_:Sg) (powers2:(List Int)) nxt =>
   ixW powers2 (-(1:Int)) fun t_2=>zr (CM t_2 ((places.length:Int) + (1:Int))) <| appW powers2 (t_2 * ((places.length:Int) + (1:Int))) fun powers3 =>
   nxt powers3) (fun (powers1:(List Int)) =>
   asgW ([]:(List ((Sg×Int)×Int))) fun found =>
   qm table found (fun (x_1:((Sg×Int)×Int)) (found2:(List ((Sg×Int)×Int))) nxt1 =>
     asgW x_1.1 fun p_ =>
     andW homes.isSome (fun k_1=>unW homes fun t_3=>andW (hasG t_3 p_.1) (fun k_=>unW homes fun t_4=>getW t_4 p_.1 fun t_5=>k_ (eqB t_5 p_.2)) fun t_6=>k_1 t_6) fun t_7=>asgW t_7 fun is_home =>
     idxW places p_.2 fun t_8=>idxW names p_.1 fun t_9=>ixW powers1 (((names.length:Int) - (1:Int)) - t_9) fun t_10=>zr (CM ((places.length:Int) - t_8) t_10) <| asgW (((places.length:Int) - t_8) * t_10) fun digit =>
     zr (CM x_1.2 ((names.length:Int) + (1:Int))) <| zr (CM ((x_1.2 * ((names.length:Int) + (1:Int))) + (1:Int)) ((names.length:Int) + (1:Int))) <| asgW ((((x_1.2 * ((names.length:Int) + (1:Int))) + (1:Int)) * ((names.length:Int) + (1:Int))) + (if is_home=true then (1:Int) else 0)) fun rank =>
     ixW powers1 (names.length:Int) fun t_11=>zr (CM rank t_11) <| putW found2 x_1.1 ((rank * t_11) + digit) fun found3 =>
     nxt1 found3) (fun (found1:(List ((Sg×Int)×Int))) =>
     retW found1 Q))
theorem zxi {α:Type} {xs:List α} {x:α} {n:Nat} (hn:xs.length=n + 1) (h:xs[n]? = some x):atI xs (-1)=some x:=by
  have e:ixN xs.length (-1)=some n:=by
    unfold ixN
    rw [if_neg (by decide),if_pos (by omega)]
    congr 1; omega
  unfold atI; rw [e]; exact h
theorem ztm {α:Type} {xs:List α} {x:α} {i:Int} {n:Nat} (hi:i=n) (h:xs[n]? = some x):atI xs i=some x:=by
  have hl:=(List.getElem?_eq_some_iff.mp h).1
  have e:ixN xs.length i=some n:=by
    unfold ixN
    rw [if_pos (by omega),if_pos (by omega)]
    congr 1; omega
  unfold atI; rw [e]; exact h
def idx {α:Type} [DecidableEq α] (xs:List α) (x:α):Nat:=xs.idxOf x
theorem ztn {α:Type} [DecidableEq α] {xs:List α} {x:α} (h:x∈xs):idx xs x < xs.length:=List.idxOf_lt_length_iff.mpr h
theorem zto {α:Type} [DecidableEq α] {xs:List α} {x:α} {k:Int→Prop} (h:x∈xs) (hk:k ((idx xs x:Nat):Int)):idxW xs x k:=by
  have hl:=List.idxOf_lt_length_iff.mpr h
  refine ⟨xs.idxOf x,?_,fun m hm e=>?_,hk⟩
  · rw [List.getElem?_eq_getElem hl,List.getElem_idxOf hl]
  · obtain ⟨h1,h2⟩:=List.getElem?_eq_some_iff.mp e
    have:=List.not_of_lt_findIdx (p:=fun y=>y == x) (xs:=xs) hm
    simp [h2] at this
def pows (K:Int) (n:Nat):List Int:=(List.range n).map fun i:Nat=>K ^ i
theorem zh8 {K:Int} {n i:Nat} (h:i < n):(pows K n)[i]? = some (K ^ i):=by simp [pows,h]
theorem ztp (K:Int) (n:Nat):pows K (n + 1)=pows K n++[K ^ n]:=by simp [pows,List.range_succ]
theorem take_snoc {α:Type} {xs:List α} {i:Nat} {x:α} (h:xs[i]? = some x):xs.take (i + 1)=xs.take i++[x]:=by
  rw [List.take_add_one,h]; rfl
theorem zvc {κ α:Type} [DecidableEq κ] {t:List (κ×α)} (nd:(za t).Nodup) {i:Nat} {k:κ} {v:α} (h:t[i]? = some (k,v)):putG (t.take i) k v=t.take (i + 1):=by
  have hk:(za t)[i]? = some k:=by unfold za; rw [List.getElem?_map,h]; rfl
  have e:za (t.take i)=(za t).take i:=by unfold za; rw [List.map_take]
  have nin:k ∉ za (t.take i):=fun z=>by
    rw [e] at z
    have nt:((za t).take (i + 1)).Nodup:=nd.sublist (List.take_sublist _ _)
    rw [take_snoc hk] at nt
    exact (List.nodup_append.mp nt).2.2 _ z _ (by simp) rfl
  rw [vd nin,take_snoc h]
theorem zz9 {t:Tb} {homes:Option (List (Sg×Int))} {Q:Tb→Prop} (nd:(za t).Nodup) (hl:t.length≤1000) {b:Nat} (hb:∀ q∈t,Bits b q.2) (h100:b≤100000) (h:Q (exT t homes)):exW t homes Q:=by
  have hz:(1000000:Nat) < sizeLine:=by decide
  have n1:=zxg t
  have n2:=zxh t
  refine zz7 (by omega) (zz8 (by omega) ?_)
  let K:Int:=((pls t).length:Int) + 1
  have bK:Bits 11 K:=Bits.of (by omega) (by show ((pls t).length:Int) + 1 < _; have:(2 ^ 11:Nat)=2048:=rfl; omega)
  have bP:∀ n,n≤1000→Bits 11100 (K ^ n):=fun n hn=>(Bits.pow bK n).mono (by omega)
  have bn:Bits 11 (((nms t).length:Int) + 1):=Bits.of (by omega) (by have:(2 ^ 11:Nat)=2048:=rfl; omega)
  refine ql (fun i (ps:List Int)=>ps=pows K (i + 1)) rfl ?_ ?_
  · rintro i x ps nx hx rfl hn
    have hi:=(List.getElem?_eq_some_iff.mp hx).1
    have lp:(pows K (i + 1)).length=i + 1:=by simp [pows]
    refine ⟨K ^ i,zxi lp (zh8 (Nat.lt_succ_self _)),?_⟩
    refine ⟨(bP i (by omega)).cm bK (by decide) (by decide) (by decide),by omega,hn _ ?_⟩
    rw [ztp K (i + 1),Int.pow_succ]
  · rintro ps rfl
    have lp:(pows K ((nms t).length + 1)).length=(nms t).length + 1:=by simp [pows]
    refine ql (fun i (found:Tb)=>found=(exT t homes).take i) rfl ?_ ?_
    · rintro i ⟨⟨n,p⟩,v⟩ found nx hx rfl hn
      have hm:((n,p),v)∈t:=List.mem_of_getElem? hx
      have hi:=(List.getElem?_eq_some_iff.mp hx).1
      have hk:(n,p)∈za t:=List.mem_map.mpr ⟨_,hm,rfl⟩
      have hn':n∈nms t:=mem_nms.mpr ⟨p,hk⟩
      have hp':p∈pls t:=mem_pls.mpr ⟨n,hk⟩
      have ln:=ztn hn'
      have lpl:=ztn hp'
      have fin:∀ b:Bool,b=zb0 homes n p→asgW b fun is_home =>
     idxW (pls t) p fun t_8=>idxW (nms t) n fun t_9=>ixW (pows K ((nms t).length + 1)) ((((nms t).length:Int) - (1:Int)) - t_9) fun t_10=>zr (CM (((pls t).length:Int) - t_8) t_10) <| asgW ((((pls t).length:Int) - t_8) * t_10) fun digit =>
     zr (CM v (((nms t).length:Int) + (1:Int))) <| zr (CM ((v * (((nms t).length:Int) + (1:Int))) + (1:Int)) (((nms t).length:Int) + (1:Int))) <| asgW ((((v * (((nms t).length:Int) + (1:Int))) + (1:Int)) * (((nms t).length:Int) + (1:Int))) + (if is_home=true then (1:Int) else 0)) fun rank =>
     ixW (pows K ((nms t).length + 1)) ((nms t).length:Int) fun t_11=>zr (CM rank t_11) <| putW ((exT t homes).take i) (n,p) ((rank * t_11) + digit) fun found3=>nx found3:=by
        rintro b rfl
        refine asgI ?_
        refine zto hp' ?_
        refine zto hn' ?_
        refine ixI (ztm (n:=(nms t).length - 1 - idx (nms t) n) (by omega) (zh8 (by omega))) ?_
        have b1:Bits 11 (((pls t).length:Int) - (idx (pls t) p:Nat)):=Bits.of (by omega) (by have:(2 ^ 11:Nat)=2048:=rfl; omega)
        refine qo (b1.cm (bP _ (by omega)) (by decide) (by decide) (by decide)) (asgI ?_)
        have bv:Bits (b + 1) v:=(hb _ hm).mono (by omega)
        refine qo (bv.cm bn (by omega) (by decide) (by omega)) ?_
        have b1':Bits (b + 12) 1:=by
          have:Bits 1 1:=by unfold Bits; decide
          exact this.mono (by omega)
        have b2:=(bv.mul bn).add (b1'.mono (by omega))
        refine qo (b2.cm bn (by omega) (by decide) (by omega)) (asgI ?_)
        have b3:Bits (b + 26) (((v * (((nms t).length:Int) + (1:Int))) + (1:Int)) * (((nms t).length:Int) + (1:Int)) + (if zb0 homes n p=true then (1:Int) else 0)):=by
          refine ((b2.mul bn).add ?_).mono (by omega)
          have:Bits 1 (if zb0 homes n p=true then (1:Int) else 0):=by split <;> (unfold Bits; decide)
          exact this.mono (by omega)
        refine ixI (ztm (n:=(nms t).length) rfl (zh8 (Nat.lt_succ_self _))) ?_
        refine qo (b3.cm (bP _ (by omega)) (by omega) (by decide) (by omega)) ?_
        refine putI (by rw [List.length_take]; omega) (hn _ ?_)
        refine zvc (by rw [zh7]; exact nd) ?_
        unfold exT
        rw [List.getElem?_map,hx]
        rfl
      refine asgI ?_
      cases homes with
      | none=>exact andI (fun z=>nomatch z) fun _=>fin false rfl
      | some d =>
        refine andI (fun _=>unI rfl ?_) (fun z=>nomatch z)
        cases e:valG d n with
        | none=>exact andI (fun z=>by unfold hasG at z; rw [e] at z; cases z) fun _=>fin false (by unfold zb0; simp [e])
        | some q =>
          refine andI (fun _=>unI rfl (getI e ?_)) (fun z=>by unfold hasG at z; rw [e] at z; cases z)
          refine fin _ ?_
          unfold zb0
          simp [e,eqB]
    · rintro found rfl
      show Q _
      rw [List.take_of_length_le (by simp [exT])]
      exact h
end Lb
end Mv
namespace Mv
namespace Mt
section
variable {R C:Type} [DecidableEq R] [DecidableEq C] {w:R→C→Option Int} {rs rs':List R} {f g:R→Option C} {u:R→Int} {p:C→Int}
def tr (w:R→C→Option Int):C→R→Option Int:=fun c r=>w r c
def Inv2 (f:R→Option C) (g:C→Option R):Prop:=∀ r c,f r=some c↔g c=some r
structure Best (w:R→C→Option Int) (rs:List R) (f:R→Option C):Prop where
  mt:Mat w rs f
  top:∀ g,Mat w rs g→V w rs g≤V w rs f
end
end Mt
end Mv
namespace Mv
namespace Lb
open PySem PySem.Spec PyProof.Rows L2 Tk
open Mt (Cert Mat Best zba PInv PFix worthOf tr Inv2 wOut)
section
variable {R C:Type} [DecidableEq R] [DecidableEq C]
abbrev Tab (R C:Type):=List ((R×C)×Int)
def cls (t:Tab R C):List C:=dd ((za t).map (·.2))
end
def gpT (t:Tb) (Q:(List (Sg×Int))→Prop):Prop:=gpW (zv (eP2 sD D.int) (za t)) t Q
def bcW (table:Tb) (homes:(Option (List (Sg×Int)))) (Q:(List (Sg×Int))→Prop):Prop:=exW table homes fun t_=>gpT t_ fun t_1=>retW t_1 Q
theorem zvd {t:Tb} {rs:List Sg} (nd:rs.Nodup) (h:∀ r,r∈rs↔∃ c,(r,c)∈za t):rs.Perm (nms t):=zhr nd (zoy t) fun a=>by rw [h,mem_nms]
theorem zy9 {t:Tb} {Q:List (Sg×Int)→Prop} (nd:(za t).Nodup) (hl:t.length≤1000000)
    (h:∀ (row:List (Sg×Int)) (u:Sg→Int) (p:Int→Int),(za row).Nodup→row.length≤t.length→Cert (tb t) (nms t) (fn row) u p→Q row):gpT t Q :=
  zz6 nd hl (ua _ _) fun rs row u p n1 m1 _ n2 l2 K=>h row u p n2 l2 (K.perm (zvd n1 m1))
structure IsBest (t:Tb) (homes:Option (List (Sg×Int))) (f:Sg→Option Int):Prop where
  mt:Mat (tb t) (nms t) f
  top:∀ g,Mat (tb t) (nms t) g→(exX t homes).le (tb t) g f
theorem IsBest.unique {t:Tb} {homes} {f g:Sg→Option Int} (A:IsBest t homes f) (B:IsBest t homes g):f=g :=
  Mt.Ex.anti (zfa t homes) A.mt B.mt (zy7 t) (B.top f A.mt) (A.top g B.mt)
theorem ztq {t t':Tb} (h:∀ k,k∈za t↔k∈za t'):nms t=nms t':=ztl fun a=>by
  rw [List.mem_map,List.mem_map]
  exact ⟨fun ⟨b,h1,e⟩=>⟨b,(h b).mp h1,e⟩,fun ⟨b,h1,e⟩=>⟨b,(h b).mpr h1,e⟩⟩
theorem zxj (t:Tb) (homes):nms (exT t homes)=nms t:=ztq fun k=>by rw [zh7]
theorem z0a {t:Tb} {homes:Option (List (Sg×Int))} {Q:List (Sg×Int)→Prop} (nd:(za t).Nodup) (hl:t.length≤1000) {b:Nat} (hb:∀ q∈t,Bits b q.2) (h100:b≤100000)
    (h:∀ row,(za row).Nodup→row.length≤t.length→IsBest t homes (fn row)→Q row):bcW t homes Q:=by
  have le:(exT t homes).length=t.length:=by simp [exT]
  refine zz9 nd hl hb h100 (zy9 (by rw [zh7]; exact nd) (by omega) fun row u p nr lr K=>h row nr (by omega) ?_)
  rw [zxj,zy8] at K
  exact ⟨(Mt.Ex.mat (zfa t homes)).mp K.mt,Mt.Ex.best (zfa t homes) ((Mt.Ex.mat (zfa t homes)).mp K.mt) fun g G=>K.best (zoy t) G⟩
structure Fit (t:Tb):Prop where
  nd:(za t).Nodup
  len:t.length≤1000
  bits:∃ b,b≤100000∧∀ q∈t,Bits b q.2
theorem Fit.bc {t:Tb} (F:Fit t) {homes:Option (List (Sg×Int))} {Q:List (Sg×Int)→Prop}
    (h:∀ row,(za row).Nodup→row.length≤t.length→IsBest t homes (fn row)→Q row):bcW t homes Q:=by
  obtain ⟨b,hb,h100⟩:=F.bits
  exact z0a F.nd F.len h100 hb h
end Lb
end Mv
namespace Mv
namespace Lb
open PySem PySem.Spec PyProof.Rows L2 Tk
theorem zfb {n:Int} {k:Int→Prop} (h1:0 < n) (h2:n < 1073741824) (h:∀ r,0≤r→r < n→k r):qr () n k:=⟨⟨h1,h2⟩,h⟩
theorem zra {α:Type} {xs:List α} {k:α→Prop} (h1:0 < xs.length) (h2:xs.length < 1073741824) (h:∀ x∈xs,k x):ur () xs k:=⟨⟨h1,h2⟩,h⟩
theorem zjw {lo hi:Int} {k:List Int→Prop} (h1:-1000000≤lo∧lo≤1000000) (h2:-1000000≤hi∧hi≤1000000) (h:k (zab lo hi)):zad lo hi k:=⟨⟨by omega,by omega,by omega,by omega⟩,h⟩
theorem zl2 (lo hi:Int):(zab lo hi).length=(hi - lo).toNat:=by simp [zab]
theorem mem_range {lo hi x:Int}:x∈zab lo hi↔lo≤x∧x < hi:=by
  unfold zab
  simp only [List.mem_map,List.mem_range]
  constructor
  · rintro ⟨i,h,rfl⟩; omega
  · intro ⟨h1,h2⟩; exact ⟨(x - lo).toNat,by omega,by omega⟩
theorem x9:(1000000:Nat) < sizeLine:=by decide
theorem ztr {n:Nat} (h:n≤1000000):n < sizeLine:=by have:=x9; omega
theorem z0b {ι:Type} {xs:List ι} {body:ι→Prop→Prop} {k:Prop} (hs:∀ x∈xs,∀ nx:Prop,nx→body x nx) (hk:k):zdj xs body k:=by
  refine zs7 (fun _=>True) trivial (fun i x nx hx _ h=>hs x (List.mem_of_getElem? hx) nx (h trivial)) fun _=>hk
theorem mem_put {κ α:Type} [DecidableEq κ] {t:List (κ×α)} {k:κ} {v:α} {q:κ×α} (h:q∈putG t k v):q∈t∨q=(k,v):=by
  by_cases e:k∈za t
  · rw [zbi e] at h
    obtain ⟨a,ha,rfl⟩:=List.mem_map.mp h
    split
    · rename_i z; subst z; exact .inr rfl
    · exact .inl ha
  · rw [vd e] at h
    rcases List.mem_append.mp h with h | h
    · exact .inl h
    · exact .inr (by simpa using h)
end Lb
end Mv
namespace Mv
namespace Lb
open PySem PySem.Spec PyProof.Rows L2 Tk
open Mt (Cert Mat Best zba PInv PFix worthOf tr Inv2 wOut)
theorem zmb {κ α:Type} [DecidableEq κ] {t:List (κ×α)} (nd:(za t).Nodup) (c:κ→Bool) (k:κ):valG (t.filter fun q=>c q.1) k=if c k=true then valG t k else none:=by
  induction t with
  | nil=>simp [valG]
  | cons q t ih =>
    obtain ⟨n1,n2⟩:=List.nodup_cons.mp (show (q.1 :: za t).Nodup from nd)
    rw [List.filter_cons]
    by_cases e:c q.1=true
    · rw [if_pos e,qk,qk,ih n2]
      by_cases h:q.1=k
      · subst h; rw [if_pos rfl,if_pos e,if_pos rfl]
      · rw [if_neg h,if_neg h]
    · rw [if_neg e,ih n2,qk]
      by_cases h:q.1=k
      · subst h
        rw [if_neg e,if_neg e]
      · rw [if_neg h]
theorem zjx {κ α:Type} {t:List (κ×α)} (nd:(za t).Nodup) (p:κ×α→Bool):(za (t.filter p)).Nodup:=nd.sublist (List.Sublist.map _ List.filter_sublist)
theorem keys_at {κ α:Type} {t:List (κ×α)} {i:Nat} {k:κ} (h:(za t)[i]? = some k):∃ v,t[i]? = some (k,v):=by
  unfold za at h
  rw [List.getElem?_map] at h
  obtain ⟨q,hq,rfl⟩:=Option.map_eq_some_iff.mp h
  exact ⟨q.2,hq⟩
theorem zpy {κ α:Type} [DecidableEq κ] {t:List (κ×α)} (c:κ→Bool) {K:List (κ×α)→Prop} (nd:(za t).Nodup) (hl:t.length≤1000000) (h:K (t.filter fun q=>c q.1)) :
    xy (za t) ([]:List (κ×α)) (fun x acc nxt=>ifW (c x) (getW t x fun v=>putW acc x v nxt) (nxt acc)) K:=by
  refine qo (by rw [z7]; exact Nat.le_of_lt (ztr hl)) ?_
  refine ql (fun i (u:List (κ×α))=>u=(t.take i).filter fun q=>c q.1) rfl ?_ ?_
  · rintro i k u nx hk rfl hn
    obtain ⟨v,hv⟩:=keys_at hk
    have hval:=xt nd (List.mem_of_getElem? hv)
    have hi:=(List.getElem?_eq_some_iff.mp hv).1
    refine ifI (fun e=>getI hval (putI (ztr ?_) (hn _ ?_))) fun e=>hn _ ?_
    · exact Nat.le_trans (List.length_filter_le _ _) (by rw [List.length_take]; omega)
    · have nin:k ∉ za ((t.take i).filter fun q=>c q.1):=fun z=>by
        obtain ⟨q,hq,rfl⟩:=List.mem_map.mp z
        have hq':=(List.mem_filter.mp hq).1
        have hk2:q.1∈(za t).take i:=by unfold za; rw [← List.map_take]; exact List.mem_map.mpr ⟨q,hq',rfl⟩
        have nt:((za t).take (i + 1)).Nodup:=nd.sublist (List.take_sublist _ _)
        rw [take_snoc hk] at nt
        exact (List.nodup_append.mp nt).2.2 _ hk2 _ (by simp) rfl
      rw [vd nin,take_snoc hv,List.filter_append]
      simp [e]
    · rw [take_snoc hv,List.filter_append]
      simp [e]
  · rintro u rfl
    rw [z7,List.take_length]; exact h
theorem Fit.filter {t:Tb} (F:Fit t) (p:(Sg×Int)×Int→Bool):Fit (t.filter p):=by
  obtain ⟨b,h1,h2⟩:=F.bits
  exact ⟨zjx F.nd p,Nat.le_trans (List.length_filter_le _ _) F.len,b,h1,fun q hq=>h2 q (List.mem_filter.mp hq).1⟩
theorem zts {t:Tb} (nd:(za t).Nodup) (c:Sg×Int→Bool) (n:Sg) (p:Int):tb (t.filter fun q=>c q.1) n p=if c (n,p)=true then tb t n p else none:=zmb nd c (n,p)
end Lb
end Mv
namespace Mv
namespace Lb
open PySem PySem.Spec PyProof.Rows L2 Tk
open Mt (Cert Mat Best zba)
section
variable {ι A0 A1:Type}
theorem zxk {xs:List ι} {a:A0} {body:ι→A0→(A0→Prop)→Prop} {k:A0→Prop} (g:A0→ι→A0)
    (hs:∀ i x nx,xs[i]? = some x→nx (g ((xs.take i).foldl g a) x)→body x ((xs.take i).foldl g a) nx) (hk:k (xs.foldl g a)):qm xs a body k:=by
  refine ql (fun i acc=>acc=(xs.take i).foldl g a) rfl ?_ ?_
  · rintro i x acc nx hx rfl hn
    refine hs i x nx hx (hn _ ?_)
    rw [take_snoc hx,List.foldl_append]; rfl
  · rintro acc rfl
    rw [List.take_length]; exact hk
def addO {β:Type} (acc:List β):Option β→List β
  | some y=>acc++[y]
  | none=>acc
theorem zel {β:Type} (f:ι→Option β):∀ (xs:List ι) (a:List β),xs.foldl (fun acc x=>addO acc (f x)) a=a++xs.filterMap f
  | [],a=>by simp
  | x :: xs,a=>by
    rw [List.foldl_cons,zel f xs,List.filterMap_cons]
    cases f x with
    | none=>rfl
    | some y=>simp [addO]
end
abbrev Row:=List (Sg×Int)
end Lb
end Mv
namespace Mv
namespace Lb
open PySem PySem.Spec PyProof.Rows L2 Tk
end Lb
end Mv
namespace Mv
namespace Mt
section
variable {R C:Type} [DecidableEq R] [DecidableEq C] {w:R→C→Option Int} {rs:List R} {f:R→Option C} {u u' u2:R→Int} {p p' p2:C→Int}
end
section
variable {R C:Type} [DecidableEq R] [DecidableEq C] {w:R→C→Option Int} {f g:R→Option C}
theorem zza (w:R→C→Option Int) (f:R→Option C) (r:R) (rs:List R):V w (r :: rs) f=val w f r + V w rs f:=by
  unfold V; rw [List.map_cons,List.sum_cons]
theorem zzb {w w':R→C→Option Int} {f g:R→Option C} {rs:List R} (h:∀ r,r∈rs→val w f r=val w' g r):V w rs f=V w' rs g:=by
  unfold V; rw [List.map_congr_left h]
def z0c (w:R→C→Option Int) (pre:List R) (f:R→Option C) (r:R) (c:C):Option Int:=if r ∉ pre∧(∀ m∈pre,f m≠some c) then w r c else none
def zjy (w:R→C→Option Int) (n:R) (s:C) (r:R) (c:C):Option Int:=if r≠n∧c≠s then w r c else none
theorem zjz {n r:R} {s c:C} {x:Int} (h:zjy w n s r c=some x):r≠n∧c≠s∧w r c=some x:=by
  unfold zjy at h
  split at h
  · rename_i q; exact ⟨q.1,q.2,h⟩
  · cases h
theorem zh9 {r:R} {c:C} {x:Int} (h:f r=some c) (hx:w r c=some x):val w f r=x:=by unfold val; rw [h]; simp [hx]
theorem zo0 {r:R} (h:f r=none):val w f r=0:=by unfold val; rw [h]
theorem ins {n:R} {s:C} {x:Int} {rs:List R} (hn:n ∉ rs) (hx:w n s=some x) (G:Mat (zjy w n s) rs g) :
    Mat w (n :: rs) (fun r=>if r=n then some s else g r)∧V w (n :: rs) (fun r=>if r=n then some s else g r)=x + V (zjy w n s) rs g:=by
  have gw:∀ r c,g r=some c→r∈rs∧r≠n∧c≠s∧∃ x,w r c=some x:=fun r c e=>by
    obtain ⟨a,y,hy⟩:=G.dom r c e
    obtain ⟨b1,b2,b3⟩:=zjz hy
    exact ⟨a,b1,b2,y,b3⟩
  refine ⟨⟨fun r c e=>?_,fun r r' c e e'=>?_⟩,?_⟩
  · by_cases q:r=n
    · simp only [q,if_true] at e; cases e; subst q; exact ⟨List.mem_cons_self ..,x,hx⟩
    · simp only [q,if_false] at e
      obtain ⟨a,_,_,y,hy⟩:=gw r c e
      exact ⟨List.mem_cons_of_mem _ a,y,hy⟩
  · by_cases q:r=n <;> by_cases q':r'=n
    · rw [q,q']
    · simp only [q,q',if_true,if_false] at e e'
      cases e; exact absurd rfl (gw r' s e').2.2.1
    · simp only [q,q',if_true,if_false] at e e'
      cases e'; exact absurd rfl (gw r s e).2.2.1
    · simp only [q,q',if_false] at e e'; exact G.inj r r' c e e'
  · rw [zza]
    congr 1
    · exact zh9 (c:=s) (by simp) hx
    · refine zzb fun r hr=>?_
      have q:r≠n:=fun z=>hn (z ▸ hr)
      cases e:g r with
      | none=>rw [zo0 (f:=g) e,zo0 (by simp only [q,if_false]; exact e)]
      | some c =>
        obtain ⟨_,y,hy⟩:=G.dom r c e
        rw [zh9 e hy,zh9 (c:=c) (x:=y) (by simp only [q,if_false]; exact e) (zjz hy).2.2]
variable {X:Ex R C}
end
end Mt
end Mv
namespace Mv
namespace Lb
open PySem PySem.Spec PyProof.Rows L2 Tk
open Mt (Cert Mat Best zba PInv PFix worthOf tr Inv2 wOut)
section
variable {κ:Type} [DecidableEq κ]
theorem zv1 {d:List (κ×Int)} {k:κ} (h:k∈za d):valG d k=some (Tk.pv d k):=by
  obtain ⟨v,hv⟩:=zae h
  have hv':valG d k=some v:=hv
  unfold Tk.pv; rw [hv']; rfl
end
theorem ztt {a b:Lb.Row} (na:(za a).Nodup) (nb:(za b).Nodup) (h:fn a=fn b):zac a b=true:=by
  unfold zac
  rw [Bool.and_eq_true,List.all_eq_true]
  refine ⟨?_,fun q hq=>?_⟩
  · have:(za a).Perm (za b):=(List.perm_ext_iff_of_nodup na nb).mpr fun k=>by
      constructor
      · intro z; obtain ⟨v,hv⟩:=zae z; exact zc3 (t:=b) (v:=v) (by rw [← h]; exact hv)
      · intro z; obtain ⟨v,hv⟩:=zae z; exact zc3 (t:=a) (v:=v) (by rw [h]; exact hv)
    have:=this.length_eq
    rw [z7,z7] at this
    simpa using this
  · have e:fn a q.1=some q.2:=xt na (show (q.1,q.2)∈a from hq)
    rw [h] at e
    exact decide_eq_true e
theorem z0d {A:Type} {K:A→Prop} {B:(A→Prop)→Prop} (h:∀ c:A→Prop,(∀ a,K a→c a)→B c):ze6 K B:=h K fun a h=>h
end Lb
end Mv
namespace Mv
namespace Lc
open PySem PySem.Spec PyProof.Rows L2 Tk Lb
theorem erase_perm {α:Type}:∀ {xs:List α} {j:Nat} (h:j < xs.length),(xs[j] :: xs.eraseIdx j).Perm xs
  | x :: xs,0,_=>List.Perm.refl _
  | x :: xs,j + 1,h=>(List.Perm.swap _ _ _).trans (List.Perm.cons x (erase_perm (xs:=xs) (j:=j) (by simpa using h)))
theorem popI {α:Type} {xs:List α} {i:Int} {k:α→List α→Prop} (h0:0≤i) (h1:i < (xs.length:Int)) (hl:xs.length≤1000000) (h:∀ x r,(x :: r).Perm xs→k x r):popW xs i k:=by
  obtain ⟨j,rfl⟩:∃ j:Nat,i=(j:Int):=⟨i.toNat,by omega⟩
  have hj:j < xs.length:=by omega
  refine ⟨by omega,j,xs[j],?_,List.getElem?_eq_getElem hj,h _ _ (erase_perm hj)⟩
  unfold seqIndex?
  simp only [show ¬ ((j:Int) < 0) by omega,if_false]
  rw [if_pos (by simp; omega)]
  simp
def sB:Sg:=⟨"b", by decide +kernel⟩
def sAb:Sg:=⟨"ab", by decide +kernel⟩
def sRed:Sg:=⟨"red", by decide +kernel⟩
def sZz:Sg:=⟨"zz", by decide +kernel⟩
def sNew:Sg:=⟨"new", by decide +kernel⟩
def ids9:List Int:=[1,2,3,4,5,6,7,8,9]
def drW (zi:Unit) (Q:((List (List Int))×(List (Int×Sg))×(List (Int×Int))×(List (Sg×Int)))→Prop):Prop :=
 rgW (1:Int) (10:Int) fun t_=>zcl t_ ([]:(List (List Int))) fun left groups =>
 qr zi (5:Int) fun t_1=>zad 0 t_1 fun t_2=>yi t_2 left groups (fun (x_:Int) (left2:(List Int)) (groups2:(List (List Int))) nxt =>
   asgW ([]:(List Int)) fun group =>
   qr zi (3:Int) fun t_3=>zad 0 ((1:Int) + t_3) fun t_4=>yi t_4 left2 group (fun (x_1:Int) (left4:(List Int)) (group2:(List Int)) nxt1 =>
     ifW (!eqB left4 ([]:(List Int)))
      (qr zi (left4.length:Int) fun t_5=>popW left4 t_5 fun t_6 left5=>appW group2 t_6 fun group3 =>
       nxt1 left5 group3)
      (nxt1 left4 group2)) (fun (left3:(List Int)) (group1:(List Int)) =>
     zr (group1.length≤16777216) <| zr (-(2 ^ 63)≤(if (!eqB group1 ([]:(List Int)))=true then (1:Int) else 0)∧(if (!eqB group1 ([]:(List Int)))=true then (1:Int) else 0) < 2 ^ 63∧([(zv D.int group1)]:(List (List Int))).length * ((if (!eqB group1 ([]:(List Int)))=true then (1:Int) else 0)).toNat≤sizeLine) <| zr (groups2.length + (List.replicate ((if (!eqB group1 ([]:(List Int)))=true then (1:Int) else 0)).toNat ([(zv D.int group1)]:(List (List Int)))).flatten.length≤sizeLine) <| asgW (groups2++(List.replicate ((if (!eqB group1 ([]:(List Int)))=true then (1:Int) else 0)).toNat ([(zv D.int group1)]:(List (List Int)))).flatten) fun groups3 =>
     nxt left3 groups3)) (fun (left1:(List Int)) (groups1:(List (List Int))) =>
   zcl ([]:(List (Int×Sg))) ([]:(List (Int×Int))) fun labels weights =>
   zad (1:Int) (10:Int) fun t_7=>yi t_7 labels weights (fun (x_2:Int) (zrb:(List (Int×Sg))) (weights2:(List (Int×Int))) nxt2 =>
     ze6 (fun (zxl:(List (Int×Sg))) =>
       qr zi (9:Int) fun t_10=>zr (CPw (10:Int) (6:Int)) <| ur () ([(1:Int),(1:Int),(2:Int),(3:Int),((1:Int) + t_10),((10:Int) ^ ((6:Int)).toNat)]:(List Int)) fun t_11=>putW weights2 x_2 t_11 fun weights3 =>
       nxt2 zxl weights3) fun cont =>
     qr zi (4:Int) fun t_8=>ifW (decide ((0:Int) < t_8))
      (ur () ([sB,sAb,sRed,sZz]:(List Sg)) fun t_9=>putW zrb x_2 t_9 fun labels4 =>
     cont labels4)
      (cont zrb)) (fun (zxm:(List (Int×Sg))) (weights1:(List (Int×Int))) =>
     asgW ([]:(List (Sg×Int))) fun stuck =>
     qm ([sRed,sAb,sB,sZz,sNew]:(List Sg)) stuck (fun (x_3:Sg) (stuck2:(List (Sg×Int))) nxt3 =>
       qr zi (3:Int) fun t_12=>ifW (eqB t_12 (0:Int))
        (qr zi (12:Int) fun t_13=>putW stuck2 x_3 ((1:Int) + t_13) fun stuck3 =>
         nxt3 stuck3)
        (nxt3 stuck2)) (fun (stuck1:(List (Sg×Int))) =>
       retW (groups1,zxm,weights1,stuck1) Q)))
structure Drw (gs:List (List Int)) (lb:List (Int×Sg)) (wt:List (Int×Int)) (pn:List (Sg×Int)):Prop where
  gl:gs.length≤4
  nd:gs.flatten.Nodup
  rng:∀ i∈gs.flatten,i∈ids9
  ne:∀ g∈gs,g≠[]
  lk:(za lb).Nodup
  ll:lb.length≤9
  wk:∀ i∈ids9,∃ w,valG wt i=some w∧1≤w∧w≤1000000
  pk:(za pn).Nodup
  pl:pn.length≤5
  lv:∀ q∈lb,q.1∈ids9∧q.2∈[sB,sAb,sRed,sZz]
  wl:wt.length≤9
  wn:(za wt).Nodup
  wv:∀ q∈wt,q.1∈ids9∧1≤q.2∧q.2≤1000000
  pv:∀ q∈pn,q.1∈[sRed,sAb,sB,sZz,sNew]∧1≤q.2∧q.2≤12
theorem zia {κ α:Type} [DecidableEq κ] {t:List (κ×α)} {k:κ} {v:α} {P:κ×α→Prop} (h:∀ q∈t,P q) (hp:P (k,v)):∀ q∈putG t k v,P q:=fun q hq=>by
  rcases Lb.mem_put hq with z | z
  · exact h q z
  · rw [z]; exact hp
theorem zzc:ids9.Nodup:=by decide
theorem zve {Q:((List (List Int))×(List (Int×Sg))×(List (Int×Int))×(List (Sg×Int)))→Prop} (h:∀ gs lb wt pn,Drw gs lb wt pn→Q (gs,lb,wt,pn)):drW () Q:=by
  have hz:=x9
  have er:zab 1 10=ids9:=by decide
  refine qo (by unfold RgOk; decide) ?_
  rw [er]
  refine ztk (zfb (by decide) (by decide) fun ng g0 g1=>zjw (by decide) (by omega) ?_)
  refine zdk (fun i (left:List Int) (groups:List (List Int))=>(left++groups.flatten).Perm ids9∧groups.length≤i∧∀ g∈groups,g≠[]) ⟨by simp,Nat.le_refl _,by simp⟩ ?_ ?_
  · rintro i x left groups nx hx ⟨i1,i2,i3⟩ hn
    have hi:=(List.getElem?_eq_some_iff.mp hx).1
    rw [zl2] at hi
    refine asgI (zfb (by decide) (by decide) fun m m0 m1=>zjw (by decide) (by omega) ?_)
    refine zdk (fun j (left:List Int) (group:List Int)=>(left++group++groups.flatten).Perm ids9) (by simpa using i1) ?_ ?_
    · rintro j y lf gr nx2 hy J hn2
      have hlen:=J.length_eq
      simp only [List.length_append] at hlen
      have h9:ids9.length=9:=rfl
      rw [h9] at hlen
      refine ifI (fun q=>?_) fun q=>hn2 _ _ J
      have hpos:0 < lf.length:=by
        cases lf with
        | nil=>simp [eqB] at q
        | cons a l=>simp
      refine zfb (by omega) (by omega) fun d d0 d1=>popI d0 d1 (by omega) fun z r hp=>appI (by omega) (hn2 _ _ ?_)
      refine List.Perm.trans ?_ J
      refine List.Perm.append_right _ ?_
      refine List.Perm.trans ?_ (List.Perm.append_right gr hp)
      rw [← List.append_assoc]
      refine List.Perm.trans List.perm_append_comm ?_
      rw [List.singleton_append,List.cons_append]
    · rintro lf gr J
      have hlen:=J.length_eq
      simp only [List.length_append] at hlen
      have h9:ids9.length=9:=rfl
      rw [h9] at hlen
      by_cases q:gr=[]
      · subst q
        refine qo (by simp) (qo (by simp [eqB]) (qo (by simp [eqB]; omega) (asgI (hn _ _ ?_))))
        simp only [eqB,decide_true,Bool.not_true,Bool.false_eq_true,if_false]
        refine ⟨by simpa using J,by simp; omega,by simpa using i3⟩
      · refine qo (by omega) (qo (by simp [eqB,q]; omega) (qo (by simp [eqB,q]; omega) (asgI (hn _ _ ?_))))
        simp only [eqB,decide_eq_false q,Bool.not_false,if_true]
        refine ⟨?_,by simp; omega,fun g hg=>?_⟩
        · refine List.Perm.trans ?_ J
          have:(groups++(List.replicate (1:Int).toNat ([zv D.int gr]:List (List Int))).flatten).flatten=groups.flatten++zv D.int gr:=by simp
          rw [this,List.append_assoc]
          refine List.Perm.append_left _ ?_
          exact List.perm_append_comm.trans (List.Perm.append_right _ (ua _ _))
        · rcases List.mem_append.mp hg with z | z
          · exact i3 g z
          · have:g=zv D.int gr:=by simpa using z
            rw [this]
            intro e
            have:=(ua D.int gr).length_eq
            rw [e] at this
            exact q (List.length_eq_zero_iff.mp this.symm)
  · rintro left groups ⟨i1,i2,i3⟩
    rw [zl2] at i2
    refine ztk (zjw (by decide) (by decide) ?_)
    rw [er]
    refine zdk (fun i (lb:List (Int×Sg)) (wt:List (Int×Int))=>((za lb).Nodup∧lb.length≤i∧wt.length≤i∧∀ k∈ids9.take i,∃ w,valG wt k=some w∧1≤w∧w≤1000000)∧(∀ q∈lb,q.1∈ids9∧q.2∈[sB,sAb,sRed,sZz])∧(za wt).Nodup∧(∀ q∈wt,q.1∈ids9∧1≤q.2∧q.2≤1000000)) ⟨⟨.nil,Nat.le_refl _,Nat.le_refl _,by simp⟩,(fun q h=>nomatch h),.nil,(fun q h=>nomatch h)⟩ ?_ ?_
    · rintro i x lb wt nx hx ⟨⟨j1,j2,j3,j4⟩,j5,j6,j7⟩ hn
      have hx9:x∈ids9:=List.mem_of_getElem? hx
      have hi:=(List.getElem?_eq_some_iff.mp hx).1
      have h9:ids9.length=9:=rfl
      rw [h9] at hi
      have tk:ids9.take (i + 1)=ids9.take i++[x]:=by rw [List.take_succ,hx]; rfl
      refine z0d fun cont hc=>?_
      have fin:∀ lb',(za lb').Nodup→lb'.length≤i + 1→(∀ q∈lb',q.1∈ids9∧q.2∈[sB,sAb,sRed,sZz])→cont lb':=fun lb' a b c=>hc lb' (zfb (by decide) (by decide) fun d d0 d1=>qo ⟨by decide,by decide +kernel⟩ (zra (by simp) (by simp) fun w hw=>putI (by omega) (by
        have e6:(10:Int) ^ ((6:Int)).toNat=1000000:=rfl
        have hw2:1≤w∧w≤1000000:=by
          have hw:=hw
          simp only [List.mem_cons,List.not_mem_nil,or_false] at hw
          rw [e6] at hw
          omega
        exact hn _ _ ⟨⟨a,b,Nat.le_trans (vo _ _ _) (by omega),fun k hk=>by
          rw [jm]
          by_cases q:k=x
          · rw [if_pos q]; exact ⟨w,rfl,hw2⟩
          · rw [if_neg q]
            rw [tk,List.mem_append,List.mem_singleton] at hk
            exact j4 k (hk.resolve_right q)⟩,c,xk j6 _ _,zia j7 ⟨hx9,hw2⟩⟩)))
      exact zfb (by decide) (by decide) fun d d0 d1=>ifI (fun _=>zra (by simp) (by simp) fun l hl=>putI (by omega) (fin _ (xk j1 _ _) (Nat.le_trans (vo _ _ _) (by omega)) (zia j5 ⟨hx9,hl⟩))) fun _=>fin _ j1 (by omega) j5
    · rintro lb wt ⟨⟨j1,j2,j3,j4⟩,j5,j6,j7⟩
      have h9:ids9.length=9:=rfl
      rw [List.take_length] at j4
      rw [h9] at j2 j3
      refine asgI ?_
      refine ql (fun i (pn:List (Sg×Int))=>(za pn).Nodup∧pn.length≤i∧∀ q∈pn,q.1∈[sRed,sAb,sB,sZz,sNew]∧1≤q.2∧q.2≤12) ⟨.nil,Nat.le_refl _,(fun q h=>nomatch h)⟩ ?_ ?_
      · rintro i x pn nx hx ⟨k1,k2,k3⟩ hn
        have hi:=(List.getElem?_eq_some_iff.mp hx).1
        have h5:([sRed,sAb,sB,sZz,sNew]:List Sg).length=5:=rfl
        rw [h5] at hi
        exact zfb (by decide) (by decide) fun d d0 d1=>ifI (fun _=>zfb (by decide) (by decide) fun e e0 e1=>putI (by omega) (hn _ ⟨xk k1 _ _,Nat.le_trans (vo _ _ _) (by omega),zia k3 ⟨List.mem_of_getElem? hx,by show 1≤1 + e; omega,by show 1 + e≤12; omega⟩⟩)) fun _=>hn _ ⟨k1,by omega,k3⟩
      · rintro pn ⟨k1,k2,k3⟩
        have nd:=i1.nodup_iff.mpr zzc
        exact h _ _ _ _ ⟨by omega,(List.nodup_append.mp nd).2.1,fun i hi=>i1.mem_iff.mp (List.mem_append_right _ hi),i3,j1,j2,j4,k1,k2,j5,j3,j6,j7,k3⟩
end Lc
end Mv
namespace Mv
namespace Lc
open PySem PySem.Spec PyProof.Rows L2 Tk Lb
open Mt (Mat Best)
def prs (xs:List (Int×List Int)):List (Int×Int):=xs.flatMap fun (x:Int×List Int)=>x.2.map fun (i:Int)=>(x.1,i)
theorem zem (xs ys:List (Int×List Int)):prs (xs++ys)=prs xs++prs ys:=by unfold prs; rw [List.flatMap_append]
theorem nest {A:Type} {xs:List (Int×List Int)} {a:A} (wrap:Int×List Int→Prop→Prop) (hw:∀ x∈xs,∀ P:Prop,P→wrap x P) (g:A→Int×Int→A) {body:Int×List Int→Int→A→(A→Prop)→Prop} {k:A→Prop}
    (hs:∀ pre y post x,prs xs=pre++y :: post→x.1=y.1→∀ nx,nx (g (pre.foldl g a) y)→body x y.2 (pre.foldl g a) nx) (hk:k ((prs xs).foldl g a)) :
    qm xs a (fun x acc nx=>wrap x (qm x.2 acc (fun i acc2 nx2=>body x i acc2 nx2) (fun acc3=>nx acc3))) k:=by
  refine ql (fun n (acc:A)=>acc=(prs (xs.take n)).foldl g a) rfl ?_ ?_
  · rintro n x acc nx hx rfl hn
    have ex:=(List.getElem?_eq_some_iff.mp hx).2
    have e:xs=xs.take n++x :: xs.drop (n + 1):=by rw [← ex,List.getElem_cons_drop,List.take_append_drop]
    have tk:xs.take (n + 1)=xs.take n++[x]:=by rw [List.take_succ,hx]; rfl
    refine hw x (List.mem_of_getElem? hx) _ ?_
    refine ql (fun j (acc:A)=>acc=(prs (xs.take n)++(x.2.take j).map fun (i:Int)=>(x.1,i)).foldl g a) (by simp) ?_ ?_
    · rintro j i acc nx2 hi rfl hn2
      have ei:=(List.getElem?_eq_some_iff.mp hi).2
      have e2:x.2=x.2.take j++i :: x.2.drop (j + 1):=by rw [← ei,List.getElem_cons_drop,List.take_append_drop]
      have tk2:x.2.take (j + 1)=x.2.take j++[i]:=by rw [List.take_succ,hi]; rfl
      refine hs _ (x.1,i) ((x.2.drop (j + 1)).map (fun (i:Int)=>(x.1,i))++prs (xs.drop (n + 1))) x ?_ rfl nx2 (hn2 _ ?_)
      · conv=>lhs; rw [e,zem]
        have:prs (x :: xs.drop (n + 1))=(x.2.map fun (i:Int)=>(x.1,i))++prs (xs.drop (n + 1)):=by unfold prs; rw [List.flatMap_cons]
        rw [this]
        conv=>lhs; rw [e2,List.map_append,List.map_cons]
        simp
      · rw [tk2,List.map_append,← List.append_assoc,List.foldl_append (l':=List.map _ [i])]
        rfl
    · rintro acc rfl
      refine hn _ ?_
      rw [List.take_length,tk,zem]
      have:prs [x]=x.2.map fun (i:Int)=>(x.1,i):=by unfold prs; simp
      rw [this]
  · rintro acc rfl
    rw [List.take_length]; exact hk
theorem zvf {α:Type} (xs:List α):(z5 xs).map (·.2)=xs:=by
  unfold z5
  rw [List.map_map]
  exact List.zipIdx_map_fst 0 xs
theorem zxn (xs:List (Int×List Int)):(prs xs).map (·.2)=(xs.map (·.2)).flatten:=by
  unfold prs
  induction xs with
  | nil=>rfl
  | cons x xs ih =>
    rw [List.flatMap_cons,List.map_append,ih,List.map_cons,List.flatten_cons,List.map_map]
    congr 1
    exact List.map_id _
theorem mem_enum {α:Type} {xs:List α} {p:Int} {x:α}:(p,x)∈z5 xs↔∃ n:Nat,p=(n:Int)∧xs[n]? = some x:=by
  unfold z5
  rw [List.mem_map]
  constructor
  · rintro ⟨⟨y,n⟩,h,e⟩
    have h2:=List.mk_mem_zipIdx_iff_getElem?.mp h
    cases e
    exact ⟨n,rfl,h2⟩
  · rintro ⟨n,rfl,h⟩
    exact ⟨(x,n),List.mk_mem_zipIdx_iff_getElem?.mpr h,rfl⟩
abbrev gp (gs:List (List Int)):List (Int×Int):=prs (z5 gs)
theorem mem_gp {gs:List (List Int)} {p i:Int}:(p,i)∈gp gs↔∃ (n:Nat) (g:List Int),p=(n:Int)∧gs[n]? = some g∧i∈g:=by
  unfold gp prs
  rw [List.mem_flatMap]
  constructor
  · rintro ⟨⟨q,g⟩,h,h2⟩
    obtain ⟨j,hj,e⟩:=List.mem_map.mp h2
    cases e
    obtain ⟨n,rfl,hg⟩:=mem_enum.mp h
    exact ⟨n,g,rfl,hg,hj⟩
  · rintro ⟨n,g,rfl,hg,hi⟩
    exact ⟨((n:Int),g),mem_enum.mpr ⟨n,rfl,hg⟩,List.mem_map.mpr ⟨i,hi,rfl⟩⟩
theorem zj0 (gs:List (List Int)):(gp gs).map (·.2)=gs.flatten:=by rw [zxn,zvf]
section
variable {gs:List (List Int)}
end
def poW (groups:(List (List Int))) (Q:(List (Int×Int))→Prop):Prop :=
 xy (z5 groups) ([]:(List (Int×Int))) (fun (x_:(Int×(List Int))) (acc:(List (Int×Int))) (nxt:(List (Int×Int))→Prop)=>xy x_.2 acc (fun (x_1:Int) (acc1:(List (Int×Int))) (nxt1:(List (Int×Int))→Prop)=>putW acc1 x_1 x_.1 nxt1) nxt) fun t_=>retW t_ Q
def plT (gs:List (List Int)):List (Int×Int):=(gp gs).map fun (y:Int×Int)=>(y.2,y.1)
theorem zvg (gs:List (List Int)):za (plT gs)=gs.flatten:=by
  rw [← zj0]
  unfold plT za; rw [List.map_map]; rfl
theorem zib:∀ (ys acc:List (Int×Int)),(za acc++ys.map (·.2)).Nodup→ys.foldl (fun (acc:List (Int×Int)) (y:Int×Int)=>putG acc y.2 y.1) acc=acc++ys.map fun (y:Int×Int)=>(y.2,y.1)
  | [],acc,_=>by simp
  | y :: ys,acc,h=>by
    have hy:y.2 ∉ za acc:=fun z=>(List.nodup_append.mp h).2.2 _ z _ (List.mem_cons_self ..) rfl
    rw [List.foldl_cons,vd hy,zib ys _ (by unfold za at *; simpa using h)]
    simp
end Lc
end Mv
namespace Mv
namespace Lb
open PySem PySem.Spec PyProof.Rows L2 Tk
open Mt (Cert Mat Best zba z0c zjy)
section
variable {n:Nat} {W:Nat→Sg} {t:Tb}
end
end Lb
end Mv
namespace Mv
namespace Lc
open PySem PySem.Spec PyProof.Rows L2 Tk Lb
open Mt (Mat Best)
theorem zj1 {α:Type} [DecidableEq α] {a:α→Int} {k:α} {w:Int}:∀ {l:List α},l.Nodup→k∈l→(l.map fun x=>a x + if x=k then w else 0).sum=(l.map a).sum + w
  | [],_,h=>by cases h
  | x :: l,nd,h=>by
    obtain ⟨n1,n2⟩:=List.nodup_cons.mp nd
    rw [List.map_cons,List.sum_cons,List.map_cons,List.sum_cons]
    by_cases q:x=k
    · subst q
      have:(l.map fun y=>a y + if y=x then w else 0)=l.map a:=List.map_congr_left fun y hy=>by
        rw [if_neg (fun z:y=x=>n1 (z ▸ hy))]; omega
      rw [this,if_pos rfl]; omega
    · rw [zj1 n2 ((List.mem_cons.mp h).resolve_left (Ne.symm q)),if_neg q]; omega
def Kp (T:Tb) (f:Sg→Option Int):Int:=((za T).map fun k=>if f k.1=some k.2 then Tk.pv T k else 0).sum
theorem zkz {κ:Type} [DecidableEq κ] (d:List (κ×Int)) (k:κ) (v:Int) (x:κ):Tk.pv (putG d k v) x=if x=k then v else Tk.pv d x:=by
  unfold Tk.pv; rw [jm]; split <;> rfl
theorem ztu {κ:Type} [DecidableEq κ] {d:List (κ×Int)} {k:κ} (h:k ∉ za d):Tk.pv d k=0:=by
  unfold Tk.pv
  cases e:valG d k with
  | none=>rfl
  | some v=>exact absurd (zc3 (t:=d) e) h
theorem zzd {T:Tb} (nd:(za T).Nodup) (k:Sg×Int) (w:Int) (f:Sg→Option Int):Kp (putG T k (Tk.pv T k + w)) f=Kp T f + if f k.1=some k.2 then w else 0:=by
  unfold Kp
  rw [yq]
  by_cases q:k∈za T
  · rw [if_pos q,← zj1 nd q (w:=if f k.1=some k.2 then w else 0)]
    congr 1
    refine List.map_congr_left fun x hx=>?_
    rw [zkz]
    by_cases e:x=k
    · subst e; rw [if_pos rfl,if_pos rfl]; split <;> omega
    · rw [if_neg e,if_neg e]; omega
  · rw [if_neg q,List.map_append,List.sum_append]
    have:((za T).map fun x=>if f x.1=some x.2 then Tk.pv (putG T k (Tk.pv T k + w)) x else 0)=(za T).map fun x=>if f x.1=some x.2 then Tk.pv T x else 0:=List.map_congr_left fun x hx=>by
      rw [zkz,if_neg (fun z:x=k=>q (z ▸ hx))]
    rw [this]
    simp only [List.map_cons,List.map_nil,List.sum_cons,List.sum_nil,zkz,if_true,ztu q]
    split <;> omega
section
variable (lb:List (Int×Sg)) (wt:List (Int×Int)) (f:Sg→Option Int)
def term (y:Int×Int):Int:=match valG lb y.2 with
  | some l=>if f l=some y.1 then Tk.pv wt y.2 else 0
  | none=>0
def gone (y:Int×Int):Bool:=match valG lb y.2 with
  | some l=>!eqB (f l) (some y.1)
  | none=>false
def zcn (acc:Tb) (y:Int×Int):Tb:=match valG lb y.2 with
  | some l=>putG acc (l,y.1) (Tk.pv acc (l,y.1) + Tk.pv wt y.2)
  | none=>acc
end
section
variable {lb:List (Int×Sg)} {wt:List (Int×Int)}
structure TI (lb:List (Int×Sg)) (wt:List (Int×Int)) (ys:List (Int×Int)) (T:Tb):Prop where
  nd:(za T).Nodup
  len:T.length≤ys.length
  val:∀ q∈T,0≤q.2∧q.2≤1000000 * (ys.length:Int)
  key:∀ k∈za T,∃ y∈ys,y.1=k.2
  sum:∀ f,Kp T f=(ys.map (term lb wt f)).sum
theorem TI.nil:TI lb wt [] []:=⟨.nil,Nat.le_refl _,(fun q h=>nomatch h),(fun q h=>nomatch h),fun f=>rfl⟩
theorem TI.step {ys:List (Int×Int)} {T:Tb} {y:Int×Int} (I:TI lb wt ys T) (hw:0≤Tk.pv wt y.2∧Tk.pv wt y.2≤1000000):TI lb wt (ys++[y]) (zcn lb wt T y):=by
  unfold zcn
  have bound:∀ q∈T,0≤q.2∧q.2≤1000000 * ((ys++[y]).length:Int):=fun q hq=>by
    have:=I.val q hq
    simp only [List.length_append,List.length_singleton]
    push_cast
    omega
  have sm:∀ f,(((ys++[y]).map (term lb wt f)).sum)=(ys.map (term lb wt f)).sum + term lb wt f y:=fun f=>by simp
  cases e:valG lb y.2 with
  | none =>
    refine ⟨I.nd,by have:=I.len; simp; omega,bound,fun k hk=>?_,fun f=>?_⟩
    · obtain ⟨z,hz,ez⟩:=I.key k hk; exact ⟨z,List.mem_append_left _ hz,ez⟩
    · rw [sm,I.sum]; unfold term; rw [e]; simp
  | some l =>
    refine ⟨xk I.nd _ _,?_,fun q hq=>?_,fun k hk=>?_,fun f=>?_⟩
    · have:=vo T (l,y.1) (Tk.pv T (l,y.1) + Tk.pv wt y.2)
      have:=I.len
      simp; omega
    · rcases Lb.mem_put hq with z | rfl
      · exact bound q z
      · have h0:0≤Tk.pv T (l,y.1)∧Tk.pv T (l,y.1)≤1000000 * (ys.length:Int):=by
          by_cases q:(l,y.1)∈za T
          · exact I.val _ (zau (zv1 q))
          · rw [ztu q]; omega
        simp only [List.length_append,List.length_singleton]
        push_cast
        omega
    · rw [yq] at hk
      split at hk
      · obtain ⟨z,hz,ez⟩:=I.key k hk; exact ⟨z,List.mem_append_left _ hz,ez⟩
      · rcases List.mem_append.mp hk with z | z
        · obtain ⟨x,hx,ex⟩:=I.key k z; exact ⟨x,List.mem_append_left _ hx,ex⟩
        · rw [List.mem_singleton] at z
          exact ⟨y,by simp,by rw [z]⟩
    · rw [sm,← I.sum,zzd I.nd]
      unfold term; rw [e]
theorem TI.all:∀ (zs ys:List (Int×Int)) (T:Tb),TI lb wt ys T→(∀ z∈zs,0≤Tk.pv wt z.2∧Tk.pv wt z.2≤1000000)→TI lb wt (ys++zs) (zs.foldl (zcn lb wt) T)
  | [],ys,T,I,_=>by rw [List.append_nil]; exact I
  | z :: zs,ys,T,I,h=>by
    have:=TI.all zs (ys++[z]) _ (I.step (h z (List.mem_cons_self ..))) fun z hz=>h z (List.mem_cons_of_mem _ hz)
    rw [List.append_assoc] at this
    exact this
end
def ltW (labels:(List (Int×Sg))) (groups:(List (List Int))) (weights:(List (Int×Int))) (Q:(List ((Sg×Int)×Int))→Prop):Prop :=
 asgW ([]:(List ((Sg×Int)×Int))) fun found =>
 qm (z5 groups) found (fun (x_:(Int×(List Int))) (found2:(List ((Sg×Int)×Int))) nxt =>
   qm x_.2 found2 (fun (x_1:Int) (found4:(List ((Sg×Int)×Int))) nxt1 =>
     ifW (hasG labels x_1)
      (getW labels x_1 fun t_=>asgW (t_,x_.1) fun key =>
       getW weights x_1 fun t_1=>putW found4 key (((valG found4 key).getD (0:Int)) + t_1) fun found5 =>
       nxt1 found5)
      (nxt1 found4)) (fun (found3:(List ((Sg×Int)×Int))) =>
     nxt found3)) (fun (found1:(List ((Sg×Int)×Int))) =>
   retW found1 Q)
def rnW (labels:(List (Int×Sg))) (groups:(List (List Int))) (names:(List (Sg×Int))) (Q:(List Int)→Prop):Prop :=
 asgW ([]:(List Int)) fun found =>
 qm (z5 groups) found (fun (x_:(Int×(List Int))) (found2:(List Int)) nxt =>
   lcW x_.2 (fun (x_1:Int) (k_:Option Int→Prop)=>andW (hasG labels x_1) (fun k_1=>getW labels x_1 fun t_=>k_1 (!eqB (valG names t_) (some x_.1))) fun t_1=>ifW t_1 (k_ (some x_1)) (k_ none)) fun t_2=>zr (found2.length + t_2.length≤sizeLine) <| asgW (found2++t_2) fun found3 =>
   nxt found3) (fun (found1:(List Int)) =>
   zr (found1.length≤16777216) <| retW (zv D.int found1) Q)
def rens (lb:List (Int×Sg)) (f:Sg→Option Int) (xs:List (Int×List Int)):List Int:=(prs xs).filterMap fun y=>if gone lb f y=true then some y.2 else none
def cnW (groups:(List (List Int))) (pins:(List (Sg×Int))) (Q:(List (Sg×Int))→Prop):Prop :=
 poW groups fun t_=>asgW t_ fun places =>
 asgW ([]:(List (Sg×Int))) fun found =>
 asgW ([]:(List (Int×Sg))) fun taken =>
 zr (pins.length≤16777216) <| yi (zv sD (za pins)) found taken (fun (x_:Sg) (found2:(List (Sg×Int))) (taken2:(List (Int×Sg))) nxt =>
   getW pins x_ fun t_1=>asgW (valG places t_1) fun place =>
   ifW (place.isSome && (!inN taken2 place))
    (unW place fun t_2=>putW taken2 t_2 x_ fun taken3 =>
     getW pins x_ fun t_3=>putW found2 x_ t_3 fun found3 =>
     nxt found3 taken3)
    (nxt found2 taken2)) (fun (found1:(List (Sg×Int))) (taken1:(List (Int×Sg))) =>
   retW found1 Q)
def zhj (gs:List (List Int)) (pn:List (Sg×Int)) (s:List (Sg×Int)×List (Int×Sg)) (x:Sg):List (Sg×Int)×List (Int×Sg):=match (valG pn x).bind fun i=>valG (plT gs) i with
  | some p=>if hasG s.2 p=true then s else (putG s.1 x (Tk.pv pn x),putG s.2 p x)
  | none=>s
def cntF (gs:List (List Int)) (pn:List (Sg×Int)):List (Sg×Int):=((zv sD (za pn)).foldl (zhj gs pn) ([],[])).1
def woW (table:(List ((Sg×Int)×Int))) (names:(List Sg)) (places:(List Int)) (Q:(List ((Sg×Int)×Int))→Prop):Prop :=
 xy (za table) ([]:(List ((Sg×Int)×Int))) (fun (x_:(Sg×Int)) (acc:(List ((Sg×Int)×Int))) (nxt:(List ((Sg×Int)×Int))→Prop)=>ifW ((!memB x_.1 names) && (!memB x_.2 places)) (getW table x_ fun t_=>putW acc x_ t_ nxt) (nxt acc)) fun t_1=>retW t_1 Q
def opW (labels:(List (Int×Sg))) (groups:(List (List Int))) (weights:(List (Int×Int))) (pins:(List (Sg×Int))) (Q:(List ((Sg×Int)×Int))→Prop):Prop :=
 poW groups fun t_=>asgW t_ fun places =>
 lcW (za9 pins) (fun (x_:Int) (k_:Option Int→Prop)=>getW places x_ fun t_1=>k_ (some t_1)) fun t_2=>asgW t_2 fun pinned =>
 ltW labels groups weights fun t_3=>woW t_3 (za pins) pinned fun t_4=>retW t_4 Q
def pnd (gs:List (List Int)) (C:List (Sg×Int)):List Int:=(za9 C).map (Tk.pv (plT gs))
def opT (gs:List (List Int)) (C:List (Sg×Int)) (T:Tb):Tb:=T.filter fun q=>(!memB q.1.1 (za C)) && (!memB q.1.2 (pnd gs C))
def coW (labels:(List (Int×Sg))) (groups:(List (List Int))) (weights:(List (Int×Int))) (pins:(Option (List (Sg×Int)))) (homes:(Option (List (Sg×Int)))) (Q:(List (Sg×Int))→Prop):Prop :=
 iteW pins.isNone (fun k_=>k_ ([]:(List (Sg×Int)))) (fun k_1=>unW pins fun t_=>k_1 t_) fun t_1=>cnW groups t_1 fun t_2=>asgW t_2 fun counting =>
 poW groups fun t_3=>asgW t_3 fun places =>
 xy counting ([]:(List (Sg×Int))) (fun (x_:(Sg×Int)) (acc:(List (Sg×Int))) (nxt:(List (Sg×Int))→Prop)=>getW places x_.2 fun t_4=>putW acc x_.1 t_4 nxt) fun t_5=>asgW t_5 fun found =>
 opW labels groups weights counting fun t_6=>bcW t_6 homes fun t_7=>zr (found.length + t_7.length≤sizeLine) <| retW (zx (zx [] found) t_7) Q
theorem zdp {κ α:Type} [DecidableEq κ]:∀ (kvs t:List (κ×α)) (k:κ),(za kvs).Nodup→valG (zx t kvs) k=(valG kvs k).or (valG t k)
  | [],t,k,_=>by simp [zx,valG]
  | q :: kvs,t,k,nd=>by
    obtain ⟨n1,n2⟩:=List.nodup_cons.mp (show (q.1 :: za kvs).Nodup from nd)
    show valG (zx (putG t q.1 q.2) kvs) k=_
    rw [zdp kvs _ k n2,jm,qk]
    by_cases e:q.1=k
    · subst e
      have:valG kvs q.1=none:=by
        cases z:valG kvs q.1 with
        | none=>rfl
        | some v=>exact absurd (zc3 (t:=kvs) z) n1
      rw [this,if_pos rfl,if_pos rfl]; rfl
    · rw [if_neg e,if_neg (Ne.symm e)]
theorem zbs {κ α:Type} [DecidableEq κ]:∀ (kvs t:List (κ×α)),(za t).Nodup→(za (zx t kvs)).Nodup
  | [],t,h=>h
  | q :: kvs,t,h=>zbs kvs _ (xk h _ _)
theorem zb1 {κ α:Type} [DecidableEq κ]:∀ (kvs t:List (κ×α)),(zx t kvs).length≤t.length + kvs.length
  | [],t=>Nat.le_refl _
  | q :: kvs,t=>by
    have h1:=zb1 kvs (putG t q.1 q.2)
    have h2:=vo t q.1 q.2
    show (zx (putG t q.1 q.2) kvs).length≤_
    rw [List.length_cons]; omega
theorem atI_get {α:Type} {xs:List α} {n:Nat} {x:α} (h:xs[n]? = some x):atI xs (n:Int)=some x:=atI_nat h
section
variable {lb:List (Int×Sg)} {gs:List (List Int)} {wt:List (Int×Int)} {C R:List (Sg×Int)} {homes:Option (List (Sg×Int))}
end
end Lc
end Mv
namespace Mv
namespace Lg
open PySem PySem.Spec PyProof.Rows L2 Tk Lb
abbrev zcm:=List (Int×(Int×List Int))
abbrev Rule:=List (Int×Int)
structure Rul (m:Nat) (rule:Rule):Prop where
  len:rule.length≤4
  col:∀ q∈rule,1≤q.1∧q.1≤(m:Int)
  st:∀ q∈rule,0 < q.2∧q.2 < 1073741824
def keyF (rule:Rule) (fields:List Int):List Int:=rule.map fun q=>(fields.getD (q.1 - 1).toNat 0) / q.2
def grp (I:List Int) (f:Int→List Int) (k:List Int):List Int:=I.filter fun i=>decide (f i=k)
def grps (I:List Int) (f:Int→List Int):List (List Int):=zy5 (dd (I.map f))
def grpL (I:List Int) (f:Int→List Int):List (List Int):=(grps I f).map (grp I f)
def idsA (items:zcm):List Int:=zv D.int (za items)
def fld (items:zcm) (i:Int):List Int:=((valG items i).map fun q=>q.2).getD []
def keyO (rule:Rule) (items:zcm) (i:Int):List Int:=keyF rule (fld items i)
def zxo (rule:Rule) (items:zcm):List (List Int):=grpL (idsA items) (keyO rule items)
end Lg
end Mv
namespace Mv
namespace Ld
open PySem PySem.Spec PyProof.Rows L2 Tk Lb Lc
open Mt (Mat Best)
structure Grs (gs:List (List Int)):Prop where
  gl:gs.length≤250
  nd:gs.flatten.Nodup
  tot:gs.flatten.length≤250
section
variable {gs:List (List Int)}
theorem Grs.ids (G:Grs gs):((gp gs).map (·.2)).Nodup:=by rw [zj0]; exact G.nd
theorem Grs.len (G:Grs gs):(gp gs).length≤250:=by
  have h:=G.tot
  rw [← zj0,List.length_map] at h
  exact h
theorem Grs.le (G:Grs gs):∀ g∈gs,g.length≤250:=fun g hg=>Nat.le_trans (List.sublist_flatten_of_mem hg).length_le G.tot
theorem Grs.id9 (G:Grs gs) {y:Int×Int} (h:y∈gp gs):y.2∈gs.flatten:=(by rw [← zj0]; exact List.mem_map.mpr ⟨y,h,rfl⟩)
theorem Grs.one (G:Grs gs) {p q i:Int} (h:(p,i)∈gp gs) (h2:(q,i)∈gp gs):p=q:=by
  have nd:=G.ids
  have:∀ (l:List (Int×Int)),(l.map (·.2)).Nodup→(p,i)∈l→(q,i)∈l→p=q:=by
    intro l
    induction l with
    | nil=>intro _ h _; cases h
    | cons y l ih =>
      intro n a b
      obtain ⟨n1,n2⟩:=List.nodup_cons.mp (show (y.2 :: l.map (·.2)).Nodup from n)
      rcases List.mem_cons.mp a with e1 | a' <;> rcases List.mem_cons.mp b with e2 | b'
      · exact congrArg Prod.fst (e1.trans e2.symm)
      · exact absurd (List.mem_map.mpr ⟨(q,i),b',by rw [← e1]⟩) n1
      · exact absurd (List.mem_map.mpr ⟨(p,i),a',by rw [← e2]⟩) n1
      · exact ih n2 a' b'
  exact this _ nd h h2
end
theorem zr0 {gs:List (List Int)} {Q:List (Int×Int)→Prop} (G:Grs gs) (h:Q (plT gs)):poW gs Q:=by
  have hg:=G.le
  have hz:=x9
  have gl:=G.gl
  have L:=G.len
  have le:(z5 gs).length=gs.length:=by unfold z5; simp
  refine qo (by omega) ?_
  refine nest (wrap:=fun x P=>zr (x.2.length≤sizeLine) P) (fun x hx P hP=>qo ?_ hP) (fun (acc:List (Int×Int)) (y:Int×Int)=>putG acc y.2 y.1) ?_ ?_
  · obtain ⟨n,_,hn⟩:=mem_enum.mp (show (x.1,x.2)∈z5 gs from hx)
    have:=hg _ (List.mem_of_getElem? hn)
    omega
  · intro pre y post x e ex nx hn
    have e':gp gs=pre++y :: post:=e
    have nd:=G.ids
    rw [e',List.map_append] at nd
    have l2:pre.length≤250:=by
      have:=congrArg List.length e'
      simp at this
      omega
    have fp:=zib pre [] (by simpa [za] using (List.nodup_append.mp nd).1)
    rw [fp,List.nil_append] at hn ⊢
    rw [ex]
    exact putI (by rw [List.length_map]; omega) hn
  · have fp:=zib (gp gs) [] (by simpa [za] using G.ids)
    rw [List.nil_append] at fp
    show retW _ _
    rw [fp]
    exact h
theorem zj2 {gs:List (List Int)} (G:Grs gs) {i p:Int}:valG (plT gs) i=some p↔(p,i)∈gp gs:=by
  have nk:(za (plT gs)).Nodup:=by rw [zvg]; exact G.nd
  constructor
  · intro e
    obtain ⟨y,hy,e2⟩:=List.mem_map.mp (zau e)
    cases e2; exact hy
  · intro e
    exact xt nk (List.mem_map.mpr ⟨(p,i),e,rfl⟩)
section
variable (lb:List (Int×Sg)) (wt:List (Int×Int)) (f:Sg→Option Int)
end
section
variable {lb:List (Int×Sg)} {wt:List (Int×Int)}
end
def Wts (gs:List (List Int)) (wt:List (Int×Int)):Prop:=∀ i∈gs.flatten,∃ w,valG wt i=some w∧1≤w∧w≤1000000
theorem Wts.pv {gs:List (List Int)} {wt:List (Int×Int)} (W:Wts gs wt) {i:Int} (h:i∈gs.flatten):valG wt i=some (Tk.pv wt i)∧1≤Tk.pv wt i∧Tk.pv wt i≤1000000:=by
  obtain ⟨w,e,h1,h2⟩:=W i h
  have:Tk.pv wt i=w:=by unfold Tk.pv; rw [e]; rfl
  rw [this]; exact ⟨e,h1,h2⟩
def ltF (lb:List (Int×Sg)) (wt:List (Int×Int)) (gs:List (List Int)):Tb:=(gp gs).foldl (zcn lb wt) []
theorem z0e {lb:List (Int×Sg)} {gs:List (List Int)} {wt:List (Int×Int)} {Q:Tb→Prop} (G:Grs gs) (W:Wts gs wt) (h:TI lb wt (gp gs) (ltF lb wt gs)→Q (ltF lb wt gs)):ltW lb gs wt Q:=by
  have hz:=x9
  have L:=G.len
  have hw:∀ y∈gp gs,0≤Tk.pv wt y.2∧Tk.pv wt y.2≤1000000:=fun y hy=>by
    have:=W.pv (G.id9 hy); omega
  refine asgI (nest (wrap:=fun _ P=>P) (fun _ _ _ h=>h) (zcn lb wt) ?_ ?_)
  · intro pre y post x e ex nx hn
    have e':gp gs=pre++y :: post:=e
    have hy:y∈gp gs:=by rw [e']; simp
    have I:=TI.all pre [] [] (TI.nil (lb:=lb) (wt:=wt)) fun z hz=>hw z (by rw [e']; simp [hz])
    rw [List.nil_append] at I
    have lp:pre.length≤250:=by
      have:=congrArg List.length e'
      simp at this
      omega
    have li:=I.len
    unfold zcn at hn
    cases el:valG lb y.2 with
    | none =>
      rw [el] at hn
      exact ifF (by unfold hasG; rw [el]; rfl) hn
    | some l =>
      rw [el] at hn
      refine ifT (by unfold hasG; rw [el]; rfl) (getI el (asgI (getI (W.pv (G.id9 hy)).1 (putI (by omega) ?_))))
      rw [ex]; exact hn
  · have I:=TI.all (gp gs) [] [] (TI.nil (lb:=lb) (wt:=wt)) hw
    rw [List.nil_append] at I
    exact h I
theorem zze {lb:List (Int×Sg)} {wt:List (Int×Int)} {ys:List (Int×Int)} {T:Tb} (I:TI lb wt ys T) (h:ys.length≤250):Fit T:=⟨I.nd,by have:=I.len; omega,30,by decide,fun q hq=>by
  have:=I.val q hq
  refine Bits.of this.1 ?_
  have:(2 ^ 30:Nat)=1073741824:=rfl
  omega⟩
structure Cnt (gs:List (List Int)) (C:List (Sg×Int)):Prop where
  nd:(za C).Nodup
  len:C.length≤100
  at_:∀ n i,valG C n=some i→∃ p,(p,i)∈gp gs
  inj:∀ n n' i i' p,valG C n=some i→valG C n'=some i'→(p,i)∈gp gs→(p,i')∈gp gs→n=n'
theorem zr1 {gs:List (List Int)} {pn:List (Sg×Int)} {Q:List (Sg×Int)→Prop} (G:Grs gs) (hl:pn.length≤100) (h:∀ C,Cnt gs C→C=cntF gs pn→Q C):cnW gs pn Q:=by
  have hz:=x9
  refine zr0 G (asgI (asgI (asgI (qo (by omega) ?_))))
  refine zdk (fun i (C:List (Sg×Int)) (tk:List (Int×Sg))=>(C,tk)=((zv sD (za pn)).take i).foldl (zhj gs pn) ([],[])∧(za C).Nodup∧C.length≤i∧tk.length≤i∧(∀ n i,valG C n=some i→∃ p,(p,i)∈gp gs∧hasG tk p=true)∧(∀ n n' i i' p,valG C n=some i→valG C n'=some i'→(p,i)∈gp gs→(p,i')∈gp gs→n=n')) ⟨rfl,.nil,Nat.le_refl _,Nat.le_refl _,(fun n i h=>nomatch h),(fun n n' i i' p h=>nomatch h)⟩ ?_ ?_
  · rintro j x C tk nx hx ⟨i0,i1,i2,i3,i4,i5⟩ hn
    have hj:=(List.getElem?_eq_some_iff.mp hx).1
    rw [zdo,z7] at hj
    have hm:x∈za pn:=mem_sortL.mp (List.mem_of_getElem? hx)
    have hv:=zv1 hm
    have tkx:((zv sD (za pn)).take (j + 1)).foldl (zhj gs pn) ([],[])=zhj gs pn (C,tk) x:=by
      rw [List.take_succ,hx,List.foldl_append,← i0]; rfl
    refine getI hv (asgI (ifI (fun q=>?_) fun q=>hn _ _ ⟨?_,i1,by omega,by omega,i4,i5⟩))
    rotate_left
    · rw [tkx]
      unfold zhj
      rw [hv]
      show _=match valG (plT gs) (Tk.pv pn x) with | some p=>if hasG tk p=true then (C,tk) else (putG C x (Tk.pv pn x),putG tk p x) | none=>(C,tk)
      cases e:valG (plT gs) (Tk.pv pn x) with
      | none=>rfl
      | some p =>
        rw [e] at q
        have:hasG tk p=true:=by simpa [inN] using q
        show _=if hasG tk p=true then (C,tk) else _
        rw [if_pos this]
    rw [Bool.and_eq_true] at q
    obtain ⟨p,hp⟩:=Option.isSome_iff_exists.mp q.1
    have hpg:=(zj2 G).mp hp
    have free:hasG tk p=false:=by
      have:=q.2
      rw [hp] at this
      simpa [inN] using this
    refine unI hp (putI (by omega) (getI hv (putI (by omega) (hn _ _ ⟨by rw [tkx]; unfold zhj; rw [hv]; show _=match valG (plT gs) (Tk.pv pn x) with | some p=>if hasG tk p=true then (C,tk) else (putG C x (Tk.pv pn x),putG tk p x) | none=>(C,tk); rw [hp]; show _=if hasG tk p=true then (C,tk) else _; rw [if_neg (by rw [free]; decide)],xk i1 _ _,Nat.le_trans (vo _ _ _) (by omega),Nat.le_trans (vo _ _ _) (by omega),fun n i e=>?_,fun n n' i i' r e e' hr hr'=>?_⟩))))
    · rw [jm] at e
      by_cases q2:n=x
      · rw [if_pos q2] at e
        cases e
        exact ⟨p,hpg,by unfold hasG; rw [jm,if_pos rfl]; rfl⟩
      · rw [if_neg q2] at e
        obtain ⟨r,a,b⟩:=i4 n i e
        refine ⟨r,a,?_⟩
        unfold hasG at *
        rw [jm]
        split
        · rfl
        · exact b
    · rw [jm] at e e'
      have old:∀ m k,m≠x→valG C m=some k→(r,k)∈gp gs→r≠p:=fun m k _ em hk z=>by
        obtain ⟨r',a,b⟩:=i4 m k em
        have:=G.one a hk
        rw [this,z,free] at b
        cases b
      by_cases q1:n=x <;> by_cases q2:n'=x
      · rw [q1,q2]
      · rw [if_pos q1] at e
        rw [if_neg q2] at e'
        cases e
        exact absurd (G.one hr hpg) (old n' i' q2 e' hr')
      · rw [if_neg q1] at e
        rw [if_pos q2] at e'
        cases e'
        exact absurd (G.one hr' hpg) (old n i q1 e hr)
      · rw [if_neg q1] at e
        rw [if_neg q2] at e'
        exact i5 n n' i i' r e e' hr hr'
  · rintro C tk ⟨i0,i1,i2,i3,i4,i5⟩
    rw [zdo,z7] at i2
    refine h C ⟨i1,by omega,fun n i e=>?_,i5⟩ ?_
    · obtain ⟨p,a,_⟩:=i4 n i e; exact ⟨p,a⟩
    · rw [List.take_length] at i0
      unfold cntF; rw [← i0]
theorem z0f {lb:List (Int×Sg)} {gs:List (List Int)} {wt:List (Int×Int)} {C:List (Sg×Int)} {Q:Tb→Prop} (G:Grs gs) (W:Wts gs wt) (N:Cnt gs C) (h:TI lb wt (gp gs) (ltF lb wt gs)→Q (opT gs C (ltF lb wt gs))):opW lb gs wt C Q:=by
  have hz:=x9
  have nl:=N.len
  have vl:(za9 C).length=C.length:=by unfold za9; simp
  refine zr0 G (asgI (qo (by omega) ?_))
  refine ql (fun n (acc:List Int)=>acc=((za9 C).take n).map (Tk.pv (plT gs))) rfl ?_ ?_
  · rintro n i acc nx hi rfl hn
    obtain ⟨q,hq,e⟩:=List.mem_map.mp (List.mem_of_getElem? hi)
    have eq:valG C q.1=some i:=by rw [← e]; exact xt N.nd (show (q.1,q.2)∈C from hq)
    obtain ⟨p,hp⟩:=N.at_ _ _ eq
    have hv:=(zj2 G).mpr hp
    have pe:Tk.pv (plT gs) i=p:=by unfold Tk.pv; rw [hv]; rfl
    refine getI hv (hn _ ?_)
    rw [List.take_succ,hi,List.map_append]
    show _=_++[Tk.pv (plT gs) i]
    rw [pe]; rfl
  · rintro acc rfl
    rw [List.take_length]
    refine asgI (z0e G W fun I=>?_)
    have l9:=G.len
    have il:=I.len
    exact zpy (fun k=>(!memB k.1 (za C)) && (!memB k.2 (pnd gs C))) I.nd (by omega) (h I)
structure Carried (lb:List (Int×Sg)) (gs:List (List Int)) (wt:List (Int×Int)) (C:List (Sg×Int)) (homes:Option (List (Sg×Int))) (R:List (Sg×Int)):Prop where
  nd:(za R).Nodup
  len:R.length≤1000
  best:∃ T row,TI lb wt (gp gs) T∧IsBest (opT gs C T) homes (fn row)∧(∀ n,fn R n=(fn row n).or ((valG C n).bind fun i=>valG (plT gs) i))∧T=ltF lb wt gs
theorem zv2 {lb:List (Int×Sg)} {gs:List (List Int)} {wt:List (Int×Int)} {pins:Option (List (Sg×Int))} {homes:Option (List (Sg×Int))} {Q:List (Sg×Int)→Prop} (G:Grs gs) (W:Wts gs wt) (hl:∀ pn,pins=some pn→pn.length≤100)
    (h:∀ C R,Cnt gs C→C=cntF gs (pins.getD [])→Carried lb gs wt C homes R→Q R):coW lb gs wt pins homes Q:=by
  have hz:=x9
  have main:∀ pn:List (Sg×Int),pn.length≤100→pins.getD []=pn→(cnW gs pn fun t_2=>asgW t_2 fun counting =>
      poW gs fun t_3=>asgW t_3 fun places =>
      xy counting ([]:(List (Sg×Int))) (fun (x_:(Sg×Int)) (acc:(List (Sg×Int))) (nxt:(List (Sg×Int))→Prop)=>getW places x_.2 fun t_4=>putW acc x_.1 t_4 nxt) fun t_5=>asgW t_5 fun found =>
      opW lb gs wt counting fun t_6=>bcW t_6 homes fun t_7=>zr (found.length + t_7.length≤sizeLine) <| retW (zx (zx [] found) t_7) Q):=by
    intro pn hpn hno
    refine zr1 G hpn fun C N hC=>asgI (zr0 G (asgI ?_))
    have nl:=N.len
    refine qo (by omega) ?_
    have hplace:∀ q∈C,valG (plT gs) q.2=some (Tk.pv (plT gs) q.2):=fun q hq=>by
      obtain ⟨p,hp⟩:=N.at_ _ _ (xt N.nd (show (q.1,q.2)∈C from hq))
      have:=(zj2 G).mpr hp
      unfold Tk.pv; rw [this]; rfl
    refine ql (fun n (acc:List (Sg×Int))=>acc.length≤n∧acc=(C.take n).map fun (q:Sg×Int)=>(q.1,Tk.pv (plT gs) q.2)) ⟨Nat.le_refl _,rfl⟩ ?_ ?_
    · rintro n q acc nx hq ⟨l1,rfl⟩ hn
      have hm:=List.mem_of_getElem? hq
      have hi:=(List.getElem?_eq_some_iff.mp hq).1
      have ex:=(List.getElem?_eq_some_iff.mp hq).2
      refine getI (hplace q hm) (putI (by omega) (hn _ ?_))
      have nk:q.1 ∉ za ((C.take n).map fun (q:Sg×Int)=>(q.1,Tk.pv (plT gs) q.2)):=by
        have e:za ((C.take n).map fun (q:Sg×Int)=>(q.1,Tk.pv (plT gs) q.2))=za (C.take n):=by unfold za; rw [List.map_map]; rfl
        rw [e]
        intro z
        have nd:=N.nd
        have e2:C=C.take n++q :: C.drop (n + 1):=by rw [← ex,List.getElem_cons_drop,List.take_append_drop]
        rw [e2] at nd
        unfold za at nd z
        rw [List.map_append] at nd
        exact (List.nodup_append.mp nd).2.2 _ z _ (List.mem_cons_self ..) rfl
      refine ⟨Nat.le_trans (vo _ _ _) (by omega),?_⟩
      rw [vd nk,List.take_succ,hq,List.map_append]; rfl
    · rintro found ⟨l1,rfl⟩
      rw [List.take_length] at l1 ⊢
      refine asgI (z0f G W N fun I=>?_)
      generalize eT:ltF lb wt gs=T at I ⊢
      have l9:=G.len
      have F:Fit (opT gs C T):=(zze I l9).filter _
      have lT:(opT gs C T).length≤250:=by
        have:=List.length_filter_le (fun q:(Sg×Int)×Int=>(!memB q.1.1 (za C)) && (!memB q.1.2 (pnd gs C))) T
        have:=I.len
        unfold opT; omega
      refine F.bc fun row nr lr B=>qo (by omega) (h C _ N (by rw [hno]; exact hC) ⟨?_,?_,T,row,I,B,fun n=>?_,eT.symm⟩)
      · exact zbs _ _ (zbs _ _ .nil)
      · have a1:=zb1 row (zx [] (C.map fun (q:Sg×Int)=>(q.1,Tk.pv (plT gs) q.2)))
        have a2:=zb1 (C.map fun (q:Sg×Int)=>(q.1,Tk.pv (plT gs) q.2)) ([]:List (Sg×Int))
        simp at a2
        omega
      · show valG (zx (zx [] _) row) n=_
        have nf:(za (C.map fun (q:Sg×Int)=>(q.1,Tk.pv (plT gs) q.2))).Nodup:=by
          have e:za (C.map fun (q:Sg×Int)=>(q.1,Tk.pv (plT gs) q.2))=za C:=by unfold za; rw [List.map_map]; rfl
          rw [e]; exact N.nd
        rw [zdp _ _ _ nr,zdp _ _ _ nf]
        have e2:(valG (C.map fun (q:Sg×Int)=>(q.1,Tk.pv (plT gs) q.2)) n).or (valG ([]:List (Sg×Int)) n)=(valG C n).bind fun i=>valG (plT gs) i:=by
          have:=zq9 (fun (_:Sg) (i:Int)=>Tk.pv (plT gs) i) C n
          rw [this]
          cases ec:valG C n with
          | none=>rfl
          | some i=>exact (hplace (n,i) (zau ec)).symm
        rw [e2]; rfl
  unfold coW iteW
  cases pins with
  | none=>exact main [] (by simp) rfl
  | some pn=>exact ⟨pn,rfl,main pn (hl pn rfl) rfl⟩
section
variable {lb:List (Int×Sg)} {gs:List (List Int)} {wt:List (Int×Int)} {C R:List (Sg×Int)} {homes:Option (List (Sg×Int))}
theorem Carried.cases (G:Grs gs) (N:Cnt gs C) (A:Carried lb gs wt C homes R) {n:Sg} {p:Int} (e:fn R n=some p) :
    (∃ i,valG C n=some i∧(p,i)∈gp gs∧p∈pnd gs C)∨(valG C n=none∧p ∉ pnd gs C∧∃ i,(p,i)∈gp gs):=by
  obtain ⟨T,row,I,B,hf,eT⟩:=A.best
  rw [hf] at e
  have inRow:∀ q,fn row n=some q→valG C n=none∧q ∉ pnd gs C∧∃ i,(q,i)∈gp gs:=fun q er=>by
    obtain ⟨_,x,hx⟩:=B.mt.dom n q er
    have hx':=zts I.nd (fun k=>(!memB k.1 (za C)) && (!memB k.2 (pnd gs C))) n q
    have hx2:tb (opT gs C T) n q=some x:=hx
    unfold opT at hx2
    rw [hx'] at hx2
    split at hx2
    · rename_i c
      rw [Bool.and_eq_true] at c
      have c1:n ∉ za C:=by simpa [memB] using c.1
      have c2:q ∉ pnd gs C:=by simpa [memB] using c.2
      obtain ⟨y,hy,ey⟩:=I.key (n,q) (zoz hx2)
      refine ⟨?_,c2,y.2,by rw [← show y.1=q from ey]; exact hy⟩
      cases z:valG C n with
      | none=>rfl
      | some v=>exact absurd (zc3 (t:=C) z) c1
    · cases hx2
  cases er:fn row n with
  | some q =>
    rw [er] at e
    cases e
    exact .inr (inRow _ er)
  | none =>
    rw [er] at e
    have e:((valG C n).bind fun i=>valG (plT gs) i)=some p:=e
    cases ec:valG C n with
    | none=>rw [ec] at e; cases e
    | some i =>
      rw [ec] at e
      have e:valG (plT gs) i=some p:=e
      refine .inl ⟨i,rfl,(zj2 G).mp e,?_⟩
      unfold pnd
      refine List.mem_map.mpr ⟨i,?_,by unfold Tk.pv; rw [e]; rfl⟩
      exact List.mem_map.mpr ⟨(n,i),zau ec,rfl⟩
end
end Ld
end Mv
namespace Mv
namespace Bw
open PySem PySem.Spec PyProof.Rows L2 Tk Lb Ld
open Lc
open Lg (keyF keyO zxo grps grp grpL idsA Rul)
section
variable {lb:List (Int×Sg)} {wt:List (Int×Int)}
theorem ztv {lb':List (Int×Sg)} {wt':List (Int×Int)} {gs:List (List Int)} (h1:∀ i,valG lb i=valG lb' i) (h2:∀ i,valG wt i=valG wt' i):ltF lb wt gs=ltF lb' wt' gs:=by
  have:zcn lb wt=zcn lb' wt':=by
    funext acc y
    unfold zcn Tk.pv
    rw [h1,h2]
  unfold ltF; rw [this]
end
theorem IsBest.homes {t:Tb} {H H':Names} {f:Sg→Option Int} (h:∀ n,valG H n=valG H' n) (B:IsBest t (some H) f):IsBest t (some H') f:=by
  have:exX t (some H)=exX t (some H'):=by
    unfold exX
    have e:zb0 (some H)=zb0 (some H'):=by
      funext n p
      show decide (valG H n=some p)=decide (valG H' n=some p)
      rw [h]
    rw [e]
  exact ⟨B.mt,fun g G=>by rw [← this]; exact B.top g G⟩
abbrev Sta:=zcm×Rule×Names×Names
section
variable {lb:List (Int×Sg)} {gs:List (List Int)} {wt:List (Int×Int)} {C R:Names} {homes:Option Names}
theorem Carried.same {lb':List (Int×Sg)} {wt':List (Int×Int)} {R' H H':Names} (A:Carried lb gs wt C (some H) R) (A':Carried lb' gs wt' C (some H') R') (h1:∀ i,valG lb i=valG lb' i) (h2:∀ i,valG wt i=valG wt' i) (h3:fn H=fn H'):fn R=fn R':=by
  obtain ⟨T,row,I,B,hf,eT⟩:=A.best
  obtain ⟨T',row',I',B',hf',eT'⟩:=A'.best
  have e:T=T':=by rw [eT,eT']; exact ztv h1 h2
  subst e
  have:=(IsBest.homes (fun n=>congrFun h3 n) B).unique B'
  funext n
  rw [hf,hf',this]
end
section
variable {κ α β:Type} [DecidableEq κ]
theorem z0g {ι γ:Type} {xs:List ι} {K:List γ→Prop} (f:ι→γ) (hl:xs.length≤1000000) {body:ι→(Option γ→Prop)→Prop} (hb:∀ (n:Nat) (x:ι),xs[n]? = some x→∀ k:Option γ→Prop,k (some (f x))→body x k) (h:K (xs.map f)):lcW xs body K:=by
  have hz:=x9
  refine qo (by omega) (ql (fun n (acc:List γ)=>acc=(xs.take n).map f) rfl ?_ ?_)
  · rintro n x acc nx hx rfl hn
    refine hb n x hx _ (hn _ ?_)
    rw [List.take_succ,hx,List.map_append]; rfl
  · rintro acc rfl; rw [List.take_length]; exact h
end
section
variable {N m c:Nat} {NL:List Sg} {b:Bk} {x:Bx}
end
section
variable {N m c:Nat} {NL:List Sg} {b:Bk} {st st':St}
end
section
variable {gs:List (List Int)} {pn:Names}
end
section
variable {N m:Nat} {NL:List Sg} {s:Sta} {items:zcm} {names:Names} {A:List (Int×Sg)} {wt:List (Int×Int)} {H:Names}
end
end Bw
end Mv
namespace Mv
namespace Bw
open PySem PySem.Spec PyProof.Rows L2 Tk Lb Ld
open Lc
open Mt (Mat Best wOut worthOf)
theorem z0h {ι γ:Type} {xs:List ι} {K:List γ→Prop} (c:ι→Bool) (f:ι→γ) (hl:xs.length≤1000000) {body:ι→(Option γ→Prop)→Prop} (hb:∀ x∈xs,∀ k:Option γ→Prop,ifW (c x) (k (some (f x))) (k none)→body x k) (h:K ((xs.filter c).map f)):lcW xs body K:=by
  have hz:=x9
  refine qo (by omega) (ql (fun n (acc:List γ)=>acc=((xs.take n).filter c).map f) rfl ?_ ?_)
  · rintro n x acc nx hx rfl hn
    have tk:xs.take (n + 1)=xs.take n++[x]:=by rw [List.take_succ,hx]; rfl
    refine hb x (List.mem_of_getElem? hx) _ (ifI (fun z=>hn _ ?_) fun z=>hn _ ?_)
    · rw [tk,List.filter_append,List.map_append]; simp [z]
    · rw [tk,List.filter_append,List.map_append]; simp [z]
  · rintro acc rfl
    rw [List.take_length]; exact h
end Bw
end Mv
namespace Mv
open PySem PySem.Spec PyProof.Rows L2
section
variable {X:Cx} {K:Frag} {e o:Expr} {pos apos pos':Pos} {te tk tx:DE}
end
section
variable {X:Cx} {K:Frag} {e o:Expr} {pos:Pos} {te tx:DE} {C g:Addr} {n k:Nat} {sp:DSpW} {E:XK} {s0:Sp}
end
section
variable {X:Cx} {K:Frag} {e e1 e2 e3 c a b:Expr} {pos:Pos} {te ta tb tc:DE} {tA:DT} {to tp:DOw}
end
section
variable {prog:Program} {w:World} {A:Around} {E:Value→Shared→Prop} {s:Shared}
end
section
variable {X:Cx} {e1 e2 e3:Expr} {t1 t2 t3:TE} {pos:Pos}
end
section
variable {X:Cx} {K:Frag} {e1 e2 e3:Expr} {ta tb tc:DE} {pos:Pos}
end
section
variable {X:Cx} {K:Frag} {e:Expr} {pos p p2:Pos} {tw:DV} {C:Addr} {x:Str}
end
section
variable {X:Cx} {K:Frag} {pos:Pos}
end
section
variable {X:Cx} {K:Frag} {e o:Expr} {pos:Pos} {te tx:DE} {C g:Addr} {n k:Nat} {sp:DSpW} {E:XK}
end
section
variable {α β γ ρ σ σ' τ κ ι:Type} {e ea:α→D} {eb:β→D} {te ta tb tk tv:DE} {to:DOw} {tA:DT} {tw tx:DV} {ts tz:DA} {δ δ1 δ2 δ3:Dl} {m ma:(α→Prop)→Prop} {mb:(β→Prop)→Prop} {mc:(Bool→Prop)→Prop} {ms:(σ→Prop)→Prop} {es:σ→List D} {mz:(σ'→Prop)→Prop} {ez:σ'→List D} {D':DEnds} {rest:DS} {i j n N k:Nat} {C a ad:Addr} {W L:Wl} {sp:DSpW} {ord:List D→List D→List D}
def eqA (a b:D) (k:Bool→Prop):Prop:=Pure a∧Pure b∧k (eqvD a b)
theorem zzf:G2T (gEqA true) anyD anyD (fun a b k=>eqA a b fun r=>k (!r)) D.bl:=fun a b K Q ⟨p,q,h⟩ c=>.inl (.inl ⟨p,q,c _ h⟩)
theorem ztw {R:α→Vw→Prop} (A:SV tw δ δ1 m R) (V:VOk δ1 R e):SV tw δ δ1 (fun k=>m fun x=>k (e x)) (fun d v=>vwD δ1 v=some d):=fun K Q hm c=>A _ Q hm fun x v hx hv=>c (e x) v hx (V x v hv)
theorem zrc:VOk δ (fun d v=>vwD δ v=some d) anyD:=fun d v h=>h
section
variable {τ' ρ':Type} {mA:(ρ→Prop)→Prop} {δA:τ→ρ→Dl} {PA:τ→ρ→Prop} {eA:τ→ρ→D} {mB:ρ→(ρ'→Prop)→Prop} {δB:τ→ρ→τ'→ρ'→Dl} {PB:τ→ρ→τ'→ρ'→Prop} {eB:τ→ρ→τ'→ρ'→D} {K:ρ→ρ'→Prop}
end
end
section
variable [CTb]
end
end Mv
namespace Mv
namespace Bw
open PySem PySem.Spec PyProof.Rows L2 Tk Lb Ld
open Lc (zdp zbs)
abbrev JRow:=Int×(List Int×Option Sg)
abbrev Rows:=List (Int×JRow)
section
variable (s:Bool) (o a b:Rows)
end
theorem zl3:∀ {ds:List D} {ps:List PyData},toPs ds=some ps→(∀ d∈ds,eqvD d d=true)→PyData.eqvAll ps ps=true
  | [],ps,h,_=>by cases h; simp [PyData.eqvAll]
  | d :: ds,ps,h,hd=>by
    have h0:=hd d (by simp)
    cases e:toP d with
    | none=>simp [toPs,e] at h
    | some p =>
      simp only [toPs,e,Option.bind_some,Option.map_eq_some_iff] at h
      obtain ⟨r,hr,rfl⟩:=h
      rw [v5 e e] at h0
      rw [PyData.eqvAll,h0,zl3 hr fun x hx=>hd x (by simp [hx])]
      rfl
theorem zxp {xs:List D} {k:Bool→Prop} (h:∀ d∈xs,PureN 4 d∧eqvD d d=true) (hk:k true):eqA (eL anyD xs) (eL anyD xs) k:=by
  have e:eL anyD xs=D.lst xs:=by unfold eL; congr 1; exact List.map_id xs
  rw [e]
  have p:PureN 5 (.lst xs):=PureN.lst fun d hd=>(h d hd).1
  obtain ⟨ps,hp,_⟩:=zjd (n:=4) (xs:=xs) fun d hd=>(h d hd).1
  refine ⟨p.pure (by decide),p.pure (by decide),?_⟩
  have:eqvD (.lst xs) (.lst xs)=true:=by
    rw [v5 (p:=.list ps) (q:=.list ps) (by simp [toP,hp]) (by simp [toP,hp]),PyData.eqv]
    exact zl3 hp fun d hd=>(h d hd).2
  rw [this]; exact hk
theorem zj3 {α:Type} [DecidableEq α] {n:Nat} {e:α→D} [hp:PuE n e] [he:EqE e] (hn:n≤4) (x:α):PureN 4 (e x)∧eqvD (e x) (e x)=true:=by
  refine ⟨?_,by rw [he.eq]; simp⟩
  obtain ⟨p,a,b,c⟩:=hp.pu x
  exact ⟨p,a,b,by omega⟩
end Bw
end Mv
namespace PySem.W
open PySem PySem.Calls PyProof.Rows PyProof.V PySem.Spec
section
variable {prog:Program} {w:World} {A:Around} {E:Value→Shared→Prop} {s:Shared} {z TI TO i1 i2 l1 l2 S:Addr} {xs ys:Array Value}
end
section
variable {prog:Program} {w:World} {A:Around} {s:Shared} {R:Result→Shared→Prop} {z TI TO i1 i2 l1 l2 S:Addr} {xs ys:Array Value}
end
section
variable {prog:Program} {w:World} {A:Around} {E:Value→Shared→Prop} {s:Shared} {z TI TO i1 i2 l1 l2 S:Addr} {xs ys:Array Value}
end
end PySem.W
namespace Mv
open PySem PySem.Spec PyProof.Rows L2
open LiI (paired_ix paired_get)
section
variable {X:Cx} {K:Frag} {e e2:Expr} {ta:TA} {ts:DA} {p p2 pos pos2:Pos}
end
end Mv
namespace Mv
open PySem PySem.Spec PyProof.Rows L2
section
variable {X:Cx}
end
section
variable {ts:DA} {δ δ1:Dl} {e:α→D} {f:β→D}
section
variable {ρ τ β:Type} {ta tb te:DE} {rest:DS} {D':DEnds} {is:List Nat} {mA:(ρ→Prop)→Prop} {δA δB:τ→ρ→Dl} {PA:τ→ρ→Prop} {eA:τ→ρ→D} {mB:ρ→(β→Prop)→Prop} {eb:β→D} {K:ρ→β→Prop}
end
end
def zo1 (i m j:Nat) (tk:DE) (to:DOw):DS:=fun D δ=>match δ[i]? with
  | some (some (.nk _))=>tk δ fun δ1 kd=>to δ1 fun δ2 o=>o = .lst []∧match δ2[i]? with
    | some (some (.nk kvs))=>∃ k n ds,dkey kd=some k∧kvs.length < sizeLine∧δ2[j]? = some (some (.fz (.int n)))∧(valG kvs k).getD (.lst []) = .lst (ds.map Mv.D.int)∧ds.length < sizeLine ∧
      D.nx ((δ2.set m none).set i (some (.nk (if n∈ds then kvs else putG kvs k (.lst ((ds++[n]).map Mv.D.int))))))
    | _=>False
  | _=>False
def zk0 (i m j:Nat) (tk:DE) (to:DOw):DS:=fun D δ=>m < δ.length∧zo1 i m j tk to D δ
section
variable {X:Cx} {K:Frag} {F:Hp}
theorem zl4 {vs:List V}:∀ {ds:List Int},RepL K F vs (ds.map Mv.D.int)→vs=ds.map V.int
  | [],h=>by cases h; rfl
  | d :: ds,h=>by
    have h':RepL K F vs (Mv.D.int d :: ds.map Mv.D.int):=h
    cases h' with
    | cons r t=>cases r; rw [zl4 t]; rfl
theorem ztx (ds:List Int):(ds.map V.int).all flatV=true:=by
  induction ds with
  | nil=>rfl
  | cons d ds ih=>simp [List.all_cons] at ih ⊢; exact ⟨rfl,fun x hx=>rfl⟩
theorem zxq (n:Int) (ds:List Int):inV (.int n) (ds.map V.int)=decide (n∈ds):=by
  unfold inV
  induction ds with
  | nil=>rfl
  | cons d ds ih =>
    rw [List.map_cons,List.any_cons,ih]
    have:eqV (V.int d) (V.int n)=decide (d=n):=by rfl
    rw [this]
    by_cases h:d=n
    · subst h; simp
    · have:¬ n=d:=fun z=>h z.symm
      simp [h,this]
def rInA (K:Frag):R2:=fun x y H Q=>rIn K true x y H Q∨rSgn true x y H Q∨rDIn true x y H Q
def zv3 (K:Frag) (m j:Nat):TS:=tIfS (tTest (tOp (rInA K) (tVar j) (tVar m))) (tDrop (tBM K "list" rAppend (tVar m) (tCons (tVar j) tNil))) tNext
theorem zl5 {F0 H0 H:Hp} {δ:Dl} {σ:L2.St} {a c:Addr} {ws:List (Key×V)} {kvs:List (Key×O)} {Ps:Pl} {i m j:Nat} {k:Key} {n:Int} {ds:List Int} {vs:List V} {D:Ends}
    (R:RepS K F0 H0 ((a,.dK ws) :: (Ps++[])) δ σ F H) (np:NP K F ws kvs Ps) (nd:(a :: pk Ps).Nodup) (nk:(kvs.map (·.1)).Nodup)
    (hv:valV ws k=some (.ref c)) (hg:valG kvs k=some (.lst (ds.map Mv.D.int))) (hm:(c,HO.lst vs)∈Ps) (rl:RepL K F vs (ds.map Mv.D.int))
    (ei:σ[i]? = some (some (.ref a))) (em:σ[m]? = some (some (.ref c))) (ej:σ[j]? = some (some (.int n))) (hl:ds.length < sizeLine)
    (nx:∀ H',RepS K F0 H0 [] (δ.set i (some (.nk (if n∈ds then kvs else putG kvs k (.lst ((ds++[n]).map Mv.D.int)))))) σ F H'→D.nx σ H'):zv3 K m j D σ H:=by
  have hc:=R.rsv c (.lst vs) (by simp [hm])
  have evs:=zl4 rl
  refine ⟨_,ej,_,em,.inl ⟨c,vs,rfl,.inl (.inl (.inl hc.2.2)),rfl,by rw [evs]; exact ztx ds,_,rfl,?_⟩⟩
  rw [evs,zxq]
  by_cases h:n∈ds
  · have e1:(if (true:Bool)=true then !decide (n∈ds) else decide (n∈ds))=false:=by simp [h]
    rw [if_pos h] at nx
    simp only [h,decide_true,Bool.not_true,if_true,Bool.false_eq_true,if_false]
    refine nx H ?_
    exact R.reown ei np nd nk fun _ _ z=>nomatch z
  · rw [if_neg h] at nx
    simp only [h,decide_false,Bool.not_false,if_true]
    refine ⟨_,em,.inl ⟨rfl,vs,.inl (.inl hc.2.2)⟩,_,ej,c,vs,.int n,rfl,rfl,hc.2.2,by rw [evs]; simpa using hl,?_⟩
    obtain ⟨nd1,nd2⟩:=List.nodup_cons.mp nd
    have hbPs:c∈pk Ps:=zcw hm
    obtain ⟨Ps',np3,epk,hmem⟩:=np.upd (k:=k) hv nk nd2 (ho':=.lst (vs++[.int n])) (o':=.lst ((ds++[n]).map Mv.D.int)) ⟨_,rfl,by rw [List.map_append]; exact rl.app (.cons (.int n) .nil)⟩
    have nb:c ∉ pk ((a,HO.dK ws) :: (Ps.filter (fun x=>decide (x.1≠c)))):=fun z=>by
      have z':c=a∨c∈pk (Ps.filter fun x=>decide (x.1≠c)):=by simpa [pk] using z
      rcases z' with z | z
      · exact nd1 (z ▸ hbPs)
      · obtain ⟨x,hx,e⟩:=List.mem_map.mp z
        have:=(List.mem_filter.mp hx).2
        simp [e] at this
    have R4:RepS K F0 H0 ((c,.lst vs) :: ((a,.dK ws) :: (Ps.filter (fun x=>decide (x.1≠c))))) δ σ F H:=R.unP fun x hx=>by
      have:x=(c,.lst vs)∨x=(a,.dK ws)∨x∈Ps.filter (fun x=>decide (x.1≠c)):=by simpa using hx
      rcases this with h | h | h
      · subst h; simp [hm]
      · simp [h]
      · simp [(List.mem_filter.mp h).1]
    have R5:=R4.wrP nb (.lst (vs++[.int n]))
    have R6:RepS K F0 H0 ((a,.dK ws) :: (Ps'++[])) δ σ F (upd H c (.lst (vs++[.int n]))):=R5.unP fun x hx=>by
      have:x=(a,.dK ws)∨x∈Ps':=by simpa using hx
      rcases this with h | h
      · simp [h]
      · rcases hmem x h with h | ⟨h1,h2⟩
        · simp [h]
        · exact List.mem_cons_of_mem _ (List.mem_cons_of_mem _ (List.mem_filter.mpr ⟨h1,by simpa using h2⟩))
    have ekm:(kvs.map fun (kv:Key×O)=>if kv.1=k then (kv.1,O.lst ((ds++[n]).map Mv.D.int)) else kv)=putG kvs k (.lst ((ds++[n]).map Mv.D.int)):=(zhf hg _).symm
    rw [ekm] at np3
    have R7:=R6.reown ei np3 (by rw [epk]; exact nd) (by rw [zlv hg]; exact nk) (fun _ _ z=>nomatch z)
    exact nx _ R7
end
section
variable {X:Cx} {K:Frag} {o e f nm:Expr} {tk:DE} {to:DOw} {st1 st2:Stmt}
theorem zty {κ α:Type} [DecidableEq κ] {kvs:List (κ×α)} {k:κ} (h:valG kvs k=none) (x y:α):putG (kvs++[(k,x)]) k y=putG kvs k y:=by
  have h2:valG (kvs++[(k,x)]) k=some x:=by
    unfold valG at h ⊢
    rw [List.find?_append,Option.map_eq_none_iff.mp h]
    simp
  rw [zhf h2,zh1 h,List.map_append]
  congr 1
  · have:∀ kv∈kvs,(if kv.1=k then (kv.1,y) else kv)=kv:=fun kv hkv=>by
      rw [if_neg]
      intro z
      exact y6 h (List.mem_map.mpr ⟨kv,hkv,z⟩)
    calc kvs.map (fun kv:κ×α=>if kv.1=k then (kv.1,y) else kv)=kvs.map id:=List.map_congr_left this
      _=kvs:=List.map_id kvs
  · simp
theorem zgm {κ α:Type} [DecidableEq κ] {kvs:List (κ×α)} {k:κ} (h:valG kvs k=none) (x:α):valG (kvs++[(k,x)]) k=some x:=by
  unfold valG at h ⊢
  rw [List.find?_append,Option.map_eq_none_iff.mp h]
  simp
theorem zvh {i m j:Nat} (hmi:m≠i) (hmj:m≠j) (h1:PS X st1 (tAsg (tDSetd (tVar i) (upE K tk) (upO K to)) (gName m))) (h2:PS X st2 (zv3 K m j)) :
    PSs X [st1,st2] (upS K (zk0 i m j tk to)):=znu (pss_cons h1 (pss_one h2)) fun D σ H ⟨F0,H0,δ,F,D',W⟩=>by
  obtain ⟨hml,ht⟩:=W.t
  unfold zo1 at ht
  split at ht
  · rename_i kvs0 e1
    obtain ⟨a,ws0,ea,hw⟩:=W.rep.nkd e1
    have hmσ:m < σ.length:=by rw [← W.rep.len]; exact hml
    refine ⟨_,ea,a,rfl,.inl ⟨ws0,.inl hw⟩,F0,H0,[],δ,F,_,W.rep,ht,fun δ1 F1 H1 y dy R1 ex1 ry ht=>?_⟩
    refine ⟨F0,H0,[],δ1,F1,_,R1,ht,fun δ2 F2 H2 p ho ob R2 hP ex2 oa ⟨eo,ht⟩=>?_⟩
    subst eo
    split at ht
    · rename_i kvs e2
      obtain ⟨k,n,ds,hk,hl,hj,hg,hl2,q⟩:=ht
      obtain ⟨a',ws,Ps,ea',np,R3,nd,nk,di⟩:=R2.disown e2
      rw [ea] at ea'; cases ea'
      obtain ⟨vj,ej,rj⟩:=R2.fz hj
      cases rj
      have ha:=R3.rsv a (.dK ws) List.mem_cons_self
      have hp2:=R2.rsv p ho (by simp)
      have cm:∀ s:Option S,((δ2.set i none).set m none).set i s=(δ2.set m none).set i s:=fun s=>by
        rw [List.set_comm _ _ hmi.symm,List.set_set]
      refine ⟨ws,k,ha.2.2,ye ry hk,by rw [np.length]; exact hl,fun v hv=>?_,fun hn=>?_⟩
      · rcases np.val k with ⟨c,ho2,o2,c1,c2,hmb,oo⟩ | ⟨c1,c2⟩
        · rw [hv] at c1; cases c1
          rw [c2] at hg
          have hg:o2 = .lst (ds.map Mv.D.int):=hg
          subst hg
          obtain ⟨vs,rfl,rl⟩:=oo
          have R4:RepS K F0 H0 ((a,.dK ws) :: (Ps++[])) ((δ2.set i none).set m none) (σ.set m (some (.ref c))) F2 H2:=(R3.unP fun x hx=>by
            have:x=(a,.dK ws)∨x∈Ps:=by simpa using hx
            rcases this with h | h <;> simp [h]).unset m _
          refine zl5 (i:=i) (n:=n) (δ:=(δ2.set i none).set m none) R4 np nd nk hv c2 hmb rl ?_ (List.getElem?_set_self hmσ) ?_ hl2 fun H' R'=>?_
          · rw [List.getElem?_set_ne hmi]; exact ea
          · rw [List.getElem?_set_ne hmj]; exact ej
          · rw [cm] at R'
            exact W.nx _ _ F2 _ R' (ex1.trans ex2) q
        · rw [hv] at c1; cases c1
      · rcases np.val k with ⟨c,ho2,o2,c1,c2,_⟩ | ⟨c1,c2⟩
        · rw [hn] at c1; cases c1
        · rw [c2] at hg
          have hds:ds=[]:=by
            have h0:O.lst [] = .lst (ds.map Mv.D.int):=hg
            have:ds.map Mv.D.int=[]:=by injection h0 with h; exact h.symm
            exact List.map_eq_nil_iff.mp this
          subst hds
          obtain ⟨ho',hh,vs0,rfl,rl0⟩:=oa.own
          rw [hp2.2.2] at hh; cases hh
          cases rl0
          have hp:p ∉ a :: pk Ps:=fun z=>di p z (by simp [pk])
          have np_:p≠a:=fun z=>hp (z ▸ List.mem_cons_self)
          have ha2:a ∉ pk (Ps++[(p,HO.lst [])]):=fun z=>by
            have:a∈pk Ps∨a=p:=by simpa [pk] using z
            rcases this with z | z
            · exact (List.nodup_cons.mp nd).1 z
            · exact np_ z.symm
          have R4:=RepS.wrP (P:=Ps++[(p,HO.lst [])]) R3 ha2 (.dK (putK ws k (.ref p)))
          have e3:putK ws k (.ref p)=ws++[(k,.ref p)]:=zh1 (show valG ws k=none from hn) _
          have np2:NP K F2 (putK ws k (.ref p)) (kvs++[(k,.lst [])]) (Ps++[(p,.lst [])]):=by
            rw [e3]
            exact np.app (.cons (show OwnO K F2 (.lst []) (.lst []) from ⟨_,rfl,.nil⟩) .nil)
          have R5:RepS K F0 H0 ((a,.dK (putK ws k (.ref p))) :: ((Ps++[(p,.lst [])])++[])) ((δ2.set i none).set m none) (σ.set m (some (.ref p))) F2 (upd H2 a (.dK (putK ws k (.ref p)))):=by
            rw [List.append_nil]; exact R4.unset m _
          have pke:pk (Ps++[(p,HO.lst [])])=pk Ps++[p]:=by simp [pk]
          have hvp:valV (putK ws k (.ref p)) k=some (.ref p):=by
            rw [e3]; exact zgm (show valG ws k=none from hn) _
          refine zl5 (i:=i) (n:=n) (δ:=(δ2.set i none).set m none) (ds:=[]) (vs:=[]) R5 np2 (List.nodup_cons.mpr ⟨ha2,by
              rw [pke,List.nodup_append]
              exact ⟨(List.nodup_cons.mp nd).2,by simp,fun x hx y hy z=>by
                have hy:y=p:=by simpa using hy
                subst hy; exact hp (z ▸ List.mem_cons_of_mem _ hx)⟩⟩) (by
              rw [List.map_append,List.nodup_append]
              exact ⟨nk,by simp,fun x hx y hy z=>by
                have hy:y=k:=by simpa using hy
                subst hy; exact y6 c2 (z ▸ hx)⟩) hvp (zgm c2 _) (by simp) .nil ?_ (List.getElem?_set_self hmσ) ?_ (by decide) fun H' R'=>?_
          · rw [List.getElem?_set_ne hmi]; exact ea
          · rw [List.getElem?_set_ne hmj]; exact ej
          · rw [cm] at R'
            refine W.nx _ _ F2 _ R' (ex1.trans ex2) ?_
            have e5:(if n∈([]:List Int) then kvs++[(k,.lst [])] else putG (kvs++[(k,.lst [])]) k (.lst (([]++[n]).map Mv.D.int)))=(if n∈([]:List Int) then kvs else putG kvs k (.lst (([]++[n]).map Mv.D.int))):=by
              rw [if_neg (by simp),if_neg (by simp),zty c2]
            rw [e5]; exact q
    · exact ht.elim
  · exact ht.elim
end
section
variable {κ:Type} {tk:DE} {to:DOw} {δ δ1:Dl} {D':DEnds} {i j mm:Nat} {rest:DS}
def zbb [DecidableEq κ] (t:List (κ×List Int)) (x:κ) (n:Int):List (κ×List Int):=if n∈(valG t x).getD [] then t else putG t x ((valG t x).getD []++[n])
theorem zvi [DecidableEq κ] {f:κ→Key} [Inj f] {ek:κ→D} {n:Int} {t:List (κ×List Int)} {m:(κ→Prop)→Prop} {s0:Option S} {K:List (κ×List Int)→Prop} (hk:∀ x,dkey (ek x)=some (f x)) (ht:∀ δ Q,Q δ (.lst [])→to δ Q)
    (h0:δ[mm]? = some s0) (h1:δ[i]? = some (nkS f (oL D.int) t)) (C:SE tk δ δ1 m ek) (h2:δ1[i]? = some (nkS f (oL D.int) t)) (h3:δ1[j]? = some (some (.fz (.int n))))
    (h:m fun x=>zr (t.length < sizeLine∧((valG t x).getD []).length < sizeLine) (asgW (zbb t x n) K)) (hr:∀ u,K u→D'.nx ((δ1.set mm none).set i (nkS f (oL D.int) u))):zk0 i mm j tk to D' δ:=by
  refine ⟨(List.getElem?_eq_some_iff.mp h0).1,?_⟩
  unfold zo1
  rw [h1]
  refine C _ _ h fun x ⟨hl,hx⟩=>ht _ _ ⟨rfl,?_⟩
  rw [h2]
  refine ⟨f x,n,(valG t x).getD [],hk x,by rw [zqz]; exact hl.1,h3,?_,hl.2,?_⟩
  · rw [zky]
    cases valG t x <;> rfl
  · have e2:(if n∈(valG t x).getD [] then tyN f (oL D.int) t else putG (tyN f (oL D.int) t) (f x) (.lst (((valG t x).getD []++[n]).map D.int)))=tyN f (oL D.int) (zbb t x n):=by
      unfold zbb
      split
      · rfl
      · exact zq0 t x _
    rw [e2]
    exact hr _ hx
end
theorem Fun.kbn {K:Frag} {x qual:Str} {st:Stmt} {f:Addr} {fd:FuncData} {ps:List Str} (F:Fun K x qual st f fd) (n:Nat) (ks:List Str) (pat:List (Nat×Nat))
    (h:∀ (kV doc pm:Value) (an:Option Addr) (cdv ct:Value) (us ws:List Value),us.length=n→ws.length=ks.length→bindArgs (fnOf x qual (defArgs st) (defBody st) (defScope st) .none kV doc pm an cdv ct) ⟨us,ks.zip ws⟩=pure (ps.zip (ord3 pat us [] ws))) :
    KBn K fd ps n ks (fun us ws=>ord3 pat us [] ws) (fun vs zs=>ord3 pat vs [] zs):=by
  obtain ⟨oc,od,kV,doc,pm,an,cdv,ct,osl,rfl,lk,hcd⟩:=F.ex
  exact ⟨fun s us ws X l1 l2=>.of_eq (h kV doc pm an cdv ct us ws l1 l2),fun r1 r2=>yp r1 .nil r2 pat⟩
section
variable {X:Cx} {K:Frag} {CX:CXT} {k:Nat} {f:Addr} {fd:FuncData} {ps ks:List Str} {sp:Sp} {E:XK} {x:Str} {p pos:Pos} {kws:List Keyword} {tk:TA} {g:List Value→List Value→List Value} {gV:List V→List V→List V}
theorem zb2 (F:FnOk X.prog X.w X.K X.mg X.base CX k f fd ps sp) (hr:Room k X.A) (hg:Gl X x) (hm:X.mg x=some (.ref f)) (hk:keepIn X.K (.ref f)=true) (hb:KBn X.K fd ps 0 ks g gV) (hx:Passes CX X E) (hkw:PK X kws tk)
    (hall:(backToKw pos (keywordEach kws X.env)).all (·.1.isSome)=true:=by rfl) (hks:(backToKw pos (keywordEach kws X.env)).filterMap (·.1)=ks:=by rfl) (hdb:(x == ("__debug__" : Str))=false:=by decide)
    (hpl:((backTo pos (starEach [] X.env)).any (·.1) || (backToKw pos (keywordEach kws X.env)).any (·.1.isNone))=false:=by rfl) :
    PE X (.Call (.Name x p) [] kws pos) (tCallN 0 ks.length sp gV E (upA K dNil) tk):=pimp (t:=tCallN 0 ks.length sp gV E tNil tk) (by
  refine ⟨fun pins s σ H Q I h=>?_⟩
  refine wpAny_Call_Name_kw (ld_glob I hg hm ?_ hdb)
  refine PySem.W.callWith_KW0 (h₀:=X.base) I.ok.mod.kin hk hall ?_ hpl
  refine thn (hkw.run pos pins s σ H _ I h) fun ws s2 ⟨zs,H2,I2,rz,l1,l2,q2⟩=>⟨I2.kIn,?_⟩
  rw [hks]
  exact run_fnN (us:=[]) (vs:=[]) F hr hb hx I2 .nil rz rfl l2 q2) fun σ H Q h=>zyp h
end
section
variable {κ α:Type} {te:DE} {δ δ1:Dl} {e:α→D} {m:(List (κ×α)→Prop)→Prop} {f:κ→Key}
theorem zrd (A:SE te δ δ1 m (eK f e)):SE te δ δ1 (fun k=>m fun t=>k (t.map fun q=>(q.1,e q.2))) (eK f anyD):=fun K Q hm c=>A _ Q hm fun t ht=>by
  have h:eK f anyD (t.map fun q=>(q.1,e q.2))=eK f e t:=by
    unfold eK tyG
    rw [List.map_map]
    rfl
  have h2:=c _ ht
  rw [h] at h2
  exact h2
end
theorem walk_mvE {l:PySem.W.OpenLaw} {n:Nat} {q:Program} {loose:List Str} {XP:(Str→Option Value)→Heap→Prop} {YP:World→Heap→Prop} {d:DefRec} {sp:DSp} {x:Str}
    (hn:l.most=some n) (hn2:n≤sizeLine) (hdf:d.params.defaults=[]) (hi:importsNone q=true)
    (Fn:∀ (w:World) (mg:Str→Option Value) (fa:Addr) (h:Heap),YP w h→h.Ns mainGlobals mg→mg d.name=some (.ref fa) →
      ∃ K:Frag,K.In h∧K.lookup sysModules=none∧∃ fd:FuncData,(∀ (s:Shared) (u:Value),BindsTo s fd ⟨[u],[]⟩ [(x,u)]) ∧
        ∀ base:Heap,K.In base→base.Ns mainGlobals mg→FnAt l.prog w K mg base callerA fa fd [x] (spD K 1 sp))
    (hsp:∀ ns:List Int,ns.length≤n→(∀ z∈ns,Builtin.Int.intBits z≤1048576)→sp [.scr ns] fun r=>r = .fz (.bl true)) :
    PySem.W.WalkO q loose XP YP l.row.toRowW d [] (fun f vs=>PySem.call f vs):=by
  refine Att.attach_callB hn hdf fun w s₀ s₁ mg mb fa o pm cd doc a vs ns G Y ho hd hcd hmg hobj hints hlen hbits hg=>?_
  obtain ⟨K,KX,hK1,fd,hb,hF⟩:=Fn w mg fa _ Y G.T.g hmg
  exact zyc KX G.T.g G.T.b G.T.builtins G.T.nolimit (G.T.seer hi) hg hobj hints (Nat.le_trans hlen hn2) hK1 hF hb (hsp ns hlen hbits)
end Mv
namespace Mv
namespace K32
open PySem PySem.Spec PyProof.Rows L2
abbrev Z:=Option S
def zdq:Sg:=⟨"b", by decide +kernel⟩
def zj4:Sg:=⟨"ab", by decide +kernel⟩
def zhk:Sg:=⟨"red", by decide +kernel⟩
def zj5:Sg:=⟨"zz", by decide +kernel⟩
def zre:Sg:=⟨"new", by decide +kernel⟩
def zic:Sg:=⟨"lost", by decide +kernel⟩
def zid:Sg:=⟨"kept", by decide +kernel⟩
def zk1:Sg:=⟨"put", by decide +kernel⟩
def za1:Sg:=⟨"split", by decide +kernel⟩
def zfc:Sg:=⟨"merged", by decide +kernel⟩
section
variable [CTb]
def yu (zt:DSp) (x5:DSp):DS :=
 (dSeq (dPar [1,2] (dmO (dRg2 (dC (.int 1)) (dC (.int 10))) (dmF (dFrz (dLst dNil)) zhb)))
 (dSeq (dFor (dIR1 (ze (dCall 2 zt (ze (dVar 0) (ze (dC (.int 5)) dNil))) dNil)) (gN 3)
 (dSeq (ug 4 (dLst dNil))
 (dSeq (dFor (dIR1 (ze (d2 gAdd (dC (.int 1)) (dCall 2 zt (ze (dVar 0) (ze (dC (.int 3)) dNil)))) dNil)) (gN 5)
 (dIfS (dTst (d2VV (gEqA true) (dVV 1) (dVF (dFrz (dLst dNil))))) (dApp 4 (zed 1 (dCall 2 zt (ze (dVar 0) (ze (d1V gLen (dVV 1)) dNil))))) vc))
 (dAsg (dFrz (d2VO gCat (dVV 2) (dVF (dFrz (dRep (dLst (ze (d1 zkq (v8 (dVF (dFrz (d1O vn (v8 (dVV 4) vNil)))) vNil)) dNil)) (d1 gInt (v8 (dVF (d2VV (gEqA true) (dVV 4) (dVF (dFrz (dLst dNil))))) vNil))))))) (gN 2)))))
 (dSeq (dPar [6,7] (dmO y0 (dmO y0 zhb)))
 (dSeq (dFor (dIR2 (ze (dC (.int 1)) (ze (dC (.int 10)) dNil))) (gN 8)
 (dSeq (dIfS (dTst (d2 gGt (dCall 2 zt (ze (dVar 0) (ze (dC (.int 4)) dNil))) (dC (.int 0)))) (dAsg (dCall 2 x5 (ze (dVar 0) (ze (dFrz (dLst (ze (dC (.str "b")) (ze (dC (.str "ab")) (ze (dC (.str "red")) (ze (dC (.str "zz")) dNil)))))) dNil))) (gSet 6 (dVar 8))) vc)
 (dAsg (dCall 2 x5 (ze (dVar 0) (ze (dFrz (dLst (ze (dC (.int 1)) (ze (dC (.int 1)) (ze (dC (.int 2)) (ze (dC (.int 3)) (ze (d2 gAdd (dC (.int 1)) (dCall 2 zt (ze (dVar 0) (ze (dC (.int 9)) dNil)))) (ze (d2 gPow (dC (.int 10)) (dC (.int 6))) dNil)))))))) dNil))) (gSet 7 (dVar 8)))))
 (dSeq (ug 9 y0)
 (dSeq (dFor (dIL (dFrz (dLst (ze (dC (.str "red")) (ze (dC (.str "ab")) (ze (dC (.str "b")) (ze (dC (.str "zz")) (ze (dC (.str "new")) dNil)))))))) (gN 10)
 (dIfS (dTst (d2VV (gEqA false) (dVF (dCall 2 zt (ze (dVar 0) (ze (dC (.int 3)) dNil)))) (dVF (dC (.int 0))))) (dAsg (d2 gAdd (dC (.int 1)) (dCall 2 zt (ze (dVar 0) (ze (dC (.int 12)) dNil)))) (gSet 9 (dVar 10))) vc))
 (dRet (dTup (ze (dVar 2) (ze (dVar 6) (ze (dVar 7) (ze (dVar 9) dNil))))))))))))
def zaf:DS :=
 (zbr (dDc (.dk []) (dIEn (ze (dVar 0) dNil)) (gTp 2 (zu (gN 1) (zu (gN 2) jr))) dYes (zgb (dIT (dVar 2)) (gN 3) dYes (y5 (dVar 3) (dVar 1)) [3]) [1,2,3]))
def ub (zo:DSp):DS :=
 (dSeq (dAsg (dCall 1 zo (ze (dVar 0) dNil)) (gN 2))
 (dSeq (ug 3 y0)
 (dSeq (ug 4 y0)
 (dSeq (dFor (dIL (dFrz (d1O vn (v8 (dVV 1) vNil)))) (gN 5)
 (dSeq (dAsg (zg8 (dVV 2) (d2V gIx (dVV 1) (dVar 5))) (gN 6))
 (dIfS (dAnd (dTst (d2 zex (dVar 6) (dC .non))) (dTst (d2W (gInN true) (dVar 6) (dVV 4)))) (dSeq (dAsg (dVar 5) (gSet 4 (dVar 6)))
 (dAsg (d2V gIx (dVV 1) (dVar 5)) (gSet 3 (dVar 5)))) vc)))
 (za2 3)))))
def u7:DS :=
 (dSeq (zjb 1)
 (dSeq (dFor (dIL (dFrz (d1O vn (v8 (dVV 0) vNil)))) (gN 2)
 (dSeq (zco 1 (d2V gIx (dVV 2) (dC (.int 0))) y0)
 (dAsg (d2V gIx (dVV 0) (dVar 2)) (zrq 1 (d2V gIx (dVV 2) (dC (.int 0))) (d2V gIx (dVV 2) (dC (.int 1)))))))
 (dRet (zhg 1))))
def yv:DS :=
 (dSeq (ug 3 (dDc (.dk []) (dIKs (dVar 0)) (gN 4) dYes (y5 (dVar 4) (dC (.int 0))) [4]))
 (dSeq (ug 5 y0)
 (dSeq (dAsg (dC (.bl true)) (gN 6))
 (dSeq (zf5 (dTst (dVar 6))
 (dSeq (dAsg (dC (.bl false)) (gN 6))
 (dFor (dIIt (dVar 0)) (gTp 2 (zu (gN 4) (zu (gN 7) jr)))
 (dFor (dIIt (dVar 7)) (gTp 2 (zu (gN 8) (zu (gN 9) jr)))
 (dSeq (dAsg (dVar 9) (gN 10))
 (dSeq (dIfS (dTst (d2W (gInB false) (dVar 8) (dVV 2))) (dSeq (dAsg (d2V gIx (dVV 2) (dVar 8)) (gN 11))
 (dAug 10 (fun i j=>i + j) (d2 gSub (d2V gIx (dVV 3) (dVar 11)) (d2V gIx (dVF (d2V gIx (dVV 0) (dVar 11))) (dVar 8))))) vc)
 (dIfS (dAnd (dTst (d2 gGt (dVar 10) (d2V gIx (dVV 3) (dVar 4)))) (dTst (d2VV (gEqA true) (dVF (zg8 (dVV 1) (dVar 4))) (dVV 8)))) (dSeq (dAsg (dTup (ze (dVar 10) (ze (dVar 8) dNil))) (gTp 2 (zu (gSet 3 (dVar 4)) (zu (gSet 5 (dVar 4)) jr))))
 (dAsg (dC (.bl true)) (gN 6))) vc)))))))
 (za2 5)))))
def v0 (qu:DSp) (xg:DSp):DS :=
 (dSeq (dAsg (dCall 1 qu (ze (dVar 0) dNil)) (gN 1))
 (dSeq (dPar [2,3,4] (dmO y0 (dmO y0 (dmO y0 zhb))))
 (dSeq (dFor (dIIt (dVar 1)) (gTp 2 (zu (gN 5) (zu (gN 6) jr)))
 (dSeq (dAsg (dVar 6) (gSet 2 (dVar 5)))
 (dSeq (dAsg (dFrz (zrs [2,3,4] (zi1 3 xg (ze (dVar 2) (ze (dVar 3) (ze (dVar 4) dNil)))))) (gN 7))
 (dSeq (dAsg (dVar 5) (gN 8))
 (dSeq (zf5 (dTst (d2W (gInN false) (dVar 8) (dVV 7)))
 (dSeq (dAsg (d2V gIx (dVV 7) (dVar 8)) (gN 9))
 (dSeq (dAsg (zg8 (dVV 4) (dVar 9)) (gN 10))
 (dSeq (dAsg (dTup (ze (dVar 9) (ze (dVar 8) dNil))) (gTp 2 (zu (gSet 3 (dVar 8)) (zu (gSet 4 (dVar 9)) jr))))
 (dAsg (dVar 10) (gN 8))))))
 (zrg (zhe 3 (dVar 8) (dC .non))))))))
 (za2 3))))
def u8:DS :=
 (zbr (d1O vn (v8 (dVF (dFrz (dDc (.dk []) (dIKs (dVar 0)) (gTp 2 (zu (gN 1) (zu (gN 2) jr))) dYes (y5 (dVar 1) (dC (.bl true))) [1,2]))) vNil)))
def um:DS :=
 (zbr (d1O vn (v8 (dVF (dFrz (dDc (.dk []) (dIKs (dVar 0)) (gTp 2 (zu (gN 1) (zu (gN 2) jr))) dYes (y5 (dVar 2) (dC (.bl true))) [1,2]))) vNil)))
def u9 (qv:DSp) (qh:DSp):DS :=
 (dSeq (dPar [2,3] (dmF (dCall 1 qv (ze (dVar 0) dNil)) (dmF (dCall 1 qh (ze (dVar 0) dNil)) zhb)))
 (dSeq (ug 4 (dLst (ze (dC (.int 1)) dNil)))
 (dSeq (dFor (dIL (dVar 2)) (gN 5)
 (dApp 4 (d2 gMul (d2V gIx (dVV 4) (dNeg (dC (.int 1)))) (d2 gAdd (d1V gLen (dVV 3)) (dC (.int 1))))))
 (dSeq (ug 6 znh)
 (dSeq (dFor (zro (dVar 0)) (gTp 2 (zu (gN 7) (zu (gN 8) jr)))
 (dSeq (dAsg (dVar 7) (gTp 2 (zu (gN 5) (zu (gN 9) jr))))
 (dSeq (dAsg (zng (d2 zex (dVar 1) (dC .non)) (zng (d2W (gInB false) (dVar 5) (dVV 1)) (d2VV (gEqA false) (dVF (d2V gIx (dVV 1) (dVar 5))) (dVV 9)))) (gN 10))
 (dSeq (dAsg (d2 gMul (d2 gSub (d1V gLen (dVV 3)) (zja (dVV 3) (dVar 9))) (d2V gIx (dVV 4) (d2 gSub (d2 gSub (d1V gLen (dVV 2)) (dC (.int 1))) (zja (dVV 2) (dVar 5))))) (gN 11))
 (dSeq (dAsg (d2 gAdd (d2 gMul (d2 gAdd (d2 gMul (dVar 8) (d2 gAdd (d1V gLen (dVV 2)) (dC (.int 1)))) (dC (.int 1))) (d2 gAdd (d1V gLen (dVV 2)) (dC (.int 1)))) (d1 gInt (v8 (dVV 10) vNil))) (gN 12))
 (dAsg (d2 gAdd (d2 gMul (dVar 12) (d2V gIx (dVV 4) (d1V gLen (dVV 2)))) (dVar 11)) (gSet 6 (dVar 7))))))))
 (za2 6))))))
def uc (z6:DSp) (qw:DSp):DS :=
 (zbr (zi1 1 z6 (ze (yo 1 1 2 qw (ze (dVar 0) dNil) (ze (dVar 1) dNil) (fun ds zs=>ord3 [(0,0),(2,0)] ds [] zs)) dNil)))
def zb3:DS :=
 (zbr (dDc (.dt []) (dIKs (dVar 0)) (gN 3) (dAnd (dTst (d2W (gInE true) (d2V gIx (dVV 3) (dC (.int 0))) (dVV 1))) (dTst (d2W (gInE true) (d2V gIx (dVV 3) (dC (.int 1))) (dVV 2)))) (y5 (dVar 3) (d2V gIx (dVV 0) (dVar 3))) [3]))
def ya:DS :=
 (dSeq (ug 3 znh)
 (dSeq (dFor (dIEn (ze (dVar 1) dNil)) (gTp 2 (zu (gN 4) (zu (gN 5) jr)))
 (dFor (dIT (dVar 5)) (gN 6)
 (dIfS (dTst (d2W (gInB false) (dVar 6) (dVV 0))) (dSeq (dAsg (dTup (ze (d2V gIx (dVV 0) (dVar 6)) (ze (dVar 4) dNil))) (gN 7))
 (dAsg (d2 gAdd (zi2 (dVV 3) (dVar 7) (dC (.int 0))) (d2V gIx (dVV 2) (dVar 6))) (gSet 3 (dVar 7)))) vc)))
 (za2 3)))
def yw (zo:DSp) (ja:DSp) (qx:DSp):DS :=
 (dSeq (dAsg (dCall 1 zo (ze (dVar 1) dNil)) (gN 4))
 (dSeq (zhc 5 (dLc (dIVs (dVar 3)) (gN 6) dYes (d2V gIx (dVV 4) (dVar 6)) [6]))
 (dRet (yo 1 2 3 ja (ze (dCall 3 qx (ze (dVar 0) (ze (dVar 1) (ze (dVar 2) dNil)))) dNil) (ze (dFrz (d1O zf8 (v8 (dVV 3) vNil))) (ze (dVar 5) dNil)) (fun ds zs=>ord3 [(0,0),(2,0),(2,1)] ds [] zs)))))
def yx (zo:DSp) (zl:DSp) (z9:DSp) (xh:DSp):DS :=
 (dSeq (dAsg (dCall 2 zl (ze (dVar 1) (ze (dIf (dTst (d2 gIsN (dVar 3) (dC .non))) (dFrz y0) (dVar 3)) dNil))) (gN 5))
 (dSeq (dAsg (dCall 1 zo (ze (dVar 1) dNil)) (gN 6))
 (dSeq (zhc 7 (dDc (.dk []) (dIIt (dVar 5)) (gTp 2 (zu (gN 8) (zu (gN 9) jr))) dYes (y5 (dVar 8) (d2V gIx (dVV 6) (dVar 9))) [8,9]))
 (zbr (dMrg (dVar 7) (yo 1 1 2 z9 (ze (dCall 4 xh (ze (dVar 0) (ze (dVar 1) (ze (dVar 2) (ze (dVar 5) dNil))))) dNil) (ze (dVar 4) dNil) (fun ds zs=>ord3 [(0,0),(2,0)] ds [] zs)))))))
def zag:DS :=
 (zbr (dDc (.dk []) (dIIt (dVar 1)) (gTp 2 (zu (gN 2) (zu (gN 3) jr))) dYes (zgb (dIT (d2V gIx (dVV 0) (dVar 3))) (gN 4) dYes (y5 (dVar 4) (dVar 2)) [4]) [2,3,4]))
def yb:DS :=
 (dSeq (ug 3 (dLst dNil))
 (dSeq (dFor (dIEn (ze (dVar 1) dNil)) (gTp 2 (zu (gN 4) (zu (gN 5) jr)))
 (dExt 3 (dLc (dIT (dVar 5)) (gN 6) (dAnd (dTst (d2W (gInB false) (dVar 6) (dVV 0))) (dTst (d2VV (gEqA true) (dVF (zg8 (dVV 2) (d2V gIx (dVV 0) (dVar 6)))) (dVV 4)))) (dVar 6) [6])))
 (zbr (d1O vn (v8 (dVV 3) vNil)))))
def uo:DS :=
 (dSeq (zjb 2)
 (dSeq (dFor (dIEn (ze (dVar 1) dNil)) (gTp 2 (zu (gN 3) (zu (gN 4) jr)))
 (dFor (dIT (dVar 4)) (gN 5)
 (dIfS (dTst (d2W (gInB false) (dVar 5) (dVV 0))) (zk0 2 6 3 (d2V gIx (dVV 0) (dVar 5)) (dLst dNil)) vc)))
 (dRet (zhg 2))))
def zb4:DS :=
 (dSeq (dIfS (dTst (d2W (gInB true) (dVar 0) (dVV 2))) (dRet (dTup (ze (dC (.str "lost")) (ze (dVar 0) dNil)))) vc)
 (dRet (dTup (ze (dIf (dTst (d2W (gInB false) (d2V gIx (dVV 2) (dVar 0)) (dVV 1))) (dC (.str "kept")) (dC (.str "put"))) (ze (dVar 0) (ze (d2V gIx (dVV 2) (dVar 0)) dNil))))))
def zah (qi:DSp) (jb:DSp):DS :=
 (dSeq (dAsg (dCall 2 qi (ze (dVar 0) (ze (dVar 1) dNil))) (gN 3))
 (dSeq (ug 4 (dLc (dIL (dFrz (d1O vn (v8 (dVF (dFrz (dMrg (dVar 3) (dVar 2)))) vNil)))) (gN 5) dYes (dCall 3 jb (ze (dVar 5) (ze (zi2 (dVV 3) (dVar 5) (dFrz (dLst dNil))) (ze (dVar 2) dNil)))) [5]))
 (dSeq (dExt 4 (dLc (dIL (dFrz (d1O vn (v8 (dVV 3) vNil)))) (gN 5) (dTst (d2 gGt (d1V gLen (dVF (d2V gIx (dVV 3) (dVar 5)))) (dC (.int 1)))) (dTup (ze (dC (.str "split")) (ze (dVar 5) (ze (dFrz (d1O zf8 (v8 (dVF (d2V gIx (dVV 3) (dVar 5))) vNil))) dNil)))) [5]))
 (dSeq (dFor (dIEn (ze (dVar 1) dNil)) (gTp 2 (zu (gN 6) (zu (gN 7) jr)))
 (dSeq (dAsg (dFrz (d1O vn (v8 (dVF (dFrz (dDc (.dk []) (dIT (dVar 7)) (gN 9) (dTst (d2W (gInB false) (dVar 9) (dVV 0))) (y5 (d2V gIx (dVV 0) (dVar 9)) (dC (.bl true))) [9]))) vNil))) (gN 8))
 (dIfS (dTst (d2 gGt (d1V gLen (dVV 8)) (dC (.int 1)))) (dApp 4 (dTup (ze (dC (.str "merged")) (ze (dVar 6) (ze (dVar 8) dNil))))) vc)))
 (za2 4)))))
def zj6 (vp:DSp) (xi:DSp) (zl:DSp) (qf:DSp) (qy:DSp) (z8:DSp) (qz:DSp):DS :=
 (dSeq (dFor (dIR1 (ze (dC (.int 4)) dNil)) (gN 1)
 (dSeq (dAsg (dCall 2 vp (ze (dVar 0) (ze (dVar 1) dNil))) (gN 2))
 (dSeq (dAsg (dCall 1 xi (ze (dVar 2) dNil)) (gTp 4 (zu (gN 3) (zu (gN 4) (zu (gN 5) (zu (gN 6) jr))))))
 (dSeq (dAsg (yo 3 2 5 qf (ze (dVar 4) (ze (dVar 3) (ze (dVar 5) dNil))) (ze (dVar 6) (ze (dFrz (znn (((dC (.str "b")),(dC (.int 1))) :: []))) dNil)) (fun ds zs=>ord3 [(0,0),(0,1),(0,2),(2,0),(2,1)] ds [] zs)) (gN 7))
 (dSeq (dIfS (dTst (d2VV (gEqA true) (dVF (yo 0 5 5 qf dNil (ze (dFrz (znn (((dC (.str "b")),(dC (.int 1))) :: []))) (ze (dVar 6) (ze (dVar 5) (ze (dVar 3) (ze (dVar 4) dNil))))) (fun ds zs=>ord3 [(2,4),(2,3),(2,2),(2,1),(2,0)] ds [] zs))) (dVV 7))) (dRet (dC (.bl false))) vc)
 (dSeq (dIfS (dTst (d2VV (gEqA true) (dVF (yo 0 2 2 qy dNil (ze (dVar 7) (ze (dVar 3) dNil)) (fun ds zs=>ord3 [(2,1),(2,0)] ds [] zs))) (dVF (dCall 2 qy (ze (dVar 3) (ze (dVar 7) dNil)))))) (dRet (dC (.bl false))) vc)
 (dSeq (dIfS (dTst (d2VV (gEqA true) (dVF (yo 0 2 2 zl dNil (ze (dVar 6) (ze (dVar 3) dNil)) (fun ds zs=>ord3 [(2,1),(2,0)] ds [] zs))) (dVF (dCall 2 zl (ze (dVar 3) (ze (dVar 6) dNil)))))) (dRet (dC (.bl false))) vc)
 (dSeq (dIfS (dTst (d2VV (gEqA true) (dVF (yo 0 3 3 z8 dNil (ze (dVar 7) (ze (dVar 3) (ze (dVar 4) dNil))) (fun ds zs=>ord3 [(2,2),(2,1),(2,0)] ds [] zs))) (dVF (dCall 3 z8 (ze (dVar 4) (ze (dVar 3) (ze (dVar 7) dNil))))))) (dRet (dC (.bl false))) vc)
 (dIfS (dTst (d2VV (gEqA true) (dVF (yo 0 3 3 qz dNil (ze (dVar 7) (ze (dVar 3) (ze (dVar 4) dNil))) (fun ds zs=>ord3 [(2,2),(2,1),(2,0)] ds [] zs))) (dVF (dCall 3 qz (ze (dVar 4) (ze (dVar 3) (ze (dVar 7) dNil))))))) (dRet (dC (.bl false))) vc)))))))))
 (dRet (dC (.bl true))))
end
section
variable [CTb]
@[irreducible] def zai (zi:Unit) (Q:((List (List Int))×(List (Int×Sg))×(List (Int×Int))×(List (Sg×Int)))→Prop):Prop :=
 rgW (1:Int) (10:Int) fun t_=>zcl t_ ([]:(List (List Int))) fun left parts =>
 qr zi (5:Int) fun t_1=>zad 0 t_1 fun t_2=>yi t_2 left parts (fun (x_:Int) (left2:(List Int)) (parts2:(List (List Int))) nxt =>
   asgW ([]:(List Int)) fun group =>
   qr zi (3:Int) fun t_3=>zad 0 ((1:Int) + t_3) fun t_4=>yi t_4 left2 group (fun (x_1:Int) (left4:(List Int)) (group2:(List Int)) nxt1 =>
     ifW (!eqB left4 ([]:(List Int)))
      (qr zi (left4.length:Int) fun t_5=>popW left4 t_5 fun t_6 left5=>appW group2 t_6 fun group3 =>
       nxt1 left5 group3)
      (nxt1 left4 group2)) (fun (left3:(List Int)) (group1:(List Int)) =>
     zr (group1.length≤16777216) <| zr (-(2 ^ 63)≤(if (!eqB group1 ([]:(List Int)))=true then (1:Int) else 0)∧(if (!eqB group1 ([]:(List Int)))=true then (1:Int) else 0) < 2 ^ 63∧([(zv D.int group1)]:(List (List Int))).length * ((if (!eqB group1 ([]:(List Int)))=true then (1:Int) else 0)).toNat≤sizeLine) <| zr (parts2.length + (List.replicate ((if (!eqB group1 ([]:(List Int)))=true then (1:Int) else 0)).toNat ([(zv D.int group1)]:(List (List Int)))).flatten.length≤sizeLine) <| asgW (parts2++(List.replicate ((if (!eqB group1 ([]:(List Int)))=true then (1:Int) else 0)).toNat ([(zv D.int group1)]:(List (List Int)))).flatten) fun parts3 =>
     nxt left3 parts3)) (fun (left1:(List Int)) (parts1:(List (List Int))) =>
   zcl ([]:(List (Int×Sg))) ([]:(List (Int×Int))) fun tags loads =>
   zad (1:Int) (10:Int) fun t_7=>yi t_7 tags loads (fun (x_2:Int) (tags2:(List (Int×Sg))) (loads2:(List (Int×Int))) nxt2 =>
     ze6 (fun (tags3:(List (Int×Sg))) =>
       qr zi (9:Int) fun t_10=>zr (CPw (10:Int) (6:Int)) <| ur () ([(1:Int),(1:Int),(2:Int),(3:Int),((1:Int) + t_10),((10:Int) ^ ((6:Int)).toNat)]:(List Int)) fun t_11=>putW loads2 x_2 t_11 fun loads3 =>
       nxt2 tags3 loads3) fun cont =>
     qr zi (4:Int) fun t_8=>ifW (decide ((0:Int) < t_8))
      (ur () ([zdq,zj4,zhk,zj5]:(List Sg)) fun t_9=>putW tags2 x_2 t_9 fun tags4 =>
     cont tags4)
      (cont tags2)) (fun (tags1:(List (Int×Sg))) (loads1:(List (Int×Int))) =>
     asgW ([]:(List (Sg×Int))) fun stuck =>
     qm ([zhk,zj4,zdq,zj5,zre]:(List Sg)) stuck (fun (x_3:Sg) (stuck2:(List (Sg×Int))) nxt3 =>
       qr zi (3:Int) fun t_12=>ifW (eqB t_12 (0:Int))
        (qr zi (12:Int) fun t_13=>putW stuck2 x_3 ((1:Int) + t_13) fun stuck3 =>
         nxt3 stuck3)
        (nxt3 stuck2)) (fun (stuck1:(List (Sg×Int))) =>
       retW (parts1,tags1,loads1,stuck1) Q)))
def xi:DSp:=fun ds Q'=>∃ (zi:Unit) (K:((List (List Int))×(List (Int×Sg))×(List (Int×Int))×(List (Sg×Int)))→Prop),ds=[jl zi]∧zai zi K∧∀ r,K r→Q' (.fz ((eP4 (eL (eT D.int)) (eK kI sD) (eK kI D.int) (eK kS D.int)) r))
theorem zo2 (ds:List D) (Q':S→Prop) (h:xi ds Q'):yu zcp zbw (DEnds.of Q') (zp 11 ds):=by
  obtain ⟨zi,Q,rfl,h,hQ⟩:=h
  show yu zcp zbw (DEnds.of Q') [(fz (jl zi)),none,none,none,none,none,none,none,none,none,none]
  unfold yu
  unfold zai at h
  refine (zh3 (sm_O (zy0 (se_c D.int 1 rfl) (se_c D.int 10 rfl)) (sm_F (xf (e:=(eL (eT D.int))) (yr (fun _=>([]:(List (List Int)))) (eT D.int) 0 zh (fun _=>rfl) (fun _=>rfl) (Nat.zero_le _)) (fun _=>rfl)) zjg)) h (fun _=>rfl) ?_)
  intro left parts h
  refine (ze7 (fun (left1:(List Int)) (parts1:(List (List Int))) (j_:Z×Z×Z×Unit)=>[(fz (jl zi)),(ow ((oL D.int) left1)),(fz ((eL (eT D.int)) parts1)),j_.1,j_.2.1,j_.2.2.1,none,none,none,none,none]) (none,none,none,()) (zrw (zc (qc (er:=D.int) (zc (zb 0 jl zi rfl) (zc (se_c D.int 5 rfl) zh)) (fun _=>rfl) (fun s=>qr s.1 s.2.1) (fun s K Q h c=>zbm s K Q h (fun r hr=>c r _ hr rfl))) zh)) h ?_ ?_)
  · intro N x_ left2 parts2 j_1 nxt hN_nxt h
    refine xp ?_
    refine (vu (yr (fun _=>([]:(List Int))) D.int 0 zh (fun _=>rfl) (fun _=>rfl) (Nat.zero_le _)) h ?_)
    intro group h
    refine (ze7 (fun (left3:(List Int)) (group1:(List Int)) (j_2:Z×Unit)=>[(fz (jl zi)),(ow ((oL D.int) left3)),(fz ((eL (eT D.int)) parts2)),(fz (D.int x_)),(ow ((oL D.int) group1)),j_2.1,none,none,none,none,none]) (j_1.2.2.1,()) (zrw (zc (xo yh (se_c D.int 1 rfl) (qc (er:=D.int) (zc (zb 0 jl zi rfl) (zc (se_c D.int 3 rfl) zh)) (fun _=>rfl) (fun s=>qr s.1 s.2.1) (fun s K Q h c=>zbm s K Q h (fun r hr=>c r _ hr rfl)))) zh)) h ?_ ?_)
    · intro N x_1 left4 group2 j_3 nxt1 hN_nxt1 h
      refine xp ?_
      refine (za8 (qp (uk (zjj (by decide)) (sv_o 1 left4 (o:=(oL D.int) left4) rfl) (sv_v (xf (e:=(eL D.int)) (yr (fun _=>([]:(List Int))) D.int 0 zh (fun _=>rfl) (fun _=>rfl) (Nat.zero_le _)) (fun _=>rfl))) (uw (o:=(oL D.int) left4) rfl rfl) zg)) h ?_ ?_)
      · intro h
        refine (zs9 rfl rfl (qc (er:=D.int) (zc (zb 0 jl zi rfl) (zc (za6 y9 (sv_o 1 left4 (o:=(oL D.int) left4) rfl) (uw (o:=(oL D.int) left4) rfl rfl)) zh)) (fun _=>rfl) (fun s=>qr s.1 s.2.1) (fun s K Q h c=>zbm s K Q h (fun r hr=>c r _ hr rfl))) rfl (fun _=>rfl) h ?_)
        intro left5 group3 h
        exact hN_nxt1 left5 group3 ((fz (D.int x_1)),()) h
      · intro h
        exact hN_nxt1 left4 group2 ((fz (D.int x_1)),()) h
    · intro left3 group1 j_2 h
      refine (zjk (xf (e:=(eL (eT D.int))) (zwu zyy (sv_f 2 (eL (eT D.int)) parts2 rfl) (sv_v (xf (e:=(eL (eT D.int))) (zy1 (yr (fun s=>[s.1]) (eT D.int) 1 (zc (zru zwy (sv_v (xf (e:=(eL D.int)) (za7 zok (sv_o 4 group1 (o:=(oL D.int) group1) rfl) (uw (o:=(oL D.int) group1) rfl rfl)) (fun _=>rfl))) zg) zh) (fun _=>rfl) (fun _=>rfl) (by show 1≤sizeLine; decide)) (zru zqu (sv_v (uk (zjj (by decide)) (sv_o 4 group1 (o:=(oL D.int) group1) rfl) (sv_v (xf (e:=(eL D.int)) (yr (fun _=>([]:(List Int))) D.int 0 zh (fun _=>rfl) (fun _=>rfl) (Nat.zero_le _)) (fun _=>rfl))) (uw (o:=(oL D.int) group1) rfl rfl) zg)) zg)) (fun _=>rfl))) zg zg) (fun _=>rfl)) h ?_)
      intro parts3 h
      exact hN_nxt left3 parts3 ((fz (D.int x_)),(ow ((oL D.int) group1)),j_2.1,()) h
  · intro left1 parts1 j_ h
    refine (zh3 (sm_O (ul (e:=sD) (f:=kI)) (sm_O (ul (e:=D.int) (f:=kI)) zjg)) h (fun _=>rfl) ?_)
    intro tags loads h
    refine (ze7 (fun (tags1:(List (Int×Sg))) (loads1:(List (Int×Int))) (j_4:Z×Unit)=>[(fz (jl zi)),(ow ((oL D.int) left1)),(fz ((eL (eT D.int)) parts1)),j_.1,j_.2.1,j_.2.2.1,(ow ((oK kI sD) tags1)),(ow ((oK kI D.int) loads1)),j_4.1,none,none]) (none,()) (zz1 (zc (se_c D.int 1 rfl) (zc (se_c D.int 10 rfl) zh))) h ?_ ?_)
    · intro N x_2 tags2 loads2 j_5 nxt2 hN_nxt2 h
      refine xp ?_
      refine zom (fun (tags3:(List (Int×Sg))) (j_6:Unit)=>[(fz (jl zi)),(ow ((oL D.int) left1)),(fz ((eL (eT D.int)) parts1)),j_.1,j_.2.1,j_.2.2.1,(ow ((oK kI sD) tags3)),(ow ((oK kI D.int) loads2)),(fz (D.int x_2)),none,none]) h ?_ ?_
      · intro tags3 j_6 h
        refine (zej (fun _=>rfl) (qc (er:=D.int) (zc (zb 0 jl zi rfl) (zc (xf (e:=(eL D.int)) (yr (fun s=>[s.1,s.2.1,s.2.2.1,s.2.2.2.1,s.2.2.2.2.1,s.2.2.2.2.2.1]) D.int 6 (zc (se_c D.int 1 rfl) (zc (se_c D.int 1 rfl) (zc (se_c D.int 2 rfl) (zc (se_c D.int 3 rfl) (zc (xo yh (se_c D.int 1 rfl) (qc (er:=D.int) (zc (zb 0 jl zi rfl) (zc (se_c D.int 9 rfl) zh)) (fun _=>rfl) (fun s=>qr s.1 s.2.1) (fun s K Q h c=>zbm s K Q h (fun r hr=>c r _ hr rfl)))) (zc (xo zyv (se_c D.int 10 rfl) (se_c D.int 6 rfl)) zh)))))) (fun _=>rfl) (fun _=>rfl) (by show 6≤sizeLine; decide)) (fun _=>rfl)) zh)) (fun _=>rfl) (fun s=>ur s.1 s.2.1) (fun s K Q h c=>zjp s K Q h (fun r hr=>c r _ hr rfl))) (zb 8 D.int x_2 rfl) rfl rfl h ?_)
        intro loads3 h
        exact hN_nxt2 tags3 loads3 ((fz (D.int x_2)),()) h
      · intro cont hJ_cont h
        refine (za8 (qp (xo zno (qc (er:=D.int) (zc (zb 0 jl zi rfl) (zc (se_c D.int 4 rfl) zh)) (fun _=>rfl) (fun s=>qr s.1 s.2.1) (fun s K Q h c=>zbm s K Q h (fun r hr=>c r _ hr rfl))) (se_c D.int 0 rfl))) h ?_ ?_)
        · intro h
          refine (zej (fun _=>rfl) (qc (er:=sD) (zc (zb 0 jl zi rfl) (zc (xf (e:=(eL sD)) (yr (fun s=>[s.1,s.2.1,s.2.2.1,s.2.2.2.1]) sD 4 (zc (se_c sD zdq rfl) (zc (se_c sD zj4 rfl) (zc (se_c sD zhk rfl) (zc (se_c sD zj5 rfl) zh)))) (fun _=>rfl) (fun _=>rfl) (by show 4≤sizeLine; decide)) (fun _=>rfl)) zh)) (fun _=>rfl) (fun s=>ur s.1 s.2.1) (fun s K Q h c=>zjp s K Q h (fun r hr=>c r _ hr rfl))) (zb 8 D.int x_2 rfl) rfl rfl h ?_)
          intro tags4 h
          exact hJ_cont tags4 (()) h
        · intro h
          exact hJ_cont tags2 (()) h
    · intro tags1 loads1 j_4 h
      refine (vu (ul (e:=D.int) (f:=kS)) h ?_)
      intro stuck h
      refine (yt (fun (stuck1:(List (Sg×Int))) (j_7:Z×Unit)=>[(fz (jl zi)),(ow ((oL D.int) left1)),(fz ((eL (eT D.int)) parts1)),j_.1,j_.2.1,j_.2.2.1,(ow ((oK kI sD) tags1)),(ow ((oK kI D.int) loads1)),j_4.1,(ow ((oK kS D.int) stuck1)),j_7.1]) (none,()) (si_L (xf (e:=(eL sD)) (yr (fun s=>[s.1,s.2.1,s.2.2.1,s.2.2.2.1,s.2.2.2.2.1]) sD 5 (zc (se_c sD zhk rfl) (zc (se_c sD zj4 rfl) (zc (se_c sD zdq rfl) (zc (se_c sD zj5 rfl) (zc (se_c sD zre rfl) zh))))) (fun _=>rfl) (fun _=>rfl) (by show 5≤sizeLine; decide)) (fun _=>rfl))) h ?_ ?_)
      · intro N x_3 stuck2 j_8 nxt3 hN_nxt3 h
        refine xp ?_
        refine (za8 (qp (uk (zvx (by decide)) (sv_v (qc (er:=D.int) (zc (zb 0 jl zi rfl) (zc (se_c D.int 3 rfl) zh)) (fun _=>rfl) (fun s=>qr s.1 s.2.1) (fun s K Q h c=>zbm s K Q h (fun r hr=>c r _ hr rfl)))) (sv_v (se_c D.int 0 rfl)) zg zg)) h ?_ ?_)
        · intro h
          refine (zej (fun _=>rfl) (xo yh (se_c D.int 1 rfl) (qc (er:=D.int) (zc (zb 0 jl zi rfl) (zc (se_c D.int 12 rfl) zh)) (fun _=>rfl) (fun s=>qr s.1 s.2.1) (fun s K Q h c=>zbm s K Q h (fun r hr=>c r _ hr rfl)))) (zb 10 sD x_3 rfl) rfl rfl h ?_)
          intro stuck3 h
          exact hN_nxt3 stuck3 ((fz (sD x_3)),()) h
        · intro h
          exact hN_nxt3 stuck2 ((fz (sD x_3)),()) h
      · intro stuck1 j_7 h
        exact u6 (zbx (fun s=>(s.1,s.2.1,s.2.2.1,s.2.2.2.1)) (eP4 (eL (eT D.int)) (eK kI sD) (eK kI D.int) (eK kS D.int)) 4 (zc (zb 2 (eL (eT D.int)) parts1 rfl) (zc (zks 6 (eK kI sD) tags1 (o:=(oK kI sD) tags1) rfl rfl) (zc (zks 7 (eK kI D.int) loads1 (o:=(oK kI D.int) loads1) rfl rfl) (zc (zks 9 (eK kS D.int) stuck1 (o:=(oK kS D.int) stuck1) rfl rfl) zh)))) (fun _=>rfl) (fun _=>rfl) (by show 4≤sizeLine; decide)) h (hQ)
@[irreducible] def js (groups:(List (List Int))) (Q:(List (Int×Int))→Prop):Prop :=
 xy (z5 groups) ([]:(List (Int×Int))) (fun (x_:(Int×(List Int))) (acc:(List (Int×Int))) (nxt:(List (Int×Int))→Prop)=>xy x_.2 acc (fun (x_1:Int) (acc1:(List (Int×Int))) (nxt1:(List (Int×Int))→Prop)=>putW acc1 x_1 x_.1 nxt1) nxt) fun t_=>retW t_ Q
def zo:DSp:=fun ds Q'=>∃ (groups:(List (List Int))) (K:(List (Int×Int))→Prop),ds=[(eL (eT D.int)) groups]∧js groups K∧∀ r,K r→Q' (.own ((oK kI D.int) r))
theorem zpz (ds:List D) (Q':S→Prop) (h:zo ds Q'):zaf (DEnds.of Q') (zp 4 ds):=by
  obtain ⟨groups,Q,rfl,h,hQ⟩:=h
  show zaf (DEnds.of Q') [(fz ((eL (eT D.int)) groups)),none,none,none]
  unfold zaf
  unfold js at h
  exact za0 (zdl (δh:=[(fz ((eL (eT D.int)) groups)),none,none,none]) (δ2:=[(fz ((eL (eT D.int)) groups)),none,none,none]) (eo:=(oK kI D.int)) (body:=fun (x_:(Int×(List Int))) (acc:(List (Int×Int))) (nxt:(List (Int×Int))→Prop)=>xy x_.2 acc (fun (x_1:Int) (acc1:(List (Int×Int))) (nxt1:(List (Int×Int))→Prop)=>putW acc1 x_1 x_.1 nxt1) nxt) ([]:(List (Int×Int))) (zjm (ei:=(eT D.int)) (zc (zb 0 (eL (eT D.int)) groups rfl) zh)) rfl rfl (fun x_ acc nxt J h hJ=>⟨_,rfl,rfl,_,_,rfl,_,_,rfl,rfl,(zbz (zor (eo:=(oK kI D.int)) (body:=fun (x_1:Int) (acc1:(List (Int×Int))) (nxt1:(List (Int×Int))→Prop)=>putW acc1 x_1 x_.1 nxt1) (si_T (zb 2 (eT D.int) x_.2 rfl)) rfl (fun x_1 acc1 nxt1 J h hJ=>(xp (zbz (zbl (fun _=>rfl) (zb 3 D.int x_1 rfl) (zb 1 D.int x_.1 rfl) h hJ rfl)))) h hJ rfl))⟩) rfl) h (hQ)
@[irreducible] def q0 (groups:(List (List Int))) (pins:(List (Sg×Int))) (Q:(List (Sg×Int))→Prop):Prop :=
 js groups fun t_=>asgW t_ fun places =>
 asgW ([]:(List (Sg×Int))) fun found =>
 asgW ([]:(List (Int×Sg))) fun taken =>
 zr (pins.length≤16777216) <| yi (zv sD (za pins)) found taken (fun (x_:Sg) (found2:(List (Sg×Int))) (taken2:(List (Int×Sg))) nxt =>
   getW pins x_ fun t_1=>asgW (valG places t_1) fun place =>
   ifW (place.isSome && (!inN taken2 place))
    (unW place fun t_2=>putW taken2 t_2 x_ fun taken3 =>
     getW pins x_ fun t_3=>putW found2 x_ t_3 fun found3 =>
     nxt found3 taken3)
    (nxt found2 taken2)) (fun (found1:(List (Sg×Int))) (taken1:(List (Int×Sg))) =>
   retW found1 Q)
def zl:DSp:=fun ds Q'=>∃ (groups:(List (List Int))) (pins:(List (Sg×Int))) (K:(List (Sg×Int))→Prop),ds=[(eL (eT D.int)) groups,(eK kS D.int) pins]∧q0 groups pins K∧∀ r,K r→Q' (.own ((oK kS D.int) r))
theorem zj7 (ds:List D) (Q':S→Prop) (h:zl ds Q'):ub zo (DEnds.of Q') (zp 7 ds):=by
  obtain ⟨groups,pins,Q,rfl,h,hQ⟩:=h
  show ub zo (DEnds.of Q') [(fz ((eL (eT D.int)) groups)),(fz ((eK kS D.int) pins)),none,none,none,none,none]
  unfold ub
  unfold q0 at h
  refine (q8 (qc (er:=(eK kI D.int)) (zc (zb 0 (eL (eT D.int)) groups rfl) zh) (fun _=>rfl) (fun s=>js s.1) (fun s K Q h c=>⟨_,_,rfl,h,fun r hr=>c r _ hr rfl⟩)) h ?_)
  intro places h
  refine (vu (ul (e:=D.int) (f:=kS)) h ?_)
  intro found h
  refine (vu (ul (e:=sD) (f:=kI)) h ?_)
  intro taken h
  refine (ze7 (fun (found1:(List (Sg×Int))) (taken1:(List (Int×Sg))) (j_:Z×Z×Unit)=>[(fz ((eL (eT D.int)) groups)),(fz ((eK kS D.int) pins)),(fz ((eK kI D.int) places)),(ow ((oK kS D.int) found1)),(ow ((oK kI sD) taken1)),j_.1,j_.2.1]) (none,none,()) (si_L (xf (e:=(eL sD)) (za7 (zbj (ek:=sD) (fun _=>rfl)) (sv_f 1 (eK kS D.int) pins rfl) zg) (fun _=>rfl))) h ?_ ?_)
  · intro N x_ found2 taken2 j_1 nxt hN_nxt h
    refine xp ?_
    refine (q8 (ze8 (fun _=>rfl) (sv_f 2 (eK kI D.int) places rfl) (q7 (x4 (fun _=>rfl)) (sv_f 1 (eK kS D.int) pins rfl) (zb 5 sD x_ rfl) zg) zg zg) h ?_)
    intro place h
    refine (za8 (zkt (qp (xo (zqq (fun _=>rfl)) (zb 6 (eO D.int) place rfl) (se_c uD () rfl))) (qp (u5 (zw7 (fun _=>rfl) (fun _=>rfl) (fun _ _ _ h=>h)) (zb 6 (eO D.int) place rfl) (sv_o 4 taken2 (o:=(oK kI sD) taken2) rfl) (uw (o:=(oK kI sD) taken2) rfl rfl)))) h ?_ ?_)
    · intro h
      refine (zop (fun _=>rfl) (zb 5 sD x_ rfl) (zje (zb 6 (eO D.int) place rfl)) rfl rfl h ?_)
      intro taken3 h
      refine (zej (fun _=>rfl) (q7 (x4 (fun _=>rfl)) (sv_f 1 (eK kS D.int) pins rfl) (zb 5 sD x_ rfl) zg) (zb 5 sD x_ rfl) rfl rfl h ?_)
      intro found3 h
      exact hN_nxt found3 taken3 ((fz (sD x_)),(fz ((eO D.int) place)),()) h
    · intro h
      exact hN_nxt found2 taken2 ((fz (sD x_)),(fz ((eO D.int) place)),()) h
  · intro found1 taken1 j_ h
    refine zbk rfl ?_
    exact hQ found1 h
@[irreducible] def zaq (entries:(List ((Sg×Int)×Int))) (Q:(List (Sg×(List (Int×Int))))→Prop):Prop :=
 asgW ([]:(List (Sg×(List (Int×Int))))) fun found =>
 zr (entries.length≤16777216) <| qm (zv (eP2 sD D.int) (za entries)) found (fun (x_:(Sg×Int)) (found2:(List (Sg×(List (Int×Int))))) nxt =>
   sdfW found2 x_.1 ([]:(List (Int×Int))) fun found3 =>
   getW entries x_ fun t_=>getW found3 x_.1 fun row=>putW row x_.2 t_ fun row1=>asgW (putG found3 x_.1 row1) fun found4 =>
   nxt found4) (fun (found1:(List (Sg×(List (Int×Int))))) =>
   retW found1 Q)
def qu:DSp:=fun ds Q'=>∃ (entries:(List ((Sg×Int)×Int))) (K:(List (Sg×(List (Int×Int))))→Prop),ds=[(eDT (kP kS kI) D.int) entries]∧zaq entries K∧∀ r,K r→Q' (.fz ((eK kS (eK kI D.int)) r))
theorem zmc (ds:List D) (Q':S→Prop) (h:qu ds Q'):u7 (DEnds.of Q') (zp 3 ds):=by
  obtain ⟨entries,Q,rfl,h,hQ⟩:=h
  show u7 (DEnds.of Q') [(fz ((eDT (kP kS kI) D.int) entries)),none,none]
  unfold u7
  unfold zaq at h
  refine (zl0 (f:=kS) (eo:=(oK kI D.int)) h ?_)
  intro found h
  refine (yt (fun (found1:(List (Sg×(List (Int×Int))))) (j_:Z×Unit)=>[(fz ((eDT (kP kS kI) D.int) entries)),(nkS kS (oK kI D.int) found1),j_.1]) (none,()) (si_L (xf (e:=(eL (eP2 sD D.int))) (za7 (zs6 (ek:=(eP2 sD D.int)) (fun _=>rfl)) (sv_f 0 (eDT (kP kS kI) D.int) entries rfl) zg) (fun _=>rfl))) h ?_ ?_)
  · intro N x_ found2 j_1 nxt hN_nxt h
    refine xp ?_
    refine (zrx (fun _=>rfl) rfl (zjf (ea:=(eP2 sD D.int)) (eb:=sD) 0 (fun p=>p.1) (sv_f 2 (eP2 sD D.int) x_ rfl) zg (fun _=>⟨_,rfl,rfl⟩)) (ul (e:=D.int) (f:=kI)) rfl h ?_)
    intro found3 h
    refine (zxb (fun _=>rfl) (fun _=>rfl) (q7 (zqr (fun _=>rfl)) (sv_f 0 (eDT (kP kS kI) D.int) entries rfl) (zb 2 (eP2 sD D.int) x_ rfl) zg) rfl (zjf (ea:=(eP2 sD D.int)) (eb:=sD) 0 (fun p=>p.1) (sv_f 2 (eP2 sD D.int) x_ rfl) zg (fun _=>⟨_,rfl,rfl⟩)) rfl (zjf (ea:=(eP2 sD D.int)) (eb:=D.int) 1 (fun p=>p.2) (sv_f 2 (eP2 sD D.int) x_ rfl) zg (fun _=>⟨_,rfl,rfl⟩)) h ?_)
    intro found4 h
    exact hN_nxt found4 ((fz ((eP2 sD D.int) x_)),()) h
  · intro found1 j_ h
    exact u6 (zq1 (ei:=(eK kI D.int)) 1 found1 rfl (fun _=>rfl)) h (hQ)
@[irreducible] def zbc (rows:(List (Sg×(List (Int×Int))))) (pairs:(List (Sg×Int))) (owners:(List (Int×Sg))) (Q:(List (Sg×Int))→Prop):Prop :=
 xy (za rows) ([]:(List (Sg×Int))) (fun (x_:Sg) (acc:(List (Sg×Int))) (nxt:(List (Sg×Int))→Prop)=>putW acc x_ (0:Int) nxt) fun t_=>asgW t_ fun gains =>
 asgW ([]:(List (Sg×Int))) fun moves =>
 asgW true fun is_changed =>
 zcq gains moves is_changed (fun (gains2:(List (Sg×Int))) (moves2:(List (Sg×Int))) (is_changed2:Bool) k_=>k_ is_changed2) (fun (gains2:(List (Sg×Int))) (moves2:(List (Sg×Int))) (is_changed2:Bool) nxt1 =>
   asgW false fun is_changed3 =>
   zap rows gains2 moves2 is_changed3 (fun (x_1:(Sg×(List (Int×Int)))) (gains4:(List (Sg×Int))) (moves4:(List (Sg×Int))) (is_changed5:Bool) nxt2 =>
     zap x_1.2 gains4 moves4 is_changed5 (fun (x_2:(Int×Int)) (gains6:(List (Sg×Int))) (moves6:(List (Sg×Int))) (is_changed7:Bool) nxt3 =>
       asgW x_2.2 fun gain =>
       ze6 (fun (gain1:Int) =>
         getW gains6 x_1.1 fun t_5=>ifW ((decide (t_5 < gain1)) && (!eqB (valG pairs x_1.1) (some x_2.1)))
          (putW gains6 x_1.1 (gain1,x_2.1).1 fun gains7=>putW moves6 x_1.1 (gain1,x_2.1).2 fun moves7 =>
           asgW true fun is_changed8 =>
           nxt3 gains7 moves7 is_changed8)
          (nxt3 gains6 moves6 is_changed7)) fun cont =>
       ifW (hasG owners x_2.1)
        (getW owners x_2.1 fun t_1=>asgW t_1 fun other =>
       getW gains6 other fun t_2=>getW rows other fun t_3=>getW t_3 x_2.1 fun t_4=>asgW (gain + (t_2 - t_4)) fun gain2 =>
       cont gain2)
        (cont gain)) (fun (gains5:(List (Sg×Int))) (moves5:(List (Sg×Int))) (is_changed6:Bool) =>
       nxt2 gains5 moves5 is_changed6)) (fun (gains3:(List (Sg×Int))) (moves3:(List (Sg×Int))) (is_changed4:Bool) =>
     nxt1 gains3 moves3 is_changed4)) (fun (gains1:(List (Sg×Int))) (moves1:(List (Sg×Int))) (is_changed1:Bool) =>
   retW moves1 Q)
def xg:DSp:=fun ds Q'=>∃ (rows:(List (Sg×(List (Int×Int))))) (pairs:(List (Sg×Int))) (owners:(List (Int×Sg))) (K:(List (Sg×Int))→Prop),ds=[(eK kS (eK kI D.int)) rows,(eK kS D.int) pairs,(eK kI sD) owners]∧zbc rows pairs owners K∧∀ r,K r→Q' (.own ((oK kS D.int) r))
theorem zo3 (ds:List D) (Q':S→Prop) (h:xg ds Q'):yv (DEnds.of Q') (zp 12 ds):=by
  obtain ⟨rows,pairs,owners,Q,rfl,h,hQ⟩:=h
  show yv (DEnds.of Q') [(fz ((eK kS (eK kI D.int)) rows)),(fz ((eK kS D.int) pairs)),(fz ((eK kI sD) owners)),none,none,none,none,none,none,none,none,none]
  unfold yv
  unfold zbc at h
  refine (vu (zdl (δh:=[(fz ((eK kS (eK kI D.int)) rows)),(fz ((eK kS D.int) pairs)),(fz ((eK kI sD) owners)),none,none,none,none,none,none,none,none,none]) (δ2:=[(fz ((eK kS (eK kI D.int)) rows)),(fz ((eK kS D.int) pairs)),(fz ((eK kI sD) owners)),none,none,none,none,none,none,none,none,none]) (eo:=(oK kS D.int)) (body:=fun (x_:Sg) (acc:(List (Sg×Int))) (nxt:(List (Sg×Int))→Prop)=>putW acc x_ (0:Int) nxt) ([]:(List (Sg×Int))) (zz2 (ek:=sD) (fun _=>rfl) (zb 0 (eK kS (eK kI D.int)) rows rfl)) rfl rfl (fun x_ acc nxt J h hJ=>(xp (zbz (zbl (fun _=>rfl) (zb 4 sD x_ rfl) (se_c D.int 0 rfl) h hJ rfl)))) rfl) h ?_)
  intro gains h
  refine (vu (ul (e:=D.int) (f:=kS)) h ?_)
  intro moves h
  refine (q8 (se_c D.bl true rfl) h ?_)
  intro is_changed h
  refine (zjl (fun (gains1:(List (Sg×Int))) (moves1:(List (Sg×Int))) (is_changed1:Bool) (j_:Z×Z×Z×Z×Z×Z×Unit)=>[(fz ((eK kS (eK kI D.int)) rows)),(fz ((eK kS D.int) pairs)),(fz ((eK kI sD) owners)),(ow ((oK kS D.int) gains1)),j_.1,(ow ((oK kS D.int) moves1)),(fz (D.bl is_changed1)),j_.2.1,j_.2.2.1,j_.2.2.2.1,j_.2.2.2.2.1,j_.2.2.2.2.2.1]) (none,none,none,none,none,none,()) rfl h ?_ ?_ ?_)
  · intro gains2 moves2 is_changed2 j_1
    exact (qp (zb 6 D.bl is_changed2 rfl))
  · intro N gains2 moves2 is_changed2 j_1 nxt1 hN_nxt1 h
    refine (q8 (se_c D.bl false rfl) h ?_)
    intro is_changed3 h
    refine (zkv (fun (gains3:(List (Sg×Int))) (moves3:(List (Sg×Int))) (is_changed4:Bool) (j_2:Z×Z×Z×Z×Z×Z×Unit)=>[(fz ((eK kS (eK kI D.int)) rows)),(fz ((eK kS D.int) pairs)),(fz ((eK kI sD) owners)),(ow ((oK kS D.int) gains3)),j_2.1,(ow ((oK kS D.int) moves3)),(fz (D.bl is_changed4)),j_2.2.1,j_2.2.2.1,j_2.2.2.2.1,j_2.2.2.2.2.1,j_2.2.2.2.2.2.1]) (j_1.1,j_1.2.1,j_1.2.2.1,j_1.2.2.2.1,j_1.2.2.2.2.1,j_1.2.2.2.2.2.1,()) (zjn (ek:=sD) (fun _=>rfl) (zb 0 (eK kS (eK kI D.int)) rows rfl)) h ?_ ?_)
    · intro N x_1 gains4 moves4 is_changed5 j_3 nxt2 hN_nxt2 h
      refine ⟨_,rfl,rfl,_,_,rfl,_,_,rfl,rfl,?_⟩
      refine (zkv (fun (gains5:(List (Sg×Int))) (moves5:(List (Sg×Int))) (is_changed6:Bool) (j_4:Z×Z×Z×Z×Unit)=>[(fz ((eK kS (eK kI D.int)) rows)),(fz ((eK kS D.int) pairs)),(fz ((eK kI sD) owners)),(ow ((oK kS D.int) gains5)),(fz (sD x_1.1)),(ow ((oK kS D.int) moves5)),(fz (D.bl is_changed6)),(fz ((eK kI D.int) x_1.2)),j_4.1,j_4.2.1,j_4.2.2.1,j_4.2.2.2.1]) (j_3.2.2.1,j_3.2.2.2.1,j_3.2.2.2.2.1,j_3.2.2.2.2.2.1,()) (zjn (ek:=D.int) (fun _=>rfl) (zb 7 (eK kI D.int) x_1.2 rfl)) h ?_ ?_)
      · intro N x_2 gains6 moves6 is_changed7 j_5 nxt3 hN_nxt3 h
        refine ⟨_,rfl,rfl,_,_,rfl,_,_,rfl,rfl,?_⟩
        refine (q8 (zb 9 D.int x_2.2 rfl) h ?_)
        intro gain h
        refine zom (fun (gain1:Int) (j_6:Z×Unit)=>[(fz ((eK kS (eK kI D.int)) rows)),(fz ((eK kS D.int) pairs)),(fz ((eK kI sD) owners)),(ow ((oK kS D.int) gains6)),(fz (sD x_1.1)),(ow ((oK kS D.int) moves6)),(fz (D.bl is_changed7)),(fz ((eK kI D.int) x_1.2)),(fz (D.int x_2.1)),(fz (D.int x_2.2)),(fz (D.int gain1)),j_6.1]) h ?_ ?_
        · intro gain1 j_6 h
          refine (za8 (zkt (qp (xo zno (zb 10 D.int gain1 rfl) (q7 (x4 (fun _=>rfl)) (sv_o 3 gains6 (o:=(oK kS D.int) gains6) rfl) (zb 4 sD x_1.1 rfl) (uw (o:=(oK kS D.int) gains6) rfl rfl)))) (qp (uk (zjj (by decide)) (sv_v (ze8 (fun _=>rfl) (sv_f 1 (eK kS D.int) pairs rfl) (zb 4 sD x_1.1 rfl) zg zg)) (sv_f 8 (eO D.int) (some x_2.1) rfl) zg zg))) h ?_ ?_)
          · intro h
            refine (zq2 (δt:=fun gains7=>[(fz ((eK kS (eK kI D.int)) rows)),(fz ((eK kS D.int) pairs)),(fz ((eK kI sD) owners)),(ow ((oK kS D.int) gains7)),(fz (sD x_1.1)),(ow ((oK kS D.int) moves6)),(fz (D.bl is_changed7)),(fz ((eK kI D.int) x_1.2)),(fz (D.int x_2.1)),(fz (D.int x_2.2)),(fz (D.int gain1)),j_6.1]) (fun _=>rfl) (fun _=>rfl) (zbx (fun s=>(s.1,s.2.1)) (eP2 D.int D.int) 2 (zc (zb 10 D.int gain1 rfl) (zc (zb 8 D.int x_2.1 rfl) zh)) (fun _=>rfl) (fun _=>rfl) (by show 2≤sizeLine; decide)) rfl (zb 4 sD x_1.1 rfl) rfl (fun _=>rfl) (fun gains7=>(zb 4 sD x_1.1 rfl)) (fun _=>rfl) h ?_)
            intro gains7 moves7 h
            refine (zjk (se_c D.bl true rfl) h ?_)
            intro is_changed8 h
            exact hN_nxt3 gains7 moves7 is_changed8 ((fz (D.int x_2.1)),(fz (D.int x_2.2)),(fz (D.int gain1)),j_6.1,()) h
          · intro h
            exact hN_nxt3 gains6 moves6 is_changed7 ((fz (D.int x_2.1)),(fz (D.int x_2.2)),(fz (D.int gain1)),j_6.1,()) h
        · intro cont hJ_cont h
          refine (za8 (qp (u5 (zc1 (fun _=>rfl) (fun _ _ _ h=>h)) (zb 8 D.int x_2.1 rfl) (sv_f 2 (eK kI sD) owners rfl) zg)) h ?_ ?_)
          · intro h
            refine (q8 (q7 (x4 (fun _=>rfl)) (sv_f 2 (eK kI sD) owners rfl) (zb 8 D.int x_2.1 rfl) zg) h ?_)
            intro other h
            refine (zyz (x:=gain) rfl (xo zjh (q7 (x4 (fun _=>rfl)) (sv_o 3 gains6 (o:=(oK kS D.int) gains6) rfl) (zb 11 sD other rfl) (uw (o:=(oK kS D.int) gains6) rfl rfl)) (q7 (x4 (fun _=>rfl)) (sv_v (q7 (x4 (fun _=>rfl)) (sv_f 0 (eK kS (eK kI D.int)) rows rfl) (zb 11 sD other rfl) zg)) (zb 8 D.int x_2.1 rfl) zg)) h ?_)
            intro gain2 h
            exact hJ_cont gain2 ((fz (sD other)),()) h
          · intro h
            exact hJ_cont gain (j_5.2.2.2.1,()) h
      · intro gains5 moves5 is_changed6 j_4 h
        exact hN_nxt2 gains5 moves5 is_changed6 ((fz (sD x_1.1)),(fz ((eK kI D.int) x_1.2)),j_4.1,j_4.2.1,j_4.2.2.1,j_4.2.2.2.1,()) h
    · intro gains3 moves3 is_changed4 j_2 h
      exact hN_nxt1 gains3 moves3 is_changed4 (j_2.1,j_2.2.1,j_2.2.2.1,j_2.2.2.2.1,j_2.2.2.2.2.1,j_2.2.2.2.2.2.1,()) h
  · intro gains1 moves1 is_changed1 j_ h
    refine zbk rfl ?_
    exact hQ moves1 h
@[irreducible] def uz (entries:(List ((Sg×Int)×Int))) (Q:(List (Sg×Int))→Prop):Prop :=
 zaq entries fun t_=>asgW t_ fun every =>
 znp ([]:(List (Sg×(List (Int×Int))))) ([]:(List (Sg×Int))) ([]:(List (Int×Sg))) fun rows pairs owners =>
 zap every rows pairs owners (fun (x_:(Sg×(List (Int×Int)))) (rows2:(List (Sg×(List (Int×Int))))) (pairs2:(List (Sg×Int))) (owners2:(List (Int×Sg))) nxt =>
   putW rows2 x_.1 x_.2 fun rows3 =>
   zbc rows3 pairs2 owners2 fun t_1=>asgW t_1 fun moves =>
   asgW (some x_.1) fun row =>
   zcq pairs2 owners2 row (fun (pairs4:(List (Sg×Int))) (owners4:(List (Int×Sg))) (row2:(Option Sg)) k_=>k_ (inN moves row2)) (fun (pairs4:(List (Sg×Int))) (owners4:(List (Int×Sg))) (row2:(Option Sg)) nxt1 =>
     unW row2 fun t_2=>getW moves t_2 fun t_3=>asgW t_3 fun column =>
     asgW (valG owners4 column) fun other =>
     unW row2 fun t_4=>unW row2 fun t_5=>putW pairs4 t_5 (column,t_4).1 fun pairs5=>putW owners4 column (column,t_4).2 fun owners5 =>
     asgW other fun row3 =>
     nxt1 pairs5 owners5 row3) (fun (pairs3:(List (Sg×Int))) (owners3:(List (Int×Sg))) (row1:(Option Sg)) =>
     asgW (zjq pairs3 row1) fun pairs6 =>
     nxt rows3 pairs6 owners3)) (fun (rows1:(List (Sg×(List (Int×Int))))) (pairs1:(List (Sg×Int))) (owners1:(List (Int×Sg))) =>
   retW pairs1 Q)
def z6:DSp:=fun ds Q'=>∃ (entries:(List ((Sg×Int)×Int))) (K:(List (Sg×Int))→Prop),ds=[(eDT (kP kS kI) D.int) entries]∧uz entries K∧∀ r,K r→Q' (.own ((oK kS D.int) r))
theorem zie (ds:List D) (Q':S→Prop) (h:z6 ds Q'):v0 qu xg (DEnds.of Q') (zp 11 ds):=by
  obtain ⟨entries,Q,rfl,h,hQ⟩:=h
  show v0 qu xg (DEnds.of Q') [(fz ((eDT (kP kS kI) D.int) entries)),none,none,none,none,none,none,none,none,none,none]
  unfold v0
  unfold uz at h
  refine (q8 (qc (er:=(eK kS (eK kI D.int))) (zc (zb 0 (eDT (kP kS kI) D.int) entries rfl) zh) (fun _=>rfl) (fun s=>zaq s.1) (fun s K Q h c=>⟨_,_,rfl,h,fun r hr=>c r _ hr rfl⟩)) h ?_)
  intro every h
  refine (zu5 (sm_O (ul (e:=(eK kI D.int)) (f:=kS)) (sm_O (ul (e:=D.int) (f:=kS)) (sm_O (ul (e:=sD) (f:=kI)) zjg))) h (fun _=>rfl) ?_)
  intro rows pairs owners h
  refine (zu6 (fun (rows1:(List (Sg×(List (Int×Int))))) (pairs1:(List (Sg×Int))) (owners1:(List (Int×Sg))) (j_:Z×Z×Z×Z×Z×Z×Unit)=>[(fz ((eDT (kP kS kI) D.int) entries)),(fz ((eK kS (eK kI D.int)) every)),(ow ((oK kS (eK kI D.int)) rows1)),(ow ((oK kS D.int) pairs1)),(ow ((oK kI sD) owners1)),j_.1,j_.2.1,j_.2.2.1,j_.2.2.2.1,j_.2.2.2.2.1,j_.2.2.2.2.2.1]) (none,none,none,none,none,none,()) (zjn (ek:=sD) (fun _=>rfl) (zb 1 (eK kS (eK kI D.int)) every rfl)) h ?_ ?_)
  · intro N x_ rows2 pairs2 owners2 j_1 nxt hN_nxt h
    refine ⟨_,rfl,rfl,_,_,rfl,_,_,rfl,rfl,?_⟩
    refine (zop (fun _=>rfl) (zb 6 (eK kI D.int) x_.2 rfl) (zb 5 sD x_.1 rfl) rfl rfl h ?_)
    intro rows3 h
    refine (q8 (xf (e:=(eK kS D.int)) (zxc (is:=[2,3,4]) (by decide) (List.forall_mem_cons.2 ⟨⟨_,rfl⟩,List.forall_mem_cons.2 ⟨⟨_,rfl⟩,List.forall_mem_cons.2 ⟨⟨_,rfl⟩,fun _ h=>nomatch h⟩⟩⟩) (zqo (eo:=(oK kS D.int)) (zc (zb 2 (eK kS (eK kI D.int)) rows3 rfl) (zc (zb 3 (eK kS D.int) pairs2 rfl) (zc (zb 4 (eK kI sD) owners2 rfl) zh))) (fun _=>rfl) (fun s=>zbc s.1 s.2.1 s.2.2.1) (fun s K Q h c=>⟨_,_,_,_,rfl,h,c⟩)) (fun a=>zxd a)) (fun _=>rfl)) h ?_)
    intro moves h
    refine (q8 (zei (zb 5 sD x_.1 rfl)) h ?_)
    intro row h
    refine (zjl (fun (pairs3:(List (Sg×Int))) (owners3:(List (Int×Sg))) (row1:(Option Sg)) (j_2:Z×Z×Unit)=>[(fz ((eDT (kP kS kI) D.int) entries)),(fz ((eK kS (eK kI D.int)) every)),(ow ((oK kS (eK kI D.int)) rows3)),(ow ((oK kS D.int) pairs3)),(ow ((oK kI sD) owners3)),(fz (sD x_.1)),(fz ((eK kI D.int) x_.2)),(fz ((eK kS D.int) moves)),(fz ((eO sD) row1)),j_2.1,j_2.2.1]) (j_1.2.2.2.2.1,j_1.2.2.2.2.2.1,()) rfl h ?_ ?_ ?_)
    · intro pairs4 owners4 row2 j_3
      exact (qp (u5 (zy3 (fun _=>rfl) (fun _=>rfl) (fun _ _ _ h=>h)) (zb 8 (eO sD) row2 rfl) (sv_f 7 (eK kS D.int) moves rfl) zg))
    · intro N pairs4 owners4 row2 j_3 nxt1 hN_nxt1 h
      refine (q8 (q7 (x4 (fun _=>rfl)) (sv_f 7 (eK kS D.int) moves rfl) (zje (zb 8 (eO sD) row2 rfl)) zg) h ?_)
      intro column h
      refine (q8 (ze8 (fun _=>rfl) (sv_o 4 owners4 (o:=(oK kI sD) owners4) rfl) (zb 9 D.int column rfl) (uw (o:=(oK kI sD) owners4) rfl rfl) (uw (o:=(oK kI sD) owners4) rfl rfl)) h ?_)
      intro other h
      refine (zq2 (δt:=fun pairs5=>[(fz ((eDT (kP kS kI) D.int) entries)),(fz ((eK kS (eK kI D.int)) every)),(ow ((oK kS (eK kI D.int)) rows3)),(ow ((oK kS D.int) pairs5)),(ow ((oK kI sD) owners4)),(fz (sD x_.1)),(fz ((eK kI D.int) x_.2)),(fz ((eK kS D.int) moves)),(fz ((eO sD) row2)),(fz (D.int column)),(fz ((eO sD) other))]) (fun _=>rfl) (fun _=>rfl) (zbx (fun s=>(s.1,s.2.1)) (eP2 D.int sD) 2 (zc (zb 9 D.int column rfl) (zc (zje (zb 8 (eO sD) row2 rfl)) zh)) (fun _=>rfl) (fun _=>rfl) (by show 2≤sizeLine; decide)) rfl (zje (zb 8 (eO sD) row2 rfl)) rfl (fun _=>rfl) (fun pairs5=>(zb 9 D.int column rfl)) (fun _=>rfl) h ?_)
      intro pairs5 owners5 h
      refine (zjk (zb 10 (eO sD) other rfl) h ?_)
      intro row3 h
      exact hN_nxt1 pairs5 owners5 row3 ((fz (D.int column)),(fz ((eO sD) other)),()) h
    · intro pairs3 owners3 row1 j_2 h
      refine (zw8 (fun _=>rfl) rfl (zb 8 (eO sD) row1 rfl) rfl h rfl ?_)
      intro pairs6 h
      exact hN_nxt rows3 pairs6 owners3 ((fz (sD x_.1)),(fz ((eK kI D.int) x_.2)),(fz ((eK kS D.int) moves)),(fz ((eO sD) row1)),j_2.1,j_2.2.1,()) h
  · intro rows1 pairs1 owners1 j_ h
    refine zbk rfl ?_
    exact hQ pairs1 h
@[irreducible] def zar (table:(List ((Sg×Int)×Int))) (Q:(List Sg)→Prop):Prop :=
 xy (za table) ([]:(List (Sg×Bool))) (fun (x_:(Sg×Int)) (acc:(List (Sg×Bool))) (nxt:(List (Sg×Bool))→Prop)=>putW acc x_.1 true nxt) fun t_=>zr (t_.length≤16777216) <| retW (zv sD (za t_)) Q
def qv:DSp:=fun ds Q'=>∃ (table:(List ((Sg×Int)×Int))) (K:(List Sg)→Prop),ds=[(eDT (kP kS kI) D.int) table]∧zar table K∧∀ r,K r→Q' (.own ((oL sD) r))
theorem zmd (ds:List D) (Q':S→Prop) (h:qv ds Q'):u8 (DEnds.of Q') (zp 3 ds):=by
  obtain ⟨table,Q,rfl,h,hQ⟩:=h
  show u8 (DEnds.of Q') [(fz ((eDT (kP kS kI) D.int) table)),none,none]
  unfold u8
  unfold zar at h
  exact za0 (za7 (zbj (ek:=sD) (fun _=>rfl)) (sv_v (xf (e:=(eK kS D.bl)) (zdl (δh:=[(fz ((eDT (kP kS kI) D.int) table)),none,none]) (δ2:=[(fz ((eDT (kP kS kI) D.int) table)),none,none]) (eo:=(oK kS D.bl)) (body:=fun (x_:(Sg×Int)) (acc:(List (Sg×Bool))) (nxt:(List (Sg×Bool))→Prop)=>putW acc x_.1 true nxt) ([]:(List (Sg×Bool))) (zoq (ek:=(eP2 sD D.int)) (fun _=>rfl) (zb 0 (eDT (kP kS kI) D.int) table rfl)) rfl rfl (fun x_ acc nxt J h hJ=>⟨_,rfl,rfl,_,_,rfl,_,_,rfl,rfl,(zbz (zbl (fun _=>rfl) (zb 1 sD x_.1 rfl) (se_c D.bl true rfl) h hJ rfl))⟩) rfl) (fun _=>rfl))) zg) h (hQ)
@[irreducible] def zaa (table:(List ((Sg×Int)×Int))) (Q:(List Int)→Prop):Prop :=
 xy (za table) ([]:(List (Int×Bool))) (fun (x_:(Sg×Int)) (acc:(List (Int×Bool))) (nxt:(List (Int×Bool))→Prop)=>putW acc x_.2 true nxt) fun t_=>zr (t_.length≤16777216) <| retW (zv D.int (za t_)) Q
def qh:DSp:=fun ds Q'=>∃ (table:(List ((Sg×Int)×Int))) (K:(List Int)→Prop),ds=[(eDT (kP kS kI) D.int) table]∧zaa table K∧∀ r,K r→Q' (.own ((oL D.int) r))
theorem zk2 (ds:List D) (Q':S→Prop) (h:qh ds Q'):um (DEnds.of Q') (zp 3 ds):=by
  obtain ⟨table,Q,rfl,h,hQ⟩:=h
  show um (DEnds.of Q') [(fz ((eDT (kP kS kI) D.int) table)),none,none]
  unfold um
  unfold zaa at h
  exact za0 (za7 (zbj (ek:=D.int) (fun _=>rfl)) (sv_v (xf (e:=(eK kI D.bl)) (zdl (δh:=[(fz ((eDT (kP kS kI) D.int) table)),none,none]) (δ2:=[(fz ((eDT (kP kS kI) D.int) table)),none,none]) (eo:=(oK kI D.bl)) (body:=fun (x_:(Sg×Int)) (acc:(List (Int×Bool))) (nxt:(List (Int×Bool))→Prop)=>putW acc x_.2 true nxt) ([]:(List (Int×Bool))) (zoq (ek:=(eP2 sD D.int)) (fun _=>rfl) (zb 0 (eDT (kP kS kI) D.int) table rfl)) rfl rfl (fun x_ acc nxt J h hJ=>⟨_,rfl,rfl,_,_,rfl,_,_,rfl,rfl,(zbz (zbl (fun _=>rfl) (zb 2 D.int x_.2 rfl) (se_c D.bl true rfl) h hJ rfl))⟩) rfl) (fun _=>rfl))) zg) h (hQ)
@[irreducible] def zas (table:(List ((Sg×Int)×Int))) (homes:(Option (List (Sg×Int)))) (Q:(List ((Sg×Int)×Int))→Prop):Prop :=
 zar table fun t_=>zaa table fun t_1=>zcl t_ t_1 fun names places =>
 asgW ([(1:Int)]:(List Int)) fun powers =>
 qm names powers (fun (x_:Sg) (powers2:(List Int)) nxt =>
   ixW powers2 (-(1:Int)) fun t_2=>zr (CM t_2 ((places.length:Int) + (1:Int))) <| appW powers2 (t_2 * ((places.length:Int) + (1:Int))) fun powers3 =>
   nxt powers3) (fun (powers1:(List Int)) =>
   asgW ([]:(List ((Sg×Int)×Int))) fun found =>
   qm table found (fun (x_1:((Sg×Int)×Int)) (found2:(List ((Sg×Int)×Int))) nxt1 =>
     asgW x_1.1 fun p_ =>
     andW homes.isSome (fun k_1=>unW homes fun t_3=>andW (hasG t_3 p_.1) (fun k_=>unW homes fun t_4=>getW t_4 p_.1 fun t_5=>k_ (eqB t_5 p_.2)) fun t_6=>k_1 t_6) fun t_7=>asgW t_7 fun is_home =>
     idxW places p_.2 fun t_8=>idxW names p_.1 fun t_9=>ixW powers1 (((names.length:Int) - (1:Int)) - t_9) fun t_10=>zr (CM ((places.length:Int) - t_8) t_10) <| asgW (((places.length:Int) - t_8) * t_10) fun digit =>
     zr (CM x_1.2 ((names.length:Int) + (1:Int))) <| zr (CM ((x_1.2 * ((names.length:Int) + (1:Int))) + (1:Int)) ((names.length:Int) + (1:Int))) <| asgW ((((x_1.2 * ((names.length:Int) + (1:Int))) + (1:Int)) * ((names.length:Int) + (1:Int))) + (if is_home=true then (1:Int) else 0)) fun rank =>
     ixW powers1 (names.length:Int) fun t_11=>zr (CM rank t_11) <| putW found2 x_1.1 ((rank * t_11) + digit) fun found3 =>
     nxt1 found3) (fun (found1:(List ((Sg×Int)×Int))) =>
     retW found1 Q))
def qw:DSp:=fun ds Q'=>∃ (table:(List ((Sg×Int)×Int))) (homes:(Option (List (Sg×Int)))) (K:(List ((Sg×Int)×Int))→Prop),ds=[(eDT (kP kS kI) D.int) table,(eO (eK kS D.int)) homes]∧zas table homes K∧∀ r,K r→Q' (.own ((oDT (kP kS kI) D.int) r))
theorem zme (ds:List D) (Q':S→Prop) (h:qw ds Q'):u9 qv qh (DEnds.of Q') (zp 13 ds):=by
  obtain ⟨table,homes,Q,rfl,h,hQ⟩:=h
  show u9 qv qh (DEnds.of Q') [(fz ((eDT (kP kS kI) D.int) table)),(fz ((eO (eK kS D.int)) homes)),none,none,none,none,none,none,none,none,none,none,none]
  unfold u9
  unfold zas at h
  refine (zh3 (sm_F (qc (er:=(eL sD)) (zc (zb 0 (eDT (kP kS kI) D.int) table rfl) zh) (fun _=>rfl) (fun s=>zar s.1) (fun s K Q h c=>⟨_,_,rfl,h,fun r hr=>c r _ hr rfl⟩)) (sm_F (qc (er:=(eL D.int)) (zc (zb 0 (eDT (kP kS kI) D.int) table rfl) zh) (fun _=>rfl) (fun s=>zaa s.1) (fun s K Q h c=>⟨_,_,rfl,h,fun r hr=>c r _ hr rfl⟩)) zjg)) h (fun _=>rfl) ?_)
  intro names places h
  refine (vu (yr (fun s=>[s.1]) D.int 1 (zc (se_c D.int 1 rfl) zh) (fun _=>rfl) (fun _=>rfl) (by show 1≤sizeLine; decide)) h ?_)
  intro powers h
  refine (yt (fun (powers1:(List Int)) (j_:Z×Unit)=>[(fz ((eDT (kP kS kI) D.int) table)),(fz ((eO (eK kS D.int)) homes)),(fz ((eL sD) names)),(fz ((eL D.int) places)),(ow ((oL D.int) powers1)),j_.1,none,none,none,none,none,none,none]) (none,()) (si_L (zb 2 (eL sD) names rfl)) h ?_ ?_)
  · intro N x_ powers2 j_1 nxt hN_nxt h
    refine xp ?_
    refine (zs8 rfl (xo zgc (q7 zji (sv_o 4 powers2 (o:=(oL D.int) powers2) rfl) (zyt (se_c D.int 1 rfl)) (uw (o:=(oL D.int) powers2) rfl rfl)) (xo yh (za6 y9 (sv_f 3 (eL D.int) places rfl) zg) (se_c D.int 1 rfl))) rfl h ?_)
    intro powers3 h
    exact hN_nxt powers3 ((fz (sD x_)),()) h
  · intro powers1 j_ h
    refine (vu (zqn (e:=D.int) (f:=(kP kS kI))) h ?_)
    intro found h
    refine (yt (fun (found1:(List ((Sg×Int)×Int))) (j_2:Z×Z×Z×Z×Z×Z×Z×Unit)=>[(fz ((eDT (kP kS kI) D.int) table)),(fz ((eO (eK kS D.int)) homes)),(fz ((eL sD) names)),(fz ((eL D.int) places)),(ow ((oL D.int) powers1)),j_2.1,(ow ((oDT (kP kS kI) D.int) found1)),j_2.2.1,j_2.2.2.1,j_2.2.2.2.1,j_2.2.2.2.2.1,j_2.2.2.2.2.2.1,j_2.2.2.2.2.2.2.1]) (j_.1,none,none,none,none,none,none,()) (zy2 (ek:=(eP2 sD D.int)) (fun _=>rfl) (zb 0 (eDT (kP kS kI) D.int) table rfl)) h ?_ ?_)
    · intro N x_1 found2 j_3 nxt1 hN_nxt1 h
      refine ⟨_,rfl,rfl,_,_,rfl,_,_,rfl,rfl,?_⟩
      refine (zoo (zb 7 (eP2 sD D.int) x_1.1 rfl) h ?_)
      intro p_ h
      refine ⟨_,rfl,rfl,_,_,rfl,_,_,rfl,rfl,?_⟩
      refine (q8 (zs5 (xo (zqq (fun _=>rfl)) (zb 1 (eO (eK kS D.int)) homes rfl) (se_c uD () rfl)) (zs5 (u5 (zc1 (fun _=>rfl) (fun _ _ _ h=>h)) (zb 5 sD p_.1 rfl) (zv0 1 (eK kS D.int) homes rfl) zg) (uk (zvx (by decide)) (sv_v (q7 (x4 (fun _=>rfl)) (zv0 1 (eK kS D.int) homes rfl) (zb 5 sD p_.1 rfl) zg)) (sv_f 9 D.int p_.2 rfl) zg zg))) h ?_)
      intro is_home h
      refine (q8 (xo zgc (xo zjh (za6 y9 (sv_f 3 (eL D.int) places rfl) zg) (zot (sv_f 3 (eL D.int) places rfl) (zb 9 D.int p_.2 rfl) zg zg)) (q7 zji (sv_o 4 powers1 (o:=(oL D.int) powers1) rfl) (xo zjh (xo zjh (za6 y9 (sv_f 2 (eL sD) names rfl) zg) (se_c D.int 1 rfl)) (zot (sv_f 2 (eL sD) names rfl) (zb 5 sD p_.1 rfl) zg zg)) (uw (o:=(oL D.int) powers1) rfl rfl))) h ?_)
      intro digit h
      refine (q8 (xo yh (xo zgc (xo yh (xo zgc (zb 8 D.int x_1.2 rfl) (xo yh (za6 y9 (sv_f 2 (eL sD) names rfl) zg) (se_c D.int 1 rfl))) (se_c D.int 1 rfl)) (xo yh (za6 y9 (sv_f 2 (eL sD) names rfl) zg) (se_c D.int 1 rfl))) (zru zqu (sv_f 10 D.bl is_home rfl) zg)) h ?_)
      intro rank h
      refine (zol (fun _=>rfl) (xo yh (xo zgc (zb 12 D.int rank rfl) (q7 zji (sv_o 4 powers1 (o:=(oL D.int) powers1) rfl) (za6 y9 (sv_f 2 (eL sD) names rfl) zg) (uw (o:=(oL D.int) powers1) rfl rfl))) (zb 11 D.int digit rfl)) (zb 7 (eP2 sD D.int) x_1.1 rfl) rfl rfl h ?_)
      intro found3 h
      exact hN_nxt1 found3 ((fz (sD p_.1)),(fz ((eP2 sD D.int) x_1.1)),(fz (D.int x_1.2)),(fz (D.int p_.2)),(fz (D.bl is_home)),(fz (D.int digit)),(fz (D.int rank)),()) h
    · intro found1 j_2 h
      refine zbk rfl ?_
      exact hQ found1 h
@[irreducible] def ud (table:(List ((Sg×Int)×Int))) (homes:(Option (List (Sg×Int)))) (Q:(List (Sg×Int))→Prop):Prop :=
 zas table homes fun t_=>uz t_ fun t_1=>retW t_1 Q
def z9:DSp:=fun ds Q'=>∃ (table:(List ((Sg×Int)×Int))) (homes:(Option (List (Sg×Int)))) (K:(List (Sg×Int))→Prop),ds=[(eDT (kP kS kI) D.int) table,(eO (eK kS D.int)) homes]∧ud table homes K∧∀ r,K r→Q' (.own ((oK kS D.int) r))
theorem zj8 (ds:List D) (Q':S→Prop) (h:z9 ds Q'):uc z6 qw (DEnds.of Q') (zp 2 ds):=by
  obtain ⟨table,homes,Q,rfl,h,hQ⟩:=h
  show uc z6 qw (DEnds.of Q') [(fz ((eDT (kP kS kI) D.int) table)),(fz ((eO (eK kS D.int)) homes))]
  unfold uc
  unfold ud at h
  exact za0 (zqo (eo:=(oK kS D.int)) (zc (uy (er:=(eDT (kP kS kI) D.int)) (zc (zb 0 (eDT (kP kS kI) D.int) table rfl) zh) (zc (zb 1 (eO (eK kS D.int)) homes rfl) zh) (fun _=>rfl) (fun _=>rfl) (fun _ _=>rfl) (fun s z=>zas s.1 z.1) (fun s z K Q h c=>⟨_,_,_,rfl,h,fun r hr=>c r _ hr rfl⟩)) zh) (fun _=>rfl) (fun s=>uz s.1) (fun s K Q h c=>⟨_,_,rfl,h,c⟩)) h (hQ)
@[irreducible] def zb5 (table:(List ((Sg×Int)×Int))) (names:(List Sg)) (places:(List Int)) (Q:(List ((Sg×Int)×Int))→Prop):Prop :=
 xy (za table) ([]:(List ((Sg×Int)×Int))) (fun (x_:(Sg×Int)) (acc:(List ((Sg×Int)×Int))) (nxt:(List ((Sg×Int)×Int))→Prop)=>ifW ((!memB x_.1 names) && (!memB x_.2 places)) (getW table x_ fun t_=>putW acc x_ t_ nxt) (nxt acc)) fun t_1=>retW t_1 Q
def ja:DSp:=fun ds Q'=>∃ (table:(List ((Sg×Int)×Int))) (names:(List Sg)) (places:(List Int)) (K:(List ((Sg×Int)×Int))→Prop),ds=[(eDT (kP kS kI) D.int) table,(eL sD) names,(eL D.int) places]∧zb5 table names places K∧∀ r,K r→Q' (.own ((oDT (kP kS kI) D.int) r))
theorem ztz (ds:List D) (Q':S→Prop) (h:ja ds Q'):zb3 (DEnds.of Q') (zp 4 ds):=by
  obtain ⟨table,names,places,Q,rfl,h,hQ⟩:=h
  show zb3 (DEnds.of Q') [(fz ((eDT (kP kS kI) D.int) table)),(fz ((eL sD) names)),(fz ((eL D.int) places)),none]
  unfold zb3
  unfold zb5 at h
  exact za0 (zdl (δh:=[(fz ((eDT (kP kS kI) D.int) table)),(fz ((eL sD) names)),(fz ((eL D.int) places)),none]) (δ2:=[(fz ((eDT (kP kS kI) D.int) table)),(fz ((eL sD) names)),(fz ((eL D.int) places)),none]) (eo:=(oDT (kP kS kI) D.int)) (body:=fun (x_:(Sg×Int)) (acc:(List ((Sg×Int)×Int))) (nxt:(List ((Sg×Int)×Int))→Prop)=>ifW ((!memB x_.1 names) && (!memB x_.2 places)) (getW table x_ fun t_=>putW acc x_ t_ nxt) (nxt acc)) ([]:(List ((Sg×Int)×Int))) (zoq (ek:=(eP2 sD D.int)) (fun _=>rfl) (zb 0 (eDT (kP kS kI) D.int) table rfl)) rfl rfl (fun x_ acc nxt J h hJ=>(xp (zqx (zkt (qp (u5 zou (zjf (ea:=(eP2 sD D.int)) (eb:=sD) 0 (fun p=>p.1) (sv_f 3 (eP2 sD D.int) x_ rfl) zg (fun _=>⟨_,rfl,rfl⟩)) (sv_f 1 (eL sD) names rfl) zg)) (qp (u5 zou (zjf (ea:=(eP2 sD D.int)) (eb:=D.int) 1 (fun p=>p.2) (sv_f 3 (eP2 sD D.int) x_ rfl) zg (fun _=>⟨_,rfl,rfl⟩)) (sv_f 2 (eL D.int) places rfl) zg))) h (fun h=>(zu7 (fun _=>rfl) (zb 3 (eP2 sD D.int) x_ rfl) (q7 (zqr (fun _=>rfl)) (sv_f 0 (eDT (kP kS kI) D.int) table rfl) (zb 3 (eP2 sD D.int) x_ rfl) zg) h hJ rfl)) (fun h=>hJ _ h)))) rfl) h (hQ)
@[irreducible] def yc (labels:(List (Int×Sg))) (groups:(List (List Int))) (weights:(List (Int×Int))) (Q:(List ((Sg×Int)×Int))→Prop):Prop :=
 asgW ([]:(List ((Sg×Int)×Int))) fun found =>
 qm (z5 groups) found (fun (x_:(Int×(List Int))) (found2:(List ((Sg×Int)×Int))) nxt =>
   qm x_.2 found2 (fun (x_1:Int) (found4:(List ((Sg×Int)×Int))) nxt1 =>
     ifW (hasG labels x_1)
      (getW labels x_1 fun t_=>asgW (t_,x_.1) fun key =>
       getW weights x_1 fun t_1=>putW found4 key (((valG found4 key).getD (0:Int)) + t_1) fun found5 =>
       nxt1 found5)
      (nxt1 found4)) (fun (found3:(List ((Sg×Int)×Int))) =>
     nxt found3)) (fun (found1:(List ((Sg×Int)×Int))) =>
   retW found1 Q)
def qx:DSp:=fun ds Q'=>∃ (labels:(List (Int×Sg))) (groups:(List (List Int))) (weights:(List (Int×Int))) (K:(List ((Sg×Int)×Int))→Prop),ds=[(eK kI sD) labels,(eL (eT D.int)) groups,(eK kI D.int) weights]∧yc labels groups weights K∧∀ r,K r→Q' (.own ((oDT (kP kS kI) D.int) r))
theorem zmf (ds:List D) (Q':S→Prop) (h:qx ds Q'):ya (DEnds.of Q') (zp 8 ds):=by
  obtain ⟨labels,groups,weights,Q,rfl,h,hQ⟩:=h
  show ya (DEnds.of Q') [(fz ((eK kI sD) labels)),(fz ((eL (eT D.int)) groups)),(fz ((eK kI D.int) weights)),none,none,none,none,none]
  unfold ya
  unfold yc at h
  refine (vu (zqn (e:=D.int) (f:=(kP kS kI))) h ?_)
  intro found h
  refine (yt (fun (found1:(List ((Sg×Int)×Int))) (j_:Z×Z×Z×Z×Unit)=>[(fz ((eK kI sD) labels)),(fz ((eL (eT D.int)) groups)),(fz ((eK kI D.int) weights)),(ow ((oDT (kP kS kI) D.int) found1)),j_.1,j_.2.1,j_.2.2.1,j_.2.2.2.1]) (none,none,none,none,()) (zjm (ei:=(eT D.int)) (zc (zb 1 (eL (eT D.int)) groups rfl) zh)) h ?_ ?_)
  · intro N x_ found2 j_1 nxt hN_nxt h
    refine ⟨_,rfl,rfl,_,_,rfl,_,_,rfl,rfl,?_⟩
    refine (zku (fun (found3:(List ((Sg×Int)×Int))) (j_2:Z×Z×Unit)=>[(fz ((eK kI sD) labels)),(fz ((eL (eT D.int)) groups)),(fz ((eK kI D.int) weights)),(ow ((oDT (kP kS kI) D.int) found3)),(fz (D.int x_.1)),(fz ((eT D.int) x_.2)),j_2.1,j_2.2.1]) (j_1.2.2.1,j_1.2.2.2.1,()) (si_T (zb 5 (eT D.int) x_.2 rfl)) h ?_ ?_)
    · intro N x_1 found4 j_3 nxt1 hN_nxt1 h
      refine xp ?_
      refine (za8 (qp (u5 (zc1 (fun _=>rfl) (fun _ _ _ h=>h)) (zb 6 D.int x_1 rfl) (sv_f 0 (eK kI sD) labels rfl) zg)) h ?_ ?_)
      · intro h
        refine (q8 (zbx (fun s=>(s.1,s.2.1)) (eP2 sD D.int) 2 (zc (q7 (x4 (fun _=>rfl)) (sv_f 0 (eK kI sD) labels rfl) (zb 6 D.int x_1 rfl) zg) (zc (zb 4 D.int x_.1 rfl) zh)) (fun _=>rfl) (fun _=>rfl) (by show 2≤sizeLine; decide)) h ?_)
        intro key h
        refine (zol (fun _=>rfl) (xo yh (ztc (fun _=>rfl) (sv_o 3 found4 (o:=(oDT (kP kS kI) D.int) found4) rfl) (zb 7 (eP2 sD D.int) key rfl) (se_c D.int 0 rfl) (uw (o:=(oDT (kP kS kI) D.int) found4) rfl rfl) (uw (o:=(oDT (kP kS kI) D.int) found4) rfl rfl)) (q7 (x4 (fun _=>rfl)) (sv_f 2 (eK kI D.int) weights rfl) (zb 6 D.int x_1 rfl) zg)) (zb 7 (eP2 sD D.int) key rfl) rfl rfl h ?_)
        intro found5 h
        exact hN_nxt1 found5 ((fz (D.int x_1)),(fz ((eP2 sD D.int) key)),()) h
      · intro h
        exact hN_nxt1 found4 ((fz (D.int x_1)),j_3.2.1,()) h
    · intro found3 j_2 h
      exact hN_nxt found3 ((fz (D.int x_.1)),(fz ((eT D.int) x_.2)),j_2.1,j_2.2.1,()) h
  · intro found1 j_ h
    refine zbk rfl ?_
    exact hQ found1 h
@[irreducible] def up (labels:(List (Int×Sg))) (groups:(List (List Int))) (weights:(List (Int×Int))) (pins:(List (Sg×Int))) (Q:(List ((Sg×Int)×Int))→Prop):Prop :=
 js groups fun t_=>asgW t_ fun places =>
 lcW (za9 pins) (fun (x_:Int) (k_:Option Int→Prop)=>getW places x_ fun t_1=>k_ (some t_1)) fun t_2=>asgW t_2 fun pinned =>
 yc labels groups weights fun t_3=>zb5 t_3 (za pins) pinned fun t_4=>retW t_4 Q
def xh:DSp:=fun ds Q'=>∃ (labels:(List (Int×Sg))) (groups:(List (List Int))) (weights:(List (Int×Int))) (pins:(List (Sg×Int))) (K:(List ((Sg×Int)×Int))→Prop),ds=[(eK kI sD) labels,(eL (eT D.int)) groups,(eK kI D.int) weights,(eK kS D.int) pins]∧up labels groups weights pins K∧∀ r,K r→Q' (.fz ((eDT (kP kS kI) D.int) r))
theorem zo4 (ds:List D) (Q':S→Prop) (h:xh ds Q'):yw zo ja qx (DEnds.of Q') (zp 7 ds):=by
  obtain ⟨labels,groups,weights,pins,Q,rfl,h,hQ⟩:=h
  show yw zo ja qx (DEnds.of Q') [(fz ((eK kI sD) labels)),(fz ((eL (eT D.int)) groups)),(fz ((eK kI D.int) weights)),(fz ((eK kS D.int) pins)),none,none,none]
  unfold yw
  unfold up at h
  refine (q8 (qc (er:=(eK kI D.int)) (zc (zb 1 (eL (eT D.int)) groups rfl) zh) (fun _=>rfl) (fun s=>js s.1) (fun s K Q h c=>⟨_,_,rfl,h,fun r hr=>c r _ hr rfl⟩)) h ?_)
  intro places h
  refine (zon (e:=(eL D.int)) (znq (body:=fun (x_:Int) (k_:Option Int→Prop)=>getW places x_ fun t_1=>k_ (some t_1)) (δh:=[(fz ((eK kI sD) labels)),(fz ((eL (eT D.int)) groups)),(fz ((eK kI D.int) weights)),(fz ((eK kS D.int) pins)),(fz ((eK kI D.int) places)),none,none]) (δ2:=[(fz ((eK kI sD) labels)),(fz ((eL (eT D.int)) groups)),(fz ((eK kI D.int) weights)),(fz ((eK kS D.int) pins)),(fz ((eK kI D.int) places)),none,none]) (e:=D.int) (zz3 (zb 3 (eK kS D.int) pins rfl)) rfl (fun x_ K J1 J0 h hJ1 hJ0=>(xp (ztb (zjo (q7 (x4 (fun _=>rfl)) (sv_f 4 (eK kI D.int) places rfl) (zb 6 D.int x_ rfl) zg) h hJ1 rfl)))) rfl) h (fun _=>rfl) ?_)
  intro pinned h
  exact u6 (uy (er:=(eDT (kP kS kI) D.int)) (zc (qc (er:=(eDT (kP kS kI) D.int)) (zc (zb 0 (eK kI sD) labels rfl) (zc (zb 1 (eL (eT D.int)) groups rfl) (zc (zb 2 (eK kI D.int) weights rfl) zh))) (fun _=>rfl) (fun s=>yc s.1 s.2.1 s.2.2.1) (fun s K Q h c=>⟨_,_,_,_,rfl,h,fun r hr=>c r _ hr rfl⟩)) zh) (zc (xf (e:=(eL sD)) (za7 (zu3 (ek:=sD) (fun _=>rfl)) (sv_f 3 (eK kS D.int) pins rfl) zg) (fun _=>rfl)) (zc (zb 5 (eL D.int) pinned rfl) zh)) (fun _=>rfl) (fun _=>rfl) (fun _ _=>rfl) (fun s z=>zb5 s.1 z.1 z.2.1) (fun s z K Q h c=>⟨_,_,_,_,rfl,h,fun r hr=>c r _ hr rfl⟩)) h (hQ)
@[irreducible] def j8 (labels:(List (Int×Sg))) (groups:(List (List Int))) (weights:(List (Int×Int))) (pins:(Option (List (Sg×Int)))) (homes:(Option (List (Sg×Int)))) (Q:(List (Sg×Int))→Prop):Prop :=
 iteW pins.isNone (fun k_=>k_ ([]:(List (Sg×Int)))) (fun k_1=>unW pins fun t_=>k_1 t_) fun t_1=>q0 groups t_1 fun t_2=>asgW t_2 fun counting =>
 js groups fun t_3=>asgW t_3 fun places =>
 xy counting ([]:(List (Sg×Int))) (fun (x_:(Sg×Int)) (acc:(List (Sg×Int))) (nxt:(List (Sg×Int))→Prop)=>getW places x_.2 fun t_4=>putW acc x_.1 t_4 nxt) fun t_5=>asgW t_5 fun found =>
 up labels groups weights counting fun t_6=>ud t_6 homes fun t_7=>zr (found.length + t_7.length≤sizeLine) <| retW (zx (zx [] found) t_7) Q
def qf:DSp:=fun ds Q'=>∃ (labels:(List (Int×Sg))) (groups:(List (List Int))) (weights:(List (Int×Int))) (pins:(Option (List (Sg×Int)))) (homes:(Option (List (Sg×Int)))) (K:(List (Sg×Int))→Prop),ds=[(eK kI sD) labels,(eL (eT D.int)) groups,(eK kI D.int) weights,(eO (eK kS D.int)) pins,(eO (eK kS D.int)) homes]∧j8 labels groups weights pins homes K∧∀ r,K r→Q' (.own ((oK kS D.int) r))
theorem zo5 (ds:List D) (Q':S→Prop) (h:qf ds Q'):yx zo zl z9 xh (DEnds.of Q') (zp 10 ds):=by
  obtain ⟨labels,groups,weights,pins,homes,Q,rfl,h,hQ⟩:=h
  show yx zo zl z9 xh (DEnds.of Q') [(fz ((eK kI sD) labels)),(fz ((eL (eT D.int)) groups)),(fz ((eK kI D.int) weights)),(fz ((eO (eK kS D.int)) pins)),(fz ((eO (eK kS D.int)) homes)),none,none,none,none,none]
  unfold yx
  unfold j8 at h
  refine (q8 (qc (er:=(eK kS D.int)) (zc (zb 1 (eL (eT D.int)) groups rfl) (zc (zys (qp (xo (zyw (fun _=>rfl)) (zb 3 (eO (eK kS D.int)) pins rfl) (se_c uD () rfl))) (xf (e:=(eK kS D.int)) (ul (e:=D.int) (f:=kS)) (fun _=>rfl)) (zje (zb 3 (eO (eK kS D.int)) pins rfl))) zh)) (fun _=>rfl) (fun s=>q0 s.1 s.2.1) (fun s K Q h c=>⟨_,_,_,rfl,h,fun r hr=>c r _ hr rfl⟩)) h ?_)
  intro counting h
  refine (q8 (qc (er:=(eK kI D.int)) (zc (zb 1 (eL (eT D.int)) groups rfl) zh) (fun _=>rfl) (fun s=>js s.1) (fun s K Q h c=>⟨_,_,rfl,h,fun r hr=>c r _ hr rfl⟩)) h ?_)
  intro places h
  refine (zon (e:=(eK kS D.int)) (zdl (δh:=[(fz ((eK kI sD) labels)),(fz ((eL (eT D.int)) groups)),(fz ((eK kI D.int) weights)),(fz ((eO (eK kS D.int)) pins)),(fz ((eO (eK kS D.int)) homes)),(fz ((eK kS D.int) counting)),(fz ((eK kI D.int) places)),none,none,none]) (δ2:=[(fz ((eK kI sD) labels)),(fz ((eL (eT D.int)) groups)),(fz ((eK kI D.int) weights)),(fz ((eO (eK kS D.int)) pins)),(fz ((eO (eK kS D.int)) homes)),(fz ((eK kS D.int) counting)),(fz ((eK kI D.int) places)),none,none,none]) (eo:=(oK kS D.int)) (body:=fun (x_:(Sg×Int)) (acc:(List (Sg×Int))) (nxt:(List (Sg×Int))→Prop)=>getW places x_.2 fun t_4=>putW acc x_.1 t_4 nxt) ([]:(List (Sg×Int))) (zjn (ek:=sD) (fun _=>rfl) (zb 5 (eK kS D.int) counting rfl)) rfl rfl (fun x_ acc nxt J h hJ=>⟨_,rfl,rfl,_,_,rfl,_,_,rfl,rfl,(zbz (zbl (fun _=>rfl) (zb 8 sD x_.1 rfl) (q7 (x4 (fun _=>rfl)) (sv_f 6 (eK kI D.int) places rfl) (zb 9 D.int x_.2 rfl) zg) h hJ rfl))⟩) rfl) h (fun _=>rfl) ?_)
  intro found h
  exact za0 (ztf (zb 7 (eK kS D.int) found rfl) (uy (er:=(eK kS D.int)) (zc (qc (er:=(eDT (kP kS kI) D.int)) (zc (zb 0 (eK kI sD) labels rfl) (zc (zb 1 (eL (eT D.int)) groups rfl) (zc (zb 2 (eK kI D.int) weights rfl) (zc (zb 5 (eK kS D.int) counting rfl) zh)))) (fun _=>rfl) (fun s=>up s.1 s.2.1 s.2.2.1 s.2.2.2.1) (fun s K Q h c=>⟨_,_,_,_,_,rfl,h,fun r hr=>c r _ hr rfl⟩)) zh) (zc (zb 4 (eO (eK kS D.int)) homes rfl) zh) (fun _=>rfl) (fun _=>rfl) (fun _ _=>rfl) (fun s z=>ud s.1 z.1) (fun s z K Q h c=>⟨_,_,_,rfl,h,fun r hr=>c r _ hr rfl⟩))) h (hQ)
@[irreducible] def vk (groups:(List (List Int))) (names:(List (Sg×Int))) (Q:(List (Int×Sg))→Prop):Prop :=
 xy names ([]:(List (Int×Sg))) (fun (x_:(Sg×Int)) (acc:(List (Int×Sg))) (nxt:(List (Int×Sg))→Prop)=>ixW groups x_.2 fun t_=>xy t_ acc (fun (x_1:Int) (acc1:(List (Int×Sg))) (nxt1:(List (Int×Sg))→Prop)=>putW acc1 x_1 x_.1 nxt1) nxt) fun t_1=>retW t_1 Q
def qy:DSp:=fun ds Q'=>∃ (groups:(List (List Int))) (names:(List (Sg×Int))) (K:(List (Int×Sg))→Prop),ds=[(eL (eT D.int)) groups,(eK kS D.int) names]∧vk groups names K∧∀ r,K r→Q' (.own ((oK kI sD) r))
theorem zp0 (ds:List D) (Q':S→Prop) (h:qy ds Q'):zag (DEnds.of Q') (zp 5 ds):=by
  obtain ⟨groups,names,Q,rfl,h,hQ⟩:=h
  show zag (DEnds.of Q') [(fz ((eL (eT D.int)) groups)),(fz ((eK kS D.int) names)),none,none,none]
  unfold zag
  unfold vk at h
  exact za0 (zdl (δh:=[(fz ((eL (eT D.int)) groups)),(fz ((eK kS D.int) names)),none,none,none]) (δ2:=[(fz ((eL (eT D.int)) groups)),(fz ((eK kS D.int) names)),none,none,none]) (eo:=(oK kI sD)) (body:=fun (x_:(Sg×Int)) (acc:(List (Int×Sg))) (nxt:(List (Int×Sg))→Prop)=>ixW groups x_.2 fun t_=>xy t_ acc (fun (x_1:Int) (acc1:(List (Int×Sg))) (nxt1:(List (Int×Sg))→Prop)=>putW acc1 x_1 x_.1 nxt1) nxt) ([]:(List (Int×Sg))) (zjn (ek:=sD) (fun _=>rfl) (zb 1 (eK kS D.int) names rfl)) rfl rfl (fun x_ acc nxt J h hJ=>⟨_,rfl,rfl,_,_,rfl,_,_,rfl,rfl,(zbz (zor (eo:=(oK kI sD)) (body:=fun (x_1:Int) (acc1:(List (Int×Sg))) (nxt1:(List (Int×Sg))→Prop)=>putW acc1 x_1 x_.1 nxt1) (si_T (q7 zji (sv_f 0 (eL (eT D.int)) groups rfl) (zb 3 D.int x_.2 rfl) zg)) rfl (fun x_1 acc1 nxt1 J h hJ=>(xp (zbz (zbl (fun _=>rfl) (zb 4 D.int x_1 rfl) (zb 2 sD x_.1 rfl) h hJ rfl)))) h hJ rfl))⟩) rfl) h (hQ)
@[irreducible] def ve (labels:(List (Int×Sg))) (groups:(List (List Int))) (names:(List (Sg×Int))) (Q:(List Int)→Prop):Prop :=
 asgW ([]:(List Int)) fun found =>
 qm (z5 groups) found (fun (x_:(Int×(List Int))) (found2:(List Int)) nxt =>
   lcW x_.2 (fun (x_1:Int) (k_:Option Int→Prop)=>andW (hasG labels x_1) (fun k_1=>getW labels x_1 fun t_=>k_1 (!eqB (valG names t_) (some x_.1))) fun t_1=>ifW t_1 (k_ (some x_1)) (k_ none)) fun t_2=>zr (found2.length + t_2.length≤sizeLine) <| asgW (found2++t_2) fun found3 =>
   nxt found3) (fun (found1:(List Int)) =>
   zr (found1.length≤16777216) <| retW (zv D.int found1) Q)
def z8:DSp:=fun ds Q'=>∃ (labels:(List (Int×Sg))) (groups:(List (List Int))) (names:(List (Sg×Int))) (K:(List Int)→Prop),ds=[(eK kI sD) labels,(eL (eT D.int)) groups,(eK kS D.int) names]∧ve labels groups names K∧∀ r,K r→Q' (.own ((oL D.int) r))
theorem zmg (ds:List D) (Q':S→Prop) (h:z8 ds Q'):yb (DEnds.of Q') (zp 7 ds):=by
  obtain ⟨labels,groups,names,Q,rfl,h,hQ⟩:=h
  show yb (DEnds.of Q') [(fz ((eK kI sD) labels)),(fz ((eL (eT D.int)) groups)),(fz ((eK kS D.int) names)),none,none,none,none]
  unfold yb
  unfold ve at h
  refine (vu (yr (fun _=>([]:(List Int))) D.int 0 zh (fun _=>rfl) (fun _=>rfl) (Nat.zero_le _)) h ?_)
  intro found h
  refine (yt (fun (found1:(List Int)) (j_:Z×Z×Z×Unit)=>[(fz ((eK kI sD) labels)),(fz ((eL (eT D.int)) groups)),(fz ((eK kS D.int) names)),(ow ((oL D.int) found1)),j_.1,j_.2.1,j_.2.2.1]) (none,none,none,()) (zjm (ei:=(eT D.int)) (zc (zb 1 (eL (eT D.int)) groups rfl) zh)) h ?_ ?_)
  · intro N x_ found2 j_1 nxt hN_nxt h
    refine ⟨_,rfl,rfl,_,_,rfl,_,_,rfl,rfl,?_⟩
    refine (ztg rfl (znq (body:=fun (x_1:Int) (k_:Option Int→Prop)=>andW (hasG labels x_1) (fun k_1=>getW labels x_1 fun t_=>k_1 (!eqB (valG names t_) (some x_.1))) fun t_1=>ifW t_1 (k_ (some x_1)) (k_ none)) (δh:=[(fz ((eK kI sD) labels)),(fz ((eL (eT D.int)) groups)),(fz ((eK kS D.int) names)),(ow ((oL D.int) found2)),(fz (D.int x_.1)),(fz ((eT D.int) x_.2)),none]) (δ2:=[(fz ((eK kI sD) labels)),(fz ((eL (eT D.int)) groups)),(fz ((eK kS D.int) names)),(ow ((oL D.int) found2)),(fz (D.int x_.1)),(fz ((eT D.int) x_.2)),(zi3 j_1.2.2.1)]) (e:=D.int) (si_T (zb 5 (eT D.int) x_.2 rfl)) rfl (fun x_1 K J1 J0 h hJ1 hJ0=>(xp (zqv (zyr (qp (u5 (zc1 (fun _=>rfl) (fun _ _ _ h=>h)) (zb 6 D.int x_1 rfl) (sv_f 0 (eK kI sD) labels rfl) zg)) (qp (uk (zjj (by decide)) (sv_v (ze8 (fun _=>rfl) (sv_f 2 (eK kS D.int) names rfl) (q7 (x4 (fun _=>rfl)) (sv_f 0 (eK kI sD) labels rfl) (zb 6 D.int x_1 rfl) zg) zg zg)) (sv_f 4 (eO D.int) (some x_.1) rfl) zg zg))) h (fun h=>(zjo (zb 6 D.int x_1 rfl) h hJ1 rfl)) (fun h=>zvz h hJ0 rfl)))) rfl) rfl h ?_)
    intro found3 h
    exact hN_nxt found3 ((fz (D.int x_.1)),(fz ((eT D.int) x_.2)),(zi3 j_1.2.2.1),()) h
  · intro found1 j_ h
    exact za0 (za7 zok (sv_o 3 found1 (o:=(oL D.int) found1) rfl) (uw (o:=(oL D.int) found1) rfl rfl)) h (hQ)
@[irreducible] def vq (labels:(List (Int×Sg))) (groups:(List (List Int))) (Q:(List (Sg×(List Int)))→Prop):Prop :=
 asgW ([]:(List (Sg×(List Int)))) fun found =>
 qm (z5 groups) found (fun (x_:(Int×(List Int))) (found2:(List (Sg×(List Int)))) nxt =>
   qm x_.2 found2 (fun (x_1:Int) (found4:(List (Sg×(List Int)))) nxt1 =>
     ifW (hasG labels x_1)
      (getW labels x_1 fun t_=>zr (found4.length < sizeLine∧((valG found4 t_).getD []).length < sizeLine) <| asgW (zbb found4 t_ x_.1) fun found5 =>
       nxt1 found5)
      (nxt1 found4)) (fun (found3:(List (Sg×(List Int)))) =>
     nxt found3)) (fun (found1:(List (Sg×(List Int)))) =>
   retW found1 Q)
def qi:DSp:=fun ds Q'=>∃ (labels:(List (Int×Sg))) (groups:(List (List Int))) (K:(List (Sg×(List Int)))→Prop),ds=[(eK kI sD) labels,(eL (eT D.int)) groups]∧vq labels groups K∧∀ r,K r→Q' (.fz ((eK kS (eL D.int)) r))
theorem zk3 (ds:List D) (Q':S→Prop) (h:qi ds Q'):uo (DEnds.of Q') (zp 7 ds):=by
  obtain ⟨labels,groups,Q,rfl,h,hQ⟩:=h
  show uo (DEnds.of Q') [(fz ((eK kI sD) labels)),(fz ((eL (eT D.int)) groups)),none,none,none,none,none]
  unfold uo
  unfold vq at h
  refine (zl0 (f:=kS) (eo:=(oL D.int)) h ?_)
  intro found h
  refine (yt (fun (found1:(List (Sg×(List Int)))) (j_:Z×Z×Z×Z×Unit)=>[(fz ((eK kI sD) labels)),(fz ((eL (eT D.int)) groups)),(nkS kS (oL D.int) found1),j_.1,j_.2.1,j_.2.2.1,j_.2.2.2.1]) (none,none,none,none,()) (zjm (ei:=(eT D.int)) (zc (zb 1 (eL (eT D.int)) groups rfl) zh)) h ?_ ?_)
  · intro N x_ found2 j_1 nxt hN_nxt h
    refine ⟨_,rfl,rfl,_,_,rfl,_,_,rfl,rfl,?_⟩
    refine (zku (fun (found3:(List (Sg×(List Int)))) (j_2:Z×Z×Unit)=>[(fz ((eK kI sD) labels)),(fz ((eL (eT D.int)) groups)),(nkS kS (oL D.int) found3),(fz (D.int x_.1)),(fz ((eT D.int) x_.2)),j_2.1,j_2.2.1]) (j_1.2.2.1,j_1.2.2.2.1,()) (si_T (zb 4 (eT D.int) x_.2 rfl)) h ?_ ?_)
    · intro N x_1 found4 j_3 nxt1 hN_nxt1 h
      refine xp ?_
      refine (za8 (qp (u5 (zc1 (fun _=>rfl) (fun _ _ _ h=>h)) (zb 5 D.int x_1 rfl) (sv_f 0 (eK kI sD) labels rfl) zg)) h ?_ ?_)
      · intro h
        refine (zvi (fun _=>rfl) (fun _ _ h=>⟨Nat.zero_le _,h⟩) rfl rfl (q7 (x4 (fun _=>rfl)) (sv_f 0 (eK kI sD) labels rfl) (zb 5 D.int x_1 rfl) zg) rfl rfl h ?_)
        intro found5 h
        exact hN_nxt1 found5 ((fz (D.int x_1)),none,()) h
      · intro h
        exact hN_nxt1 found4 ((fz (D.int x_1)),j_3.2.1,()) h
    · intro found3 j_2 h
      exact hN_nxt found3 ((fz (D.int x_.1)),(fz ((eT D.int) x_.2)),j_2.1,j_2.2.1,()) h
  · intro found1 j_ h
    exact u6 (zq1 (ei:=(eL D.int)) 2 found1 rfl (fun _=>rfl)) h (hQ)
@[irreducible] def yy (name:Sg) (places:(List Int)) (names:(List (Sg×Int))) (Q:D→Prop):Prop :=
 ifW (!hasG names name)
  (retW ((eP2 sD sD) (zic,name)) Q)
  (getW names name fun t_=>getW names name fun t_1=>retW ((eP3 sD sD D.int) ((if (memB t_ places)=true then zid else zk1),name,t_1)) Q)
def jb:DSp:=fun ds Q'=>∃ (name:Sg) (places:(List Int)) (names:(List (Sg×Int))) (K:D→Prop),ds=[sD name,(eL D.int) places,(eK kS D.int) names]∧yy name places names K∧∀ r,K r→Q' (.fz (anyD r))
theorem zt0 (ds:List D) (Q':S→Prop) (h:jb ds Q'):zb4 (DEnds.of Q') (zp 3 ds):=by
  obtain ⟨name,places,names,Q,rfl,h,hQ⟩:=h
  show zb4 (DEnds.of Q') [(fz (sD name)),(fz ((eL D.int) places)),(fz ((eK kS D.int) names))]
  unfold zb4
  unfold yy at h
  refine (zgf (qp (u5 (zqs (fun _=>rfl) (fun _ _ _ h=>h)) (zb 0 sD name rfl) (sv_f 2 (eK kS D.int) names rfl) zg)) h ?_ ?_)
  · intro h
    exact u6 (zjr (e:=(eP2 sD sD)) (zbx (fun s=>(s.1,s.2.1)) (eP2 sD sD) 2 (zc (se_c sD zic rfl) (zc (zb 0 sD name rfl) zh)) (fun _=>rfl) (fun _=>rfl) (by show 2≤sizeLine; decide))) h (hQ)
  · intro h
    refine zc2 ?_
    exact u6 (zjr (e:=(eP3 sD sD D.int)) (zbx (fun s=>(s.1,s.2.1,s.2.2.1)) (eP3 sD sD D.int) 3 (zc (zwv (qp (u5 zyx (q7 (x4 (fun _=>rfl)) (sv_f 2 (eK kS D.int) names rfl) (zb 0 sD name rfl) zg) (sv_f 1 (eL D.int) places rfl) zg)) (se_c sD zid rfl) (se_c sD zk1 rfl)) (zc (zb 0 sD name rfl) (zc (q7 (x4 (fun _=>rfl)) (sv_f 2 (eK kS D.int) names rfl) (zb 0 sD name rfl) zg) zh))) (fun _=>rfl) (fun _=>rfl) (by show 3≤sizeLine; decide))) h (hQ)
@[irreducible] def vm (labels:(List (Int×Sg))) (groups:(List (List Int))) (names:(List (Sg×Int))) (Q:(List D)→Prop):Prop :=
 vq labels groups fun t_=>asgW t_ fun told =>
 zr ((told.map fun q=>(q.1,(eL D.int) q.2)).length + (names.map fun q=>(q.1,D.int q.2)).length≤sizeLine) <| zr ((zx (zx [] (told.map fun q=>(q.1,(eL D.int) q.2))) (names.map fun q=>(q.1,D.int q.2))).length≤16777216) <| lcW (zv sD (za (zx (zx [] (told.map fun q=>(q.1,(eL D.int) q.2))) (names.map fun q=>(q.1,D.int q.2))))) (fun (x_:Sg) (k_:Option D→Prop)=>yy x_ ((valG told x_).getD ([]:(List Int))) names fun t_1=>k_ (some t_1)) fun t_2=>asgW t_2 fun found =>
 zr (told.length≤16777216) <| lcW (zv sD (za told)) (fun (x_1:Sg) (k_1:Option D→Prop)=>getW told x_1 fun t_3=>ifW (decide ((1:Int) < (t_3.length:Int))) (getW told x_1 fun t_4=>k_1 (some ((eP3 sD sD (eL D.int)) (za1,x_1,t_4)))) (k_1 none)) fun t_5=>zr (found.length + t_5.length≤sizeLine) <| asgW (found++t_5) fun found1 =>
 qm (z5 groups) found1 (fun (x_2:(Int×(List Int))) (found3:(List D)) nxt =>
   xy x_2.2 ([]:(List (Sg×Bool))) (fun (x_3:Int) (acc:(List (Sg×Bool))) (nxt1:(List (Sg×Bool))→Prop)=>ifW (hasG labels x_3) (getW labels x_3 fun t_6=>putW acc t_6 true nxt1) (nxt1 acc)) fun t_7=>zr (t_7.length≤16777216) <| asgW (zv sD (za t_7)) fun met =>
   ifW (decide ((1:Int) < (met.length:Int)))
    (appW found3 ((eP3 sD D.int (eL sD)) (zfc,x_2.1,met)) fun found4 =>
     nxt found4)
    (nxt found3)) (fun (found2:(List D)) =>
   retW found2 Q)
def qz:DSp:=fun ds Q'=>∃ (labels:(List (Int×Sg))) (groups:(List (List Int))) (names:(List (Sg×Int))) (K:(List D)→Prop),ds=[(eK kI sD) labels,(eL (eT D.int)) groups,(eK kS D.int) names]∧vm labels groups names K∧∀ r,K r→Q' (.own ((oL anyD) r))
theorem zp1 (ds:List D) (Q':S→Prop) (h:qz ds Q'):zah qi jb (DEnds.of Q') (zp 10 ds):=by
  obtain ⟨labels,groups,names,Q,rfl,h,hQ⟩:=h
  show zah qi jb (DEnds.of Q') [(fz ((eK kI sD) labels)),(fz ((eL (eT D.int)) groups)),(fz ((eK kS D.int) names)),none,none,none,none,none,none,none]
  unfold zah
  unfold vm at h
  refine (q8 (qc (er:=(eK kS (eL D.int))) (zc (zb 0 (eK kI sD) labels rfl) (zc (zb 1 (eL (eT D.int)) groups rfl) zh)) (fun _=>rfl) (fun s=>vq s.1 s.2.1) (fun s K Q h c=>⟨_,_,_,rfl,h,fun r hr=>c r _ hr rfl⟩)) h ?_)
  intro told h
  refine (vu (znq (body:=fun (x_:Sg) (k_:Option D→Prop)=>yy x_ ((valG told x_).getD ([]:(List Int))) names fun t_1=>k_ (some t_1)) (δh:=[(fz ((eK kI sD) labels)),(fz ((eL (eT D.int)) groups)),(fz ((eK kS D.int) names)),(fz ((eK kS (eL D.int)) told)),none,none,none,none,none,none]) (δ2:=[(fz ((eK kI sD) labels)),(fz ((eL (eT D.int)) groups)),(fz ((eK kS D.int) names)),(fz ((eK kS (eL D.int)) told)),none,none,none,none,none,none]) (e:=anyD) (si_L (xf (e:=(eL sD)) (za7 (zbj (ek:=sD) (fun _=>rfl)) (sv_v (xf (e:=(eK kS anyD)) (ztf (zrd (e:=(eL D.int)) (zb 3 (eK kS (eL D.int)) told rfl)) (zrd (e:=D.int) (zb 2 (eK kS D.int) names rfl))) (fun _=>rfl))) zg) (fun _=>rfl))) rfl (fun x_ K J1 J0 h hJ1 hJ0=>(xp (ztb (zjo (qc (er:=anyD) (zc (zb 5 sD x_ rfl) (zc (zu8 (fun _=>rfl) (sv_f 3 (eK kS (eL D.int)) told rfl) (zb 5 sD x_ rfl) (xf (e:=(eL D.int)) (yr (fun _=>([]:(List Int))) D.int 0 zh (fun _=>rfl) (fun _=>rfl) (Nat.zero_le _)) (fun _=>rfl)) zg zg) (zc (zb 2 (eK kS D.int) names rfl) zh))) (fun _=>rfl) (fun s=>yy s.1 s.2.1 s.2.2.1) (fun s K Q h c=>⟨_,_,_,_,rfl,h,fun r hr=>c r _ hr rfl⟩)) h hJ1 rfl)))) rfl) h ?_)
  intro found h
  refine (zxe rfl (znq (body:=fun (x_1:Sg) (k_1:Option D→Prop)=>getW told x_1 fun t_3=>ifW (decide ((1:Int) < (t_3.length:Int))) (getW told x_1 fun t_4=>k_1 (some ((eP3 sD sD (eL D.int)) (za1,x_1,t_4)))) (k_1 none)) (δh:=[(fz ((eK kI sD) labels)),(fz ((eL (eT D.int)) groups)),(fz ((eK kS D.int) names)),(fz ((eK kS (eL D.int)) told)),(ow ((oL anyD) found)),none,none,none,none,none]) (δ2:=[(fz ((eK kI sD) labels)),(fz ((eL (eT D.int)) groups)),(fz ((eK kS D.int) names)),(fz ((eK kS (eL D.int)) told)),(ow ((oL anyD) found)),none,none,none,none,none]) (e:=anyD) (si_L (xf (e:=(eL sD)) (za7 (zbj (ek:=sD) (fun _=>rfl)) (sv_f 3 (eK kS (eL D.int)) told rfl) zg) (fun _=>rfl))) rfl (fun x_1 K J1 J0 h hJ1 hJ0=>(xp (zqv (qp (xo zno (za6 y9 (sv_v (q7 (x4 (fun _=>rfl)) (sv_f 3 (eK kS (eL D.int)) told rfl) (zb 5 sD x_1 rfl) zg)) zg) (se_c D.int 1 rfl))) h (fun h=>(zjo (zjr (e:=(eP3 sD sD (eL D.int))) (zbx (fun s=>(s.1,s.2.1,s.2.2.1)) (eP3 sD sD (eL D.int)) 3 (zc (se_c sD za1 rfl) (zc (zb 5 sD x_1 rfl) (zc (xf (e:=(eL D.int)) (za7 zu2 (sv_v (q7 (x4 (fun _=>rfl)) (sv_f 3 (eK kS (eL D.int)) told rfl) (zb 5 sD x_1 rfl) zg)) zg) (fun _=>rfl)) zh))) (fun _=>rfl) (fun _=>rfl) (by show 3≤sizeLine; decide))) h hJ1 rfl)) (fun h=>zvz h hJ0 rfl)))) rfl) rfl h ?_)
  intro found1 h
  refine (yt (fun (found2:(List D)) (j_:Z×Z×Z×Z×Unit)=>[(fz ((eK kI sD) labels)),(fz ((eL (eT D.int)) groups)),(fz ((eK kS D.int) names)),(fz ((eK kS (eL D.int)) told)),(ow ((oL anyD) found2)),none,j_.1,j_.2.1,j_.2.2.1,j_.2.2.2.1]) (none,none,none,none,()) (zjm (ei:=(eT D.int)) (zc (zb 1 (eL (eT D.int)) groups rfl) zh)) h ?_ ?_)
  · intro N x_2 found3 j_1 nxt hN_nxt h
    refine ⟨_,rfl,rfl,_,_,rfl,_,_,rfl,rfl,?_⟩
    refine (q8 (xf (e:=(eL sD)) (za7 (zbj (ek:=sD) (fun _=>rfl)) (sv_v (xf (e:=(eK kS D.bl)) (zdl (δh:=[(fz ((eK kI sD) labels)),(fz ((eL (eT D.int)) groups)),(fz ((eK kS D.int) names)),(fz ((eK kS (eL D.int)) told)),(ow ((oL anyD) found3)),none,(fz (D.int x_2.1)),(fz ((eT D.int) x_2.2)),j_1.2.2.1,none]) (δ2:=[(fz ((eK kI sD) labels)),(fz ((eL (eT D.int)) groups)),(fz ((eK kS D.int) names)),(fz ((eK kS (eL D.int)) told)),(ow ((oL anyD) found3)),none,(fz (D.int x_2.1)),(fz ((eT D.int) x_2.2)),j_1.2.2.1,(zi3 j_1.2.2.2.1)]) (eo:=(oK kS D.bl)) (body:=fun (x_3:Int) (acc:(List (Sg×Bool))) (nxt1:(List (Sg×Bool))→Prop)=>ifW (hasG labels x_3) (getW labels x_3 fun t_6=>putW acc t_6 true nxt1) (nxt1 acc)) ([]:(List (Sg×Bool))) (si_T (zb 7 (eT D.int) x_2.2 rfl)) rfl rfl (fun x_3 acc nxt1 J h hJ=>(xp (zqx (qp (u5 (zc1 (fun _=>rfl) (fun _ _ _ h=>h)) (zb 9 D.int x_3 rfl) (sv_f 0 (eK kI sD) labels rfl) zg)) h (fun h=>(zbl (fun _=>rfl) (q7 (x4 (fun _=>rfl)) (sv_f 0 (eK kI sD) labels rfl) (zb 9 D.int x_3 rfl) zg) (se_c D.bl true rfl) h hJ rfl)) (fun h=>hJ _ h)))) rfl) (fun _=>rfl))) zg) (fun _=>rfl)) h ?_)
    intro met h
    refine (za8 (qp (xo zno (za6 y9 (sv_f 8 (eL sD) met rfl) zg) (se_c D.int 1 rfl))) h ?_ ?_)
    · intro h
      refine (zs8 rfl (zjr (e:=(eP3 sD D.int (eL sD))) (zbx (fun s=>(s.1,s.2.1,s.2.2.1)) (eP3 sD D.int (eL sD)) 3 (zc (se_c sD zfc rfl) (zc (zb 6 D.int x_2.1 rfl) (zc (zb 8 (eL sD) met rfl) zh))) (fun _=>rfl) (fun _=>rfl) (by show 3≤sizeLine; decide))) rfl h ?_)
      intro found4 h
      exact hN_nxt found4 ((fz (D.int x_2.1)),(fz ((eT D.int) x_2.2)),(fz ((eL sD) met)),(zi3 j_1.2.2.2.1),()) h
    · intro h
      exact hN_nxt found3 ((fz (D.int x_2.1)),(fz ((eT D.int) x_2.2)),(fz ((eL sD) met)),(zi3 j_1.2.2.2.1),()) h
  · intro found2 j_ h
    refine zbk rfl ?_
    exact hQ found2 h
@[irreducible] def znr (script:(List Int)) (Q:Bool→Prop):Prop :=
 zad 0 (4:Int) fun t_=>zdj t_ (fun (x_:Int) nxt =>
   zgg script x_ fun t_1=>asgW t_1 fun zi =>
   zai zi fun t_2=>asgW t_2 fun p_ =>
   j8 p_.2.1 p_.1 p_.2.2.1 (some p_.2.2.2) (some [(zdq,(1:Int))]) fun t_3=>asgW t_3 fun named =>
   j8 p_.2.1 p_.1 p_.2.2.1 (some p_.2.2.2) (some [(zdq,(1:Int))]) fun t_4=>ifW (!zac t_4 named)
    (retW false Q)
    (vk p_.1 named fun t_5=>vk p_.1 named fun t_6=>ifW (!zac t_5 t_6)
      (retW false Q)
      (q0 p_.1 p_.2.2.2 fun t_7=>q0 p_.1 p_.2.2.2 fun t_8=>ifW (!zac t_7 t_8)
        (retW false Q)
        (ve p_.2.1 p_.1 named fun t_9=>ve p_.2.1 p_.1 named fun t_10=>ifW (!eqB t_9 t_10)
          (retW false Q)
          (vm p_.2.1 p_.1 named fun t_11=>vm p_.2.1 p_.1 named fun t_12=>eqA ((eL anyD) t_11) ((eL anyD) t_12) fun t_13=>ifW (!t_13)
            (retW false Q)
            (nxt)))))) (
   retW true Q)
def sp_law:DSp:=fun ds Q'=>∃ (script:(List Int)) (K:Bool→Prop),ds=[D.scr script]∧znr script K∧∀ r,K r→Q' (.fz (D.bl r))
theorem z0i (ds:List D) (Q':S→Prop) (h:sp_law ds Q'):zj6 zbv xi zl qf qy z8 qz (DEnds.of Q') (zp 8 ds):=by
  obtain ⟨script,Q,rfl,h,hQ⟩:=h
  show zj6 zbv xi zl qf qy z8 qz (DEnds.of Q') [(fz (D.scr script)),none,none,none,none,none,none,none]
  unfold zj6
  unfold znr at h
  refine (zu4 (fun (j_:Z×Z×Z×Z×Z×Z×Z×Unit)=>[(fz (D.scr script)),j_.1,j_.2.1,j_.2.2.1,j_.2.2.2.1,j_.2.2.2.2.1,j_.2.2.2.2.2.1,j_.2.2.2.2.2.2.1]) (none,none,none,none,none,none,none,()) (zrw (zc (se_c D.int 4 rfl) zh)) h ?_ ?_)
  · intro N x_ j_1 nxt hN_nxt h
    refine xp ?_
    refine (q8 (qc (er:=jl) (zc (zb 0 D.scr script rfl) (zc (zb 1 D.int x_ rfl) zh)) (fun _=>rfl) (fun s=>zgg s.1 s.2.1) (fun s K Q h c=>ztd s K Q h (fun r hr=>c r _ hr rfl))) h ?_)
    intro zi h
    refine (zoo (qc (er:=(eP4 (eL (eT D.int)) (eK kI sD) (eK kI D.int) (eK kS D.int))) (zc (zb 2 jl zi rfl) zh) (fun _=>rfl) (fun s=>zai s.1) (fun s K Q h c=>⟨_,_,rfl,h,fun r hr=>c r _ hr rfl⟩)) h ?_)
    intro p_ h
    refine ⟨_,rfl,rfl,_,_,rfl,_,_,rfl,_,_,rfl,_,_,rfl,rfl,?_⟩
    refine (q8 (uy (er:=(eK kS D.int)) (zc (zb 4 (eK kI sD) p_.2.1 rfl) (zc (zb 3 (eL (eT D.int)) p_.1 rfl) (zc (zb 5 (eK kI D.int) p_.2.2.1 rfl) zh))) (zc (zei (zb 6 (eK kS D.int) p_.2.2.2 rfl)) (zc (zei (xf (e:=(eK kS D.int)) (zq4 (fun s=>[(zdq,s.1)]) (oK kS D.int) (zov (kd:=.str "b") (k:=.inr "b") rfl (se_c D.int 1 rfl) zq3) (fun _=>(by show 1≤15; decide)) (fun _=>rfl)) (fun _=>rfl))) zh)) (fun _=>rfl) (fun _=>rfl) (fun _ _=>rfl) (fun s z=>j8 s.1 s.2.1 s.2.2.1 z.1 z.2.1) (fun s z K Q h c=>⟨_,_,_,_,_,_,rfl,h,fun r hr=>c r _ hr rfl⟩)) h ?_)
    intro named h
    refine (zgf (qp (uk (zoj (by decide)) (sv_v (uy (er:=(eK kS D.int)) zh (zc (zei (xf (e:=(eK kS D.int)) (zq4 (fun s=>[(zdq,s.1)]) (oK kS D.int) (zov (kd:=.str "b") (k:=.inr "b") rfl (se_c D.int 1 rfl) zq3) (fun _=>(by show 1≤15; decide)) (fun _=>rfl)) (fun _=>rfl))) (zc (zei (zb 6 (eK kS D.int) p_.2.2.2 rfl)) (zc (zb 5 (eK kI D.int) p_.2.2.1 rfl) (zc (zb 3 (eL (eT D.int)) p_.1 rfl) (zc (zb 4 (eK kI sD) p_.2.1 rfl) zh))))) (fun _=>rfl) (fun _=>rfl) (fun _ _=>rfl) (fun s z=>j8 z.2.2.2.2.1 z.2.2.2.1 z.2.2.1 z.2.1 z.1) (fun s z K Q h c=>⟨_,_,_,_,_,_,rfl,h,fun r hr=>c r _ hr rfl⟩))) (sv_f 7 (eK kS D.int) named rfl) zg zg)) h ?_ ?_)
    · intro h
      exact u6 (se_c D.bl false rfl) h (hQ)
    · intro h
      refine zc2 ?_
      refine (zgf (qp (uk (zoj (by decide)) (sv_v (uy (er:=(eK kI sD)) zh (zc (zb 7 (eK kS D.int) named rfl) (zc (zb 3 (eL (eT D.int)) p_.1 rfl) zh)) (fun _=>rfl) (fun _=>rfl) (fun _ _=>rfl) (fun s z=>vk z.2.1 z.1) (fun s z K Q h c=>⟨_,_,_,rfl,h,fun r hr=>c r _ hr rfl⟩))) (sv_v (qc (er:=(eK kI sD)) (zc (zb 3 (eL (eT D.int)) p_.1 rfl) (zc (zb 7 (eK kS D.int) named rfl) zh)) (fun _=>rfl) (fun s=>vk s.1 s.2.1) (fun s K Q h c=>⟨_,_,_,rfl,h,fun r hr=>c r _ hr rfl⟩))) zg zg)) h ?_ ?_)
      · intro h
        exact u6 (se_c D.bl false rfl) h (hQ)
      · intro h
        refine zc2 ?_
        refine (zgf (qp (uk (zoj (by decide)) (sv_v (uy (er:=(eK kS D.int)) zh (zc (zb 6 (eK kS D.int) p_.2.2.2 rfl) (zc (zb 3 (eL (eT D.int)) p_.1 rfl) zh)) (fun _=>rfl) (fun _=>rfl) (fun _ _=>rfl) (fun s z=>q0 z.2.1 z.1) (fun s z K Q h c=>⟨_,_,_,rfl,h,fun r hr=>c r _ hr rfl⟩))) (sv_v (qc (er:=(eK kS D.int)) (zc (zb 3 (eL (eT D.int)) p_.1 rfl) (zc (zb 6 (eK kS D.int) p_.2.2.2 rfl) zh)) (fun _=>rfl) (fun s=>q0 s.1 s.2.1) (fun s K Q h c=>⟨_,_,_,rfl,h,fun r hr=>c r _ hr rfl⟩))) zg zg)) h ?_ ?_)
        · intro h
          exact u6 (se_c D.bl false rfl) h (hQ)
        · intro h
          refine zc2 ?_
          refine (zgf (qp (uk (zjj (by decide)) (sv_v (uy (er:=(eL D.int)) zh (zc (zb 7 (eK kS D.int) named rfl) (zc (zb 3 (eL (eT D.int)) p_.1 rfl) (zc (zb 4 (eK kI sD) p_.2.1 rfl) zh))) (fun _=>rfl) (fun _=>rfl) (fun _ _=>rfl) (fun s z=>ve z.2.2.1 z.2.1 z.1) (fun s z K Q h c=>⟨_,_,_,_,rfl,h,fun r hr=>c r _ hr rfl⟩))) (sv_v (qc (er:=(eL D.int)) (zc (zb 4 (eK kI sD) p_.2.1 rfl) (zc (zb 3 (eL (eT D.int)) p_.1 rfl) (zc (zb 7 (eK kS D.int) named rfl) zh))) (fun _=>rfl) (fun s=>ve s.1 s.2.1 s.2.2.1) (fun s K Q h c=>⟨_,_,_,_,rfl,h,fun r hr=>c r _ hr rfl⟩))) zg zg)) h ?_ ?_)
          · intro h
            exact u6 (se_c D.bl false rfl) h (hQ)
          · intro h
            refine zc2 ?_
            refine (za8 (qp (uk zzf (ztw (e:=(eL anyD)) (sv_v (uy (er:=(eL anyD)) zh (zc (zb 7 (eK kS D.int) named rfl) (zc (zb 3 (eL (eT D.int)) p_.1 rfl) (zc (zb 4 (eK kI sD) p_.2.1 rfl) zh))) (fun _=>rfl) (fun _=>rfl) (fun _ _=>rfl) (fun s z=>vm z.2.2.1 z.2.1 z.1) (fun s z K Q h c=>⟨_,_,_,_,rfl,h,fun r hr=>c r _ hr rfl⟩))) zg) (ztw (e:=(eL anyD)) (sv_v (qc (er:=(eL anyD)) (zc (zb 4 (eK kI sD) p_.2.1 rfl) (zc (zb 3 (eL (eT D.int)) p_.1 rfl) (zc (zb 7 (eK kS D.int) named rfl) zh))) (fun _=>rfl) (fun s=>vm s.1 s.2.1 s.2.2.1) (fun s K Q h c=>⟨_,_,_,_,rfl,h,fun r hr=>c r _ hr rfl⟩))) zg) zrc zrc)) h ?_ ?_)
            · intro h
              exact u6 (se_c D.bl false rfl) h (hQ)
            · intro h
              exact hN_nxt ((fz (D.int x_)),(fz (jl zi)),(fz ((eL (eT D.int)) p_.1)),(fz ((eK kI sD) p_.2.1)),(fz ((eK kI D.int) p_.2.2.1)),(fz ((eK kS D.int) p_.2.2.2)),(fz ((eK kS D.int) named)),()) h
  · intro j_ h
    exact u6 (se_c D.bl true rfl) h (hQ)
end
end K32
end Mv
namespace Mv
namespace K32
open PySem PySem.Spec PyProof.Rows L2 Tk Lb Ld Bw
open Lc
theorem e_dr:zai=Lc.drW:=by with_unfolding_all rfl
theorem e_bc:ud=bcW:=by with_unfolding_all rfl
theorem e_po:js=poW:=by with_unfolding_all rfl
theorem e_cn:q0=cnW:=by unfold q0 cnW; rw [e_po]
theorem e_lt:yc=ltW:=by with_unfolding_all rfl
theorem e_wo:zb5=woW:=by with_unfolding_all rfl
theorem e_op:up=opW:=by unfold up opW; rw [e_po,e_lt,e_wo]
theorem e_co:j8=coW:=by unfold j8 coW; rw [e_cn,e_po,e_op,e_bc]
theorem e_rn:ve=rnW:=by with_unfolding_all rfl
theorem zt1 {lb:List (Int×Sg)} {gs:List (List Int)} {names:List (Sg×Int)} {Q:List Int→Prop} (G:Grs gs) (h:Q (zv D.int (rens lb (fn names) (z5 gs)))):rnW lb gs names Q:=by
  have hz:=x9
  have L:=G.len
  have small:∀ n,(prs ((z5 gs).take n)).length≤250:=fun n=>by
    have e:prs (z5 gs)=prs ((z5 gs).take n)++prs ((z5 gs).drop n):=by rw [← zem,List.take_append_drop]
    have:=congrArg List.length e
    rw [List.length_append] at this
    have l2:(prs (z5 gs)).length≤250:=L
    omega
  have rl:∀ n,(rens lb (fn names) ((z5 gs).take n)).length≤250:=fun n=>Nat.le_trans (List.length_filterMap_le _ _) (small n)
  refine asgI ?_
  refine ql (fun n (acc:List Int)=>acc=rens lb (fn names) ((z5 gs).take n)) rfl ?_ ?_
  · rintro n x acc nx hx rfl hn
    have tk:(z5 gs).take (n + 1)=(z5 gs).take n++[x]:=by rw [List.take_succ,hx]; rfl
    have s1:=small (n + 1)
    have one:prs [x]=x.2.map fun (i:Int)=>(x.1,i):=by unfold prs; simp
    have lx:x.2.length≤250:=by
      rw [tk,zem,List.length_append,one,List.length_map] at s1; omega
    refine qo (by omega) ?_
    refine zxk (fun acc i=>addO acc (if gone lb (fn names) (x.1,i)=true then some i else none)) ?_ ?_
    · intro j i nx2 hi hn2
      have nil:∀ l:List Int,l++(none:Option Int).toList=l:=fun l=>by simp
      have fin:∀ b,b=gone lb (fn names) (x.1,i)→ifW b (nx2 (((x.2.take j).foldl (fun acc i=>addO acc (if gone lb (fn names) (x.1,i)=true then some i else none)) [])++(some i).toList)) (nx2 (((x.2.take j).foldl (fun acc i=>addO acc (if gone lb (fn names) (x.1,i)=true then some i else none)) [])++(none:Option Int).toList)):=by
        intro b eb
        refine ifI (fun q=>?_) fun q=>?_
        · rw [if_pos (eb ▸ q)] at hn2; exact hn2
        · rw [if_neg (by rw [← eb,q]; decide)] at hn2
          rw [nil]; exact hn2
      refine andI (fun q=>?_) fun q=>fin _ ?_
      · obtain ⟨l,hl⟩:=zae (has_iff.mp q)
        have hl':valG lb i=some l:=hl
        refine getI hl' (fin _ ?_)
        unfold gone
        show _=match valG lb i with | some l=>!eqB (fn names l) (some x.1) | none=>false
        rw [hl']; rfl
      · unfold gone
        show _=match valG lb i with | some l=>!eqB (fn names l) (some x.1) | none=>false
        unfold hasG at q
        cases e:valG lb i with
        | none=>rfl
        | some l=>rw [e] at q; cases q
    · rw [zel,List.nil_append]
      have r1:=rl n
      have r2:=rl (n + 1)
      have e:rens lb (fn names) ((z5 gs).take (n + 1))=rens lb (fn names) ((z5 gs).take n)++x.2.filterMap (fun i=>if gone lb (fn names) (x.1,i)=true then some i else none):=by
        unfold rens
        rw [tk,zem,List.filterMap_append,one,List.filterMap_map]
        rfl
      rw [e,List.length_append] at r2
      exact qo (by omega) (asgI (hn _ e.symm))
  · rintro acc rfl
    have:=rl (z5 gs).length
    rw [List.take_length] at *
    exact qo (by omega) h
/-! ### labels_of -/
def lo1 (gs:List (List Int)) (A:List (Int×Sg)) (q:Sg×Int):List (Int×Sg):=((atI gs q.2).getD []).foldl (fun A i=>putG A i q.1) A
def loF (gs:List (List Int)) (R:Names):List (Int×Sg):=R.foldl (lo1 gs) []
theorem zt2 {gs:List (List Int)} {R:Names} {Q:List (Int×Sg)→Prop} (G:Grs gs) (hl:R.length≤1000) (ht:∀ q∈R,∃ g,atI gs q.2=some g∧g∈gs) (h:(za (loF gs R)).Nodup→Q (loF gs R)):vk gs R Q:=by
  have hz:=x9
  unfold vk
  refine qo (by omega) ?_
  refine ql (fun n (A:List (Int×Sg))=>A.length≤n * 250∧(za A).Nodup∧A=(R.take n).foldl (lo1 gs) []) ⟨Nat.zero_le _,.nil,rfl⟩ ?_ ?_
  · rintro n x A nx hx ⟨i1,i3,i2⟩ hn
    have hi:=(List.getElem?_eq_some_iff.mp hx).1
    obtain ⟨g,hg,hm⟩:=ht x (List.mem_of_getElem? hx)
    have tk:R.take (n + 1)=R.take n++[x]:=by rw [List.take_succ,hx]; rfl
    have lg:g.length≤250:=Nat.le_trans (List.sublist_flatten_of_mem hm).length_le G.tot
    refine ixI hg (qo (by omega) ?_)
    refine ql (fun j (B:List (Int×Sg))=>B.length≤n * 250 + j∧(za B).Nodup∧B=(g.take j).foldl (fun A i=>putG A i x.1) A) ⟨by omega,i3,rfl⟩ ?_ ?_
    · rintro j i B nx2 hi2 ⟨j1,j3,j2⟩ hn2
      have hj:=(List.getElem?_eq_some_iff.mp hi2).1
      exact putI (by omega) (hn2 _ ⟨Nat.le_trans (vo _ _ _) (by omega),xk j3 _ _,by rw [List.take_succ,hi2,List.foldl_append,← j2]; rfl⟩)
    · rintro B ⟨j1,j3,j2⟩
      rw [List.take_length] at j2
      refine hn _ ⟨by omega,j3,?_⟩
      rw [tk,List.foldl_append,← i2]
      show _=lo1 gs A x
      unfold lo1
      rw [hg]; exact j2
  · rintro A ⟨_,j3,j2⟩
    rw [List.take_length] at j2
    have e:A=loF gs R:=j2
    subst e
    exact retI (h j3)
/-! ### label_places -/
def lp1 (lb:List (Int×Sg)) (A:List (Sg×List Int)) (y:Int×Int):List (Sg×List Int):=match valG lb y.2 with
  | some l=>zbb A l y.1
  | none=>A
def lpF (lb:List (Int×Sg)) (gs:List (List Int)):List (Sg×List Int):=(gp gs).foldl (lp1 lb) []
theorem zt3 (A:List (Sg×List Int)) (l:Sg) (p:Int):(zbb A l p).length≤A.length + 1:=by
  unfold zbb
  split
  · omega
  · exact vo _ _ _
theorem zt4 (A:List (Sg×List Int)) (l k:Sg) (p:Int):((valG (zbb A l p) k).getD []).length≤((valG A k).getD []).length + 1:=by
  unfold zbb
  split
  · omega
  · rw [jm]
    split
    · rename_i e; subst e; simp
    · omega
theorem zo6 (lb:List (Int×Sg)):∀ (ys:List (Int×Int)) (A:List (Sg×List Int)),(ys.foldl (lp1 lb) A).length≤A.length + ys.length
  | [],A=>by simp
  | y :: ys,A=>by
    have h:=zo6 lb ys (lp1 lb A y)
    have h2:(lp1 lb A y).length≤A.length + 1:=by
      unfold lp1
      split
      · exact zt3 _ _ _
      · omega
    simp only [List.foldl_cons,List.length_cons]; omega
theorem zt5 (lb:List (Int×Sg)) (k:Sg):∀ (ys:List (Int×Int)) (A:List (Sg×List Int)),((valG (ys.foldl (lp1 lb) A) k).getD []).length≤((valG A k).getD []).length + ys.length
  | [],A=>by simp
  | y :: ys,A=>by
    have h:=zt5 lb k ys (lp1 lb A y)
    have h2:((valG (lp1 lb A y) k).getD []).length≤((valG A k).getD []).length + 1:=by
      unfold lp1
      split
      · exact zt4 _ _ _ _
      · omega
    simp only [List.foldl_cons,List.length_cons]; omega
theorem zzg {lb:List (Int×Sg)} {gs:List (List Int)} {Q:List (Sg×List Int)→Prop} (G:Grs gs) (h:(lpF lb gs).length≤250→Q (lpF lb gs)):vq lb gs Q:=by
  have hz:=x9
  have L:=G.len
  unfold vq
  refine asgI (nest (wrap:=fun _ P=>P) (fun _ _ _ h=>h) (lp1 lb) ?_ ?_)
  · intro pre y post x e ex nx hn
    have lp:pre.length≤250:=by
      have e':gp gs=pre++y :: post:=e
      have:=congrArg List.length e'
      simp at this
      omega
    have l1:=zo6 lb pre []
    have l2:=fun k=>zt5 lb k pre []
    have l3:∀ k:Sg,((valG ([]:List (Sg×List Int)) k).getD []).length=0:=fun k=>rfl
    unfold lp1 at hn
    cases el:valG lb y.2 with
    | none =>
      rw [el] at hn
      exact ifF (by unfold hasG; rw [el]; rfl) hn
    | some l =>
      rw [el] at hn
      have l4:=l2 l
      rw [l3] at l4
      simp only [List.length_nil] at l1
      refine ifT (by unfold hasG; rw [el]; rfl) (getI el (qo ⟨by omega,by omega⟩ (asgI ?_)))
      rw [ex]; exact hn
  · have l1:=zo6 lb (gp gs) []
    simp only [List.length_nil] at l1
    exact retI (h (by show ((gp gs).foldl (lp1 lb) []).length≤250; omega))
/-! ### events_of -/
def zhl (name:Sg) (places:List Int) (names:Names):D:=match valG names name with
  | some p=>(eP3 sD sD D.int) ((if (memB p places)=true then zid else zk1),name,p)
  | none=>(eP2 sD sD) (zic,name)
theorem zvj {name:Sg} {places:List Int} {names:Names} {Q:D→Prop} (h:Q (zhl name places names)):yy name places names Q:=by
  unfold yy
  unfold zhl at h
  cases e:valG names name with
  | none=>rw [e] at h; exact ifT (by unfold hasG; rw [e]; rfl) (retI h)
  | some p=>rw [e] at h; exact ifF (by unfold hasG; rw [e]; rfl) (getI e (getI e (retI h)))
def mtF (lb:List (Int×Sg)) (g:List Int):List (Sg×Bool):=g.foldl (fun A i=>match valG lb i with | some l=>putG A l true | none=>A) []
def mgF (lb:List (Int×Sg)) (x:Int×List Int):Option D:=if decide ((1:Int) < ((zv sD (za (mtF lb x.2))).length:Int))=true then some ((eP3 sD D.int (eL sD)) (zfc,x.1,zv sD (za (mtF lb x.2)))) else none
def zj9 (told:List (Sg×List Int)) (names:Names):List Sg:=zv sD (za (zx (zx [] (told.map fun q=>(q.1,(eL D.int) q.2))) (names.map fun q=>(q.1,D.int q.2))))
def evF (lb:List (Int×Sg)) (gs:List (List Int)) (names:Names):List D :=
  (zj9 (lpF lb gs) names).map (fun x=>zhl x ((valG (lpF lb gs) x).getD []) names) ++
  ((zv sD (za (lpF lb gs))).filter fun x=>decide ((1:Int) < (((valG (lpF lb gs) x).getD []).length:Int))).map (fun x=>(eP3 sD sD (eL D.int)) (za1,x,(valG (lpF lb gs) x).getD [])) ++
  (z5 gs).filterMap (mgF lb)
theorem zt6 {lb:List (Int×Sg)} {gs:List (List Int)} {names:Names} {Q:List D→Prop} (G:Grs gs) (hl:names.length≤1000) (h:Q (evF lb gs names)):vm lb gs names Q:=by
  have hz:=x9
  have gl:=G.gl
  have le:(z5 gs).length=gs.length:=by unfold z5; simp
  unfold vm
  refine zzg G fun tl=>asgI ?_
  unfold evF at h
  generalize lpF lb gs=told at h tl ⊢
  have ml:(zx (zx [] (told.map fun q=>(q.1,(eL D.int) q.2))) (names.map fun q=>(q.1,D.int q.2))).length≤1250:=by
    have h1:=zb1 (names.map fun q=>(q.1,D.int q.2)) (zx [] (told.map fun q=>(q.1,(eL D.int) q.2)))
    have h2:=zb1 (told.map fun q=>(q.1,(eL D.int) q.2)) ([]:List (Sg×D))
    simp only [List.length_map,List.length_nil] at h1 h2
    omega
  refine qo (by simp only [List.length_map]; omega) (qo (by omega) ?_)
  show lcW (zj9 told names) _ _
  have kl:(zj9 told names).length≤1250:=by unfold zj9; rw [zdo,z7]; exact ml
  refine z0g (fun x=>zhl x ((valG told x).getD []) names) (by omega) (fun n x _ k hk=>zvj hk) (asgI ?_)
  refine qo (by omega) ?_
  have sl:(zv sD (za told)).length≤250:=by rw [zdo,z7]; exact tl
  refine z0h (fun x=>decide ((1:Int) < (((valG told x).getD []).length:Int))) (fun x=>(eP3 sD sD (eL D.int)) (za1,x,(valG told x).getD [])) (by omega) (fun x hx k hk=>?_) ?_
  · obtain ⟨v,hv⟩:=zae (mem_sortL.mp hx)
    have hv':valG told x=some v:=hv
    rw [hv'] at hk
    refine getI hv' ?_
    refine ifI (fun q=>getI hv' ?_) fun q=>?_
    · have q:decide ((1:Int) < ((((some v:Option (List Int)).getD []).length:Nat):Int))=true:=q
      unfold ifW at hk; rw [if_pos q] at hk; exact hk
    · have q:decide ((1:Int) < ((((some v:Option (List Int)).getD []).length:Nat):Int))=false:=q
      unfold ifW at hk; rw [if_neg (by rw [q]; decide)] at hk; exact hk
  have fl:∀ p:Sg→Bool,((zv sD (za told)).filter p).length≤250:=fun p=>Nat.le_trans (List.length_filter_le _ _) sl
  have f1:=fl fun x=>decide ((1:Int) < (((valG told x).getD []).length:Int))
  refine qo (by simp only [List.length_map]; omega) (asgI ?_)
  generalize hA:(zj9 told names).map (fun x=>zhl x ((valG told x).getD []) names)++((zv sD (za told)).filter fun x=>decide ((1:Int) < (((valG told x).getD []).length:Int))).map (fun x=>(eP3 sD sD (eL D.int)) (za1,x,(valG told x).getD []))=A at h ⊢
  have al:A.length≤1500:=by rw [← hA]; simp only [List.length_append,List.length_map]; omega
  refine ql (fun n (B:List D)=>B=A++((z5 gs).take n).filterMap (mgF lb)) (by simp) ?_ ?_
  · rintro n x B nx hx rfl hn
    have hi:=(List.getElem?_eq_some_iff.mp hx).1
    have tk:(z5 gs).take (n + 1)=(z5 gs).take n++[x]:=by rw [List.take_succ,hx]; rfl
    have bl:(((z5 gs).take n).filterMap (mgF lb)).length≤n:=Nat.le_trans (List.length_filterMap_le _ _) (by simp; omega)
    have hg:x.2∈gs:=by
      have:=List.mem_of_getElem? hx
      unfold z5 at this
      obtain ⟨a,ha,e⟩:=List.mem_map.mp this
      rw [← e]
      exact (List.mem_zipIdx' ha).2 ▸ List.getElem_mem _
    have lg:x.2.length≤250:=Nat.le_trans (List.sublist_flatten_of_mem hg).length_le G.tot
    refine qo (by omega) ?_
    refine ql (fun j (B:List (Sg×Bool))=>B.length≤j∧B=mtF lb (x.2.take j)) ⟨Nat.le_refl _,rfl⟩ ?_ ?_
    · rintro j i B nx2 hi2 ⟨j1,j2⟩ hn2
      have hj:=(List.getElem?_eq_some_iff.mp hi2).1
      have st:mtF lb (x.2.take (j + 1))=(match valG lb i with | some l=>putG B l true | none=>B):=by
        unfold mtF at j2 ⊢
        rw [List.take_succ,hi2,List.foldl_append,← j2]; rfl
      cases el:valG lb i with
      | none =>
        rw [el] at st
        exact ifF (by unfold hasG; rw [el]; rfl) (hn2 _ ⟨by omega,st.symm⟩)
      | some l =>
        rw [el] at st
        exact ifT (by unfold hasG; rw [el]; rfl) (getI el (putI (by omega) (hn2 _ ⟨Nat.le_trans (vo _ _ _) (by omega),st.symm⟩)))
    · rintro B ⟨j1,j2⟩
      rw [List.take_length] at j2
      subst j2
      refine qo (by omega) (asgI (ifI (fun q=>appI (by rw [List.length_append]; omega) (hn _ ?_)) fun q=>hn _ ?_))
      · rw [tk,List.filterMap_append,List.append_assoc]
        congr 2
        simp only [List.filterMap_cons,List.filterMap_nil]
        unfold mgF; rw [if_pos q]
      · rw [tk,List.filterMap_append]
        congr 1
        simp only [List.filterMap_cons,List.filterMap_nil]
        unfold mgF; rw [if_neg (by rw [q]; decide)]; simp
  · rintro B rfl
    rw [List.take_length]
    exact retI h
theorem zxr {lb:List (Int×Sg)} {gs:List (List Int)} {names:Names}:∀ d∈evF lb gs names,PureN 4 d∧eqvD d d=true:=fun d hd=>by
  unfold evF at hd
  rcases List.mem_append.mp hd with hd | hd
  · rcases List.mem_append.mp hd with hd | hd
    · obtain ⟨x,_,rfl⟩:=List.mem_map.mp hd
      unfold zhl
      split
      · exact zj3 (e:=eP3 sD sD D.int) (by decide) _
      · exact zj3 (e:=eP2 sD sD) (by decide) _
    · obtain ⟨x,_,rfl⟩:=List.mem_map.mp hd
      exact zj3 (e:=eP3 sD sD (eL D.int)) (by decide) _
  · obtain ⟨x,_,e⟩:=List.mem_filterMap.mp hd
    unfold mgF at e
    split at e
    · cases e; exact zj3 (e:=eP3 sD D.int (eL sD)) (by decide) _
    · cases e
/-! ### the law -/
theorem z0j {gs lb wt pn} (Dr:Drw gs lb wt pn):Grs gs∧gs.flatten.length≤9∧Wts gs wt:=by
  have h:=zav (m:=ids9) Dr.nd fun i hi=>Dr.rng i hi
  have h9:ids9.length=9:=rfl
  exact ⟨⟨by have:=Dr.gl; omega,Dr.nd,by omega⟩,by omega,fun i hi=>Dr.wk i (Dr.rng i hi)⟩
theorem zo7 {κ α:Type} [DecidableEq κ] [DecidableEq α] {t:List (κ×α)} (nd:(za t).Nodup):zac t t=true:=by
  unfold zac
  rw [Bool.and_eq_true,List.all_eq_true]
  exact ⟨by simp,fun q hq=>decide_eq_true (xt nd hq)⟩
theorem law_ok (ns:List Int) (hl:ns.length≤63) (hb:∀ z∈ns,Builtin.Int.intBits z≤1048576):znr ns (fun b=>b=true):=by
  have hz:=x9
  unfold znr
  refine zjw (by decide) (by decide) (z0b (fun s hs nx hnx=>?_) rfl)
  have hs':=mem_range.mp hs
  refine ⟨⟨hs'.1,by omega,hb⟩,asgI ?_⟩
  rw [e_dr,e_co,e_cn,e_rn]
  refine zve fun gs lb wt pn Dr=>asgI ?_
  obtain ⟨G,_,W⟩:=z0j Dr
  have pl:∀ p,some pn=some p→p.length≤100:=fun p e=>by cases e; have:=Dr.pl; omega
  refine zv2 G W pl fun C R N hC A=>asgI ?_
  refine zv2 G W pl fun C2 R2 N2 hC2 A2=>?_
  have eR:fn R2=fn R:=Carried.same (hC.trans hC2.symm ▸ A2) A (fun _=>rfl) (fun _=>rfl) rfl
  refine ifF (by rw [ztt A2.nd A.nd eR]; rfl) ?_
  have ht:∀ q∈R,∃ g,atI gs q.2=some g∧g∈gs:=fun q hq=>by
    have hv:fn R q.1=some q.2:=xt A.nd (show (q.1,q.2)∈R from hq)
    obtain ⟨i,hi⟩:∃ i,(q.2,i)∈gp gs:=by
      rcases A.cases G N hv with ⟨i,_,h,_⟩ | ⟨_,_,i,h⟩ <;> exact ⟨i,h⟩
    obtain ⟨m,g,em,hg,_⟩:=mem_gp.mp hi
    exact ⟨g,by rw [em]; exact atI_get hg,List.mem_of_getElem? hg⟩
  refine zt2 G A.len ht fun ndl=>zt2 G A.len ht fun _=>ifF (by rw [zo7 ndl]; rfl) ?_
  have pl2:pn.length≤100:=pl pn rfl
  refine zr1 G pl2 fun C3 N3 e3=>zr1 G pl2 fun C4 N4 e4=>ifF (by rw [e3,← e4,zo7 N4.nd]; rfl) ?_
  refine zt1 G (zt1 G (ifF (by rw [zu1]; rfl) ?_))
  refine zt6 G A.len (zt6 G A.len (zxp zxr (ifF rfl hnx)))
end K32
end Mv
namespace Mv
namespace K32
open PySem PySem.Spec PyProof.Rows L2
theorem hx80 {n:Nat} (h:n + 200 < cLine):n + 80 < cLine:=Nat.lt_of_le_of_lt (Nat.add_le_add_left (by decide:80≤200) n) h
theorem hx1 {n:Nat} (h:n + 200 < cLine):n + 1 < cLine:=Nat.lt_of_le_of_lt (Nat.add_le_add_left (by decide:1≤200) n) h
/-! ### what is asked of the classes -/
structure Txt [CTb] (K:Frag):Prop where
  ok:True:=trivial
section
variable [CTb]
def zfj:DS :=
 (dSeq (dAsg (d2 gAdd (dC (.int 19)) (dVar 1)) (gN 2))
 (dSeq (dFor (dIL (dVar 0)) (gN 3)
 (dAsg (d2 gAdd (d2 gMod (d2 gPow (d2 gAdd (d2 gMul (dVar 2) (dC (.int 40127))) (dVar 3)) (dC (.int 3))) (dC (.int 2147483629))) (dC (.int 1))) (gN 2)))
 (dSeq (dAsg (dC (.int 0)) (gN 4))
 (dSeq (dIfS (dAnd (dTst (d2 gLt (dVar 1) (d1V gLen (dVV 0)))) (dTst (d2 gGe (d2V gIx (dVV 0) (dVar 1)) (d2 gPow (dC (.int 10)) (dC (.int 18)))))) (dAsg (d2 gSub (d2V gIx (dVV 0) (dVar 1)) (d2 gPow (dC (.int 10)) (dC (.int 18)))) (gN 4)) vc)
 (dRet (znj (dLst (ze (dVar 4) (ze (dVar 2) dNil)))))))))
end
section
variable [CTb] {P:Program} {w:World} {K:Frag} {mg:Str→Option Value} {base:Heap}
theorem zk4 {f:Addr} {fd:FuncData} {sp:DSp} (T:Txt K)
    (F:Fun K "_law_stream" "_law_stream" jd f fd)
    (u1:mg "len" = none)
    (hs:∀ ds Q',ds.length=2→sp ds Q'→(zfj) { nx:=fun _=>Q' (.fz .non),rt:=Q' } (zp 5 ds)):FnOk P w K mg base CX0 1 f fd ["_law_script", "_law_start"] (spD K 2 sp):=by
  refine okD (k:=0) F zdz fun cdv A outer s H E hr=>?_
  have sc:=zdz
  have hu200:(A.deeper (envOfC "_law_stream" (defScope jd) s.heap.objs.size f cdv)).units + 200 < cLine:=by have:=hr.un; omega
  have hu80:=hx80 hu200
  have hu:=hx1 hu200
  exact ⟨(zfj),(zf (qe (i:=2) sc.nd rfl (by first | exact .inl rfl | exact .inr rfl) (v6 zj (pdv 1)))
 (zf (x8 PassesOwn.never rfl (zbh (pdv 0)) (zw (pg_name (i:=3) sc.nd rfl (by first | exact .inl rfl | exact .inr rfl)))
 (zm (qe (i:=2) sc.nd rfl (by first | exact .inl rfl | exact .inr rfl) (v6 (zd7 (zd8 (v6 (zcx (pdv 2) zj) (pdv 3)) zj) zj) zj))))
 (zf (qe (i:=4) sc.nd rfl (by first | exact .inl rfl | exact .inr rfl) zj)
 (zf (v7 ((zf3 (zzr (pdv 1) (ym (by rfl) u1 (vdv 0))) (zea (zvl (qj hu (vdv 0) (pdv 1)) (zd8 zj zj))))).pt (zm (qe (i:=4) sc.nd rfl (by first | exact .inl rfl | exact .inr rfl) (zf2 (qj hu (vdv 0) (pdv 1)) (zd8 zj zj)))) jz)
 (zm (vr (zzw (ui (pdc (pdv 4) (pdc (pdv 2) pdn)))))))))),hs⟩
theorem zo8 {f:Addr} {fd:FuncData} {sp:DSp} (T:Txt K)
    (F:Fun K "_law_draw" "_law_draw" vh f fd)
    (hs:∀ ds Q',ds.length=2→sp ds Q'→(zdw) { nx:=fun _=>Q' (.fz .non),rt:=Q' } (zp 3 ds)):FnOk P w K mg base CX0 1 f fd ["_law_stream_here", "_law_size"] (spD K 2 sp):=by
  refine okD (k:=0) F zfu fun cdv A outer s H E hr=>?_
  have sc:=zfu
  have hu200:(A.deeper (envOfC "_law_draw" (defScope vh) s.heap.objs.size f cdv)).units + 200 < cLine:=by have:=hr.un; omega
  have hu80:=hx80 hu200
  have hu:=hx1 hu200
  exact ⟨(zdw),(zf (v7 (zvl (zga (pdv 0) zj) (pdv 1)) (zf (qe (i:=2) sc.nd rfl (by first | exact .inl rfl | exact .inr rfl) (zd7 (zga (pdv 0) zj) (pdv 1)))
 (zf (vt (zr9 (zga (pdv 0) zj) (pdv 1)) (zqg (pdv 0) zj))
 (zm (zbg (pv 2))))) jz)
 (zf (vt (zd7 (v6 (zcx (zga (pdv 0) zj) zj) zj) zj) (zqg (pdv 0) zj))
 (zm (vr (zd7 (zr9 (zd7 (zd8 (zd7 (zd8 (zga (pdv 0) zj) zj) zj) zj) zj) zj) (pdv 1)))))),hs⟩
theorem zk5 {f:Addr} {fd:FuncData} {sp:DSp} (T:Txt K)
    (F:Fun K "_law_choose" "_law_choose" je f fd)
    {uf:Addr} {yz:FuncData} {zt:DSp}
    (jt:FnOk P w K mg base CX0 1 uf yz ["_law_stream_here", "_law_size"] (spD K 2 zt))
    (ju:mg "_law_draw" = some (.ref uf)) (jv:keepIn K (.ref uf)=true)
    (jw:Binds K yz ["_law_stream_here", "_law_size"] [])
    (u1:mg "len" = none)
    (hs:∀ ds Q',ds.length=2→sp ds Q'→(zb8 zt) { nx:=fun _=>Q' (.fz .non),rt:=Q' } (zp 2 ds)):FnOk P w K mg base CX0 2 f fd ["_law_stream_here", "_law_items"] (spD K 2 sp):=by
  refine okD (k:=1) F zd0 fun cdv A outer s H E hr=>?_
  have sc:=zd0
  have hu200:(A.deeper (envOfC "_law_choose" (defScope je) s.heap.objs.size f cdv)).units + 200 < cLine:=by have:=hr.un; omega
  have hu80:=hx80 hu200
  have hu:=hx1 hu200
  exact ⟨(zb8 zt),(zm (vr (qj hu (vdv 1) (xm (K:=K) (n:=2) (sp:=zt) (pe_call jt (hr.mono (by decide)) (by rfl) ju jv jw .nil pass0 (pdc (pdv 0) (pdc (ym (by rfl) u1 (vdv 1)) pdn))))))),hs⟩
theorem zmh {f:Addr} {fd:FuncData} {sp:DSp} (T:Txt K)
    (F:Fun K "_law_drawn" "_law_drawn" jy f fd)
    {uf:Addr} {yz:FuncData} {zt:DSp}
    (jt:FnOk P w K mg base CX0 1 uf yz ["_law_stream_here", "_law_size"] (spD K 2 zt))
    (ju:mg "_law_draw" = some (.ref uf)) (jv:keepIn K (.ref uf)=true)
    (jw:Binds K yz ["_law_stream_here", "_law_size"] [])
    {zb9:Addr} {zen:FuncData} {x5:DSp}
    (zfk:FnOk P w K mg base CX0 2 zb9 zen ["_law_stream_here", "_law_items"] (spD K 2 x5))
    (zfl:mg "_law_choose" = some (.ref zb9)) (zfm:keepIn K (.ref zb9)=true)
    (zfn:Binds K zen ["_law_stream_here", "_law_items"] [])
    (zcs:mg "range" = none)
    (zxs:mg "tuple" = none)
    (x0:mg "sorted" = none)
    (zr2:mg "int" = none)
    (u1:mg "len" = none)
    (zgn:mg "list" = none)
    (hs:∀ ds Q',ds.length=1→sp ds Q'→(yu zt x5) { nx:=fun _=>Q' (.fz .non),rt:=Q' } (zp 11 ds)):FnOk P w K mg base CX0 3 f fd ["_law_stream_here"] (spD K 1 sp):=by
  refine okD (k:=2) F zfd fun cdv A outer s H E hr=>?_
  have sc:=zfd
  have hu200:(A.deeper (envOfC "_law_drawn" (defScope jy) s.heap.objs.size f cdv)).units + 200 < cLine:=by have:=hr.un; omega
  have hu80:=hx80 hu200
  have hu:=hx1 hu200
  exact ⟨(yu zt x5),(zf (zkr (i:=1) (j:=2) rfl sc.nd rfl rfl (by decide) rfl rfl (mmo (zrl rfl (by rfl) zgn (by rfl) zcs zj zj) (mmf (pfz (ui pdn)) mmn)) rfl)
 (zf (x8 PassesOwn.never rfl (zkp (by rfl) zcs (pdc (xm (K:=K) (n:=2) (sp:=zt) (pe_call jt (hr.mono (by decide)) (by rfl) ju jv jw .nil pass0 (pdc (pdv 0) (pdc zj pdn)))) pdn)) (zw (pg_name (i:=3) sc.nd rfl (by first | exact .inl rfl | exact .inr rfl)))
 (zf (y2 (i:=4) sc.nd rfl (by first | exact .inl rfl | exact .inr rfl) (ui pdn))
 (zf (x8 PassesOwn.never rfl (zkp (by rfl) zcs (pdc (v6 zj (xm (K:=K) (n:=2) (sp:=zt) (pe_call jt (hr.mono (by decide)) (by rfl) ju jv jw .nil pass0 (pdc (pdv 0) (pdc zj pdn))))) pdn)) (zw (pg_name (i:=5) sc.nd rfl (by first | exact .inl rfl | exact .inr rfl)))
 (zm (v7 (qcm (za3 hu80) (vdv 1) (vf (pfz (ui pdn))) (nomark _)) (zm (znw (pe_bm PySem.F.plainAttrs_list PySem.F.slot_list_append PySem.F.type_list_append mt_append (pv 4) (pa_cons (zue (pe_bm PySem.F.plainAttrs_list PySem.F.slot_list_pop PySem.F.type_list_pop mt_popAt (pv 1) (pa_cons (xm (K:=K) (n:=2) (sp:=zt) (pe_call jt (hr.mono (by decide)) (by rfl) ju jv jw .nil pass0 (pdc (pdv 0) (pdc (ym (by rfl) u1 (vdv 1)) pdn)))) pa_nil))) pa_nil)))) jz)))
 (zm (qe (i:=2) sc.nd rfl (by first | exact .inl rfl | exact .inr rfl) (pfz (pb2O zwg (vdv 2) (vf (pfz (zyb (ui (pdc (pct (zwh) (by rfl) zxs (by decide +kernel) (vvc (vf (pfz (pcbO (ut rfl hu200) (by rfl) x0 (by decide +kernel) (vvc (vdv 4) vvn)))) vvn)) pdn)) (pct (zvo) (by rfl) zr2 (by decide +kernel) (vvc (vf (pcm (za3 hu80) (vdv 4) (vf (pfz (ui pdn))) (nomark _))) vvn))))))))))))
 (zf (zkr (i:=6) (j:=7) rfl sc.nd rfl rfl (by decide) rfl rfl (mmo v3 (mmo v3 mmn)) rfl)
 (zf (x8 PassesOwn.never rfl (zwb (by rfl) zcs (pdc zj (pdc zj pdn))) (zw (pg_name (i:=8) sc.nd rfl (by first | exact .inl rfl | exact .inr rfl)))
 (zf (v7 (znf (xm (K:=K) (n:=2) (sp:=zt) (pe_call jt (hr.mono (by decide)) (by rfl) ju jv jw .nil pass0 (pdc (pdv 0) (pdc zj pdn)))) zj) (zm (vt (xm (K:=K) (n:=2) (sp:=x5) (pe_call zfk (hr.mono (by decide)) (by rfl) zfl zfm zfn .nil pass0 (pdc (pdv 0) (pdc (pfz (ui (pdc vg (pdc vg (pdc vg (pdc vg pdn)))))) pdn)))) (u4 hu (pv 6) (pdv 8)))) jz)
 (zm (vt (xm (K:=K) (n:=2) (sp:=x5) (pe_call zfk (hr.mono (by decide)) (by rfl) zfl zfm zfn .nil pass0 (pdc (pdv 0) (pdc (pfz (ui (pdc zj (pdc zj (pdc zj (pdc zj (pdc (v6 zj (xm (K:=K) (n:=2) (sp:=zt) (pe_call jt (hr.mono (by decide)) (by rfl) ju jv jw .nil pass0 (pdc (pdv 0) (pdc zj pdn))))) (pdc (zd8 zj zj) pdn)))))))) pdn)))) (u4 hu (pv 7) (pdv 8))))))
 (zf (y2 (i:=9) sc.nd rfl (by first | exact .inl rfl | exact .inr rfl) v3)
 (zf (x8 PassesOwn.never rfl (zbh (pfz (ui (pdc vg (pdc vg (pdc vg (pdc vg (pdc vg pdn)))))))) (zw (pg_name (i:=10) sc.nd rfl (by first | exact .inl rfl | exact .inr rfl)))
 (zm (v7 (qcm (zsh hu80) (vf (xm (K:=K) (n:=2) (sp:=zt) (pe_call jt (hr.mono (by decide)) (by rfl) ju jv jw .nil pass0 (pdc (pdv 0) (pdc zj pdn))))) (vf zj) (nomark _)) (zm (vt (v6 zj (xm (K:=K) (n:=2) (sp:=zt) (pe_call jt (hr.mono (by decide)) (by rfl) ju jv jw .nil pass0 (pdc (pdv 0) (pdc zj pdn))))) (u4 hu (pv 9) (pdv 10)))) jz)))
 (zm (vr (zbt (pdc (pdv 2) (pdc (pdv 6) (pdc (pdv 7) (pdc (pdv 9) pdn))))))))))))),hs⟩
theorem zo9 {f:Addr} {fd:FuncData} {sp:DSp} (T:Txt K)
    (F:Fun K "places_of" "places_of" jo f fd)
    (jx:mg "enumerate" = none)
    (hs:∀ ds Q',ds.length=1→sp ds Q'→(zaf) { nx:=fun _=>Q' (.fz .non),rt:=Q' } (zp 4 ds)):FnOk P w K mg base CX0 1 f fd ["groups"] (spD K 1 sp):=by
  refine okD (k:=0) F zfv fun cdv A outer s H E hr=>?_
  have sc:=zfv
  have hu200:(A.deeper (envOfC "places_of" (defScope jo) s.heap.objs.size f cdv)).units + 200 < cLine:=by have:=hr.un; omega
  have hu80:=hx80 hu200
  have hu:=hx1 hu200
  exact ⟨(zaf),(zm (zax (zhd (dcu2 (own:=[("place", 1),("group", 2),("row_id", 3)]) (vs1:=[3]) .k rfl sc.nd hu (zec (by rfl) jx (pdc (pdv 0) pdn)) (blkOk_by (own:=[("place", 1),("group", 2),("row_id", 3)]) (N:=zhn) (sc:=defScope jo) (by decide +kernel)) (fun _ _ _ _ _=>(pg_tup rfl (pgs_cons (pg_name (i:=1) sc.nd rfl (by first | exact .inl rfl | exact .inr rfl)) (pgs_cons (pg_name (i:=2) sc.nd rfl (by first | exact .inl rfl | exact .inr rfl)) pgs_nil)) (by rfl) (by rfl))) (fun _ _ _ _ _=>vi) (fun _ _ _ _ _=>(zeb (pdv 2))) (fun _ _ _ _ _=>(pg_name (i:=3) sc.nd rfl (by first | exact .inl rfl | exact .inr rfl))) (fun _ _ _ _ _=>vi) (fun _ _ _ _ _=>(pdv 3)) (fun _ _ _ _ _=>(pdv 1)) (zf6 (ue xn (ue xn zee))) xn (by decide))))),hs⟩
theorem zif {f:Addr} {fd:FuncData} {sp:DSp} (T:Txt K)
    (F:Fun K "counting_pins" "counting_pins" xq f fd)
    {xu:Addr} {j9:FuncData} {zo:DSp}
    (zaj:FnOk P w K mg base CX0 1 xu j9 ["groups"] (spD K 1 zo))
    (zak:mg "places_of" = some (.ref xu)) (zal:keepIn K (.ref xu)=true)
    (zam:Binds K j9 ["groups"] [])
    (x0:mg "sorted" = none)
    (hs:∀ ds Q',ds.length=2→sp ds Q'→(ub zo) { nx:=fun _=>Q' (.fz .non),rt:=Q' } (zp 7 ds)):FnOk P w K mg base CX0 2 f fd ["groups", "pins"] (spD K 2 sp):=by
  refine okD (k:=1) F zct fun cdv A outer s H E hr=>?_
  have sc:=zct
  have hu200:(A.deeper (envOfC "counting_pins" (defScope xq) s.heap.objs.size f cdv)).units + 200 < cLine:=by have:=hr.un; omega
  have hu80:=hx80 hu200
  have hu:=hx1 hu200
  exact ⟨(ub zo),(zf (qe (i:=2) sc.nd rfl (by first | exact .inl rfl | exact .inr rfl) (xm (K:=K) (n:=1) (sp:=zo) (pe_call zaj (hr.mono (by decide)) (by rfl) zak zal zam .nil pass0 (pdc (pdv 0) pdn))))
 (zf (y2 (i:=3) sc.nd rfl (by first | exact .inl rfl | exact .inr rfl) v3)
 (zf (y2 (i:=4) sc.nd rfl (by first | exact .inl rfl | exact .inr rfl) v3)
 (zf (x8 PassesOwn.never rfl (zbh (pfz (pcbO (ut rfl hu200) (by rfl) x0 (by decide +kernel) (vvc (vdv 1) vvn)))) (zw (pg_name (i:=5) sc.nd rfl (by first | exact .inl rfl | exact .inr rfl)))
 (zf (qe (i:=6) sc.nd rfl (by first | exact .inl rfl | exact .inr rfl) (zg9 hu (vdv 2) (qj hu (vdv 1) (pdv 5))))
 (zm (v7 ((zf3 (zv9 (pdv 6) ziy) (zea (zwo hu (pdv 6) (vdv 4))))).pt (zf (vt (pdv 5) (u4 hu (pv 4) (pdv 6)))
 (zm (vt (qj hu (vdv 1) (pdv 5)) (u4 hu (pv 3) (pdv 5))))) jz))))
 (zm (zbg (pv 3))))))),hs⟩
theorem zk6 {f:Addr} {fd:FuncData} {sp:DSp} (T:Txt K)
    (F:Fun K "row_entries" "row_entries" jf f fd)
    (x0:mg "sorted" = none)
    (hs:∀ ds Q',ds.length=1→sp ds Q'→(u7) { nx:=fun _=>Q' (.fz .non),rt:=Q' } (zp 3 ds)):FnOk P w K mg base CX0 1 f fd ["entries"] (spD K 1 sp):=by
  refine okD (k:=0) F zd1 fun cdv A outer s H E hr=>?_
  have sc:=zd1
  have hu200:(A.deeper (envOfC "row_entries" (defScope jf) s.heap.objs.size f cdv)).units + 200 < cLine:=by have:=hr.un; omega
  have hu80:=hx80 hu200
  have hu:=hx1 hu200
  exact ⟨(u7),(zf (zn8 (i:=1) sc.nd rfl (by first | exact .inl rfl | exact .inr rfl))
 (zf (x8 PassesOwn.never rfl (zbh (pfz (pcbO (ut rfl hu200) (by rfl) x0 (by decide +kernel) (vvc (vdv 0) vvn)))) (zw (pg_name (i:=2) sc.nd rfl (by first | exact .inl rfl | exact .inr rfl)))
 (zf (zsy (pe_dsetd (pv 1) (qj hu (vdv 2) zj) v3 ⟨rfl,rfl,rfl,rfl⟩))
 (zm (vt (qj hu (vdv 0) (pdv 2)) (zwq hu (pv 1) (qj hu (vdv 2) zj) (qj hu (vdv 2) zj))))))
 (zm (vr (zqj (pv 1)))))),hs⟩
theorem zmi {f:Addr} {fd:FuncData} {sp:DSp} (T:Txt K)
    (F:Fun K "best_moves" "best_moves" x6 f fd)
    (hs:∀ ds Q',ds.length=3→sp ds Q'→(yv) { nx:=fun _=>Q' (.fz .non),rt:=Q' } (zp 12 ds)):FnOk P w K mg base CX0 1 f fd ["rows", "pairs", "owners"] (spD K 3 sp):=by
  refine okD (k:=0) F zfe fun cdv A outer s H E hr=>?_
  have sc:=zfe
  have hu200:(A.deeper (envOfC "best_moves" (defScope x6) s.heap.objs.size f cdv)).units + 200 < cLine:=by have:=hr.un; omega
  have hu80:=hx80 hu200
  have hu:=hx1 hu200
  exact ⟨(yv),(zf (zso (i:=3) sc.nd rfl rfl (zvr rfl rfl rfl (by decide +kernel)) (dcu1 (own:=[("row", 4)]) .k rfl sc.nd hu (zg7 (pdv 0)) (blkOk_by (own:=[("row", 4)]) (N:=zfw) (sc:=defScope x6) (by decide +kernel)) (fun _ _ _ _ _=>(pg_name (i:=4) sc.nd rfl (by first | exact .inl rfl | exact .inr rfl))) (fun _ _ _ _ _=>vi) (fun _ _ _ _ _=>(pdv 4)) (fun _ _ _ _ _=>zj) xn))
 (zf (y2 (i:=5) sc.nd rfl (by first | exact .inl rfl | exact .inr rfl) v3)
 (zf (qe (i:=6) sc.nd rfl (by first | exact .inl rfl | exact .inr rfl) zao)
 (zf (zny PassesOwn.never (qt (pdv 6))
 (zf (qe (i:=6) sc.nd rfl (by first | exact .inl rfl | exact .inr rfl) zao)
 (zm (x8 PassesOwn.never rfl (zcz (pdv 0)) (u3 rfl (zy (zw (pg_name (i:=4) sc.nd rfl (by first | exact .inl rfl | exact .inr rfl))) (zy (zw (pg_name (i:=7) sc.nd rfl (by first | exact .inl rfl | exact .inr rfl))) v4)))
 (zm (x8 PassesOwn.never rfl (zcz (pdv 7)) (u3 rfl (zy (zw (pg_name (i:=8) sc.nd rfl (by first | exact .inl rfl | exact .inr rfl))) (zy (zw (pg_name (i:=9) sc.nd rfl (by first | exact .inl rfl | exact .inr rfl))) v4)))
 (zf (qe (i:=10) sc.nd rfl (by first | exact .inl rfl | exact .inr rfl) (pdv 9))
 (zf (v7 (zg6 hu (pdv 8) (vdv 2)) (zf (qe (i:=11) sc.nd rfl (by first | exact .inl rfl | exact .inr rfl) (qj hu (vdv 2) (pdv 8)))
 (zm (zyf (i:=10) sc.nd rfl (by first | exact .inl rfl | exact .inr rfl) (zf2 (qj hu (vdv 3) (pdv 11)) (qj hu (vf (qj hu (vdv 0) (pdv 11))) (pdv 8))) L2.ip_add))) jz)
 (zm (v7 ((zf3 (znf (pdv 10) (qj hu (vdv 3) (pdv 4))) (zea (qcm (za3 hu80) (vf (zg9 hu (vdv 1) (pdv 4))) (vdv 8) (nomark _))))).pt (zf (vt (zbt (pdc (pdv 10) (pdc (pdv 8) pdn))) (u3 rfl (zy (u4 hu (pv 3) (pdv 4)) (zy (u4 hu (pv 5) (pdv 4)) v4))))
 (zm (qe (i:=6) sc.nd rfl (by first | exact .inl rfl | exact .inr rfl) zao))) jz))))))))))
 (zm (zbg (pv 5))))))),hs⟩
theorem zhm {f:Addr} {fd:FuncData} {sp:DSp} (T:Txt K)
    (F:Fun K "greatest_pairs" "greatest_pairs" xj f fd)
    {zca:Addr} {zeo:FuncData} {qu:DSp}
    (zmj:FnOk P w K mg base CX0 1 zca zeo ["entries"] (spD K 1 qu))
    (zmk:mg "row_entries" = some (.ref zca)) (zml:keepIn K (.ref zca)=true)
    (zmm:Binds K zeo ["entries"] [])
    {zc5:Addr} {zfo:FuncData} {xg:DSp}
    (zpa:FnOk P w K mg base CX0 1 zc5 zfo ["rows", "pairs", "owners"] (spD K 3 xg))
    (zpb:mg "best_moves" = some (.ref zc5)) (zpc:keepIn K (.ref zc5)=true)
    (zpd:Binds K zfo ["rows", "pairs", "owners"] [])
    (hs:∀ ds Q',ds.length=1→sp ds Q'→(v0 qu xg) { nx:=fun _=>Q' (.fz .non),rt:=Q' } (zp 11 ds)):FnOk P w K mg base CX0 2 f fd ["entries"] (spD K 1 sp):=by
  refine okD (k:=1) F zch fun cdv A outer s H E hr=>?_
  have sc:=zch
  have hu200:(A.deeper (envOfC "greatest_pairs" (defScope xj) s.heap.objs.size f cdv)).units + 200 < cLine:=by have:=hr.un; omega
  have hu80:=hx80 hu200
  have hu:=hx1 hu200
  exact ⟨(v0 qu xg),(zf (qe (i:=1) sc.nd rfl (by first | exact .inl rfl | exact .inr rfl) (xm (K:=K) (n:=1) (sp:=qu) (pe_call zmj (hr.mono (by decide)) (by rfl) zmk zml zmm .nil pass0 (pdc (pdv 0) pdn))))
 (zf (zwi (i:=2) (j:=3) (l:=4) rfl sc.nd rfl rfl rfl (by decide) (by decide) (by decide) rfl rfl rfl (mmo v3 (mmo v3 (mmo v3 mmn))) rfl)
 (zf (x8 PassesOwn.never rfl (zcz (pdv 1)) (u3 rfl (zy (zw (pg_name (i:=5) sc.nd rfl (by first | exact .inl rfl | exact .inr rfl))) (zy (zw (pg_name (i:=6) sc.nd rfl (by first | exact .inl rfl | exact .inr rfl))) v4)))
 (zf (vt (pdv 6) (u4 hu (pv 2) (pdv 5)))
 (zf (qe (i:=7) sc.nd rfl (by first | exact .inl rfl | exact .inr rfl) (pfz (zwr [2,3,4] (zsc (K:=K) (n:=3) (sp:=xg) (pe_call zpa (hr.mono (by decide)) (by rfl) zpb zpc zpd .nil pass0 (pdc (pdv 2) (pdc (pdv 3) (pdc (pdv 4) pdn))))))))
 (zf (qe (i:=8) sc.nd rfl (by first | exact .inl rfl | exact .inr rfl) (pdv 5))
 (zf (zny PassesOwn.never (zyk hu (pdv 8) (vdv 7))
 (zf (qe (i:=9) sc.nd rfl (by first | exact .inl rfl | exact .inr rfl) (qj hu (vdv 7) (pdv 8)))
 (zf (qe (i:=10) sc.nd rfl (by first | exact .inl rfl | exact .inr rfl) (zg9 hu (vdv 4) (pdv 9)))
 (zf (vt (zbt (pdc (pdv 9) (pdc (pdv 8) pdn))) (u3 rfl (zy (u4 hu (pv 3) (pdv 8)) (zy (u4 hu (pv 4) (pdv 9)) v4))))
 (zm (qe (i:=8) sc.nd rfl (by first | exact .inl rfl | exact .inr rfl) (pdv 10)))))))
 (zm (zwa (zwp (zup (pv 3) (pdv 8) ziy)))))))))
 (zm (zbg (pv 3)))))),hs⟩
theorem zk7 {f:Addr} {fd:FuncData} {sp:DSp} (T:Txt K)
    (F:Fun K "table_names" "table_names" xw f fd)
    (x0:mg "sorted" = none)
    (hs:∀ ds Q',ds.length=1→sp ds Q'→(u8) { nx:=fun _=>Q' (.fz .non),rt:=Q' } (zp 3 ds)):FnOk P w K mg base CX0 1 f fd ["table"] (spD K 1 sp):=by
  refine okD (k:=0) F zd2 fun cdv A outer s H E hr=>?_
  have sc:=zd2
  have hu200:(A.deeper (envOfC "table_names" (defScope xw) s.heap.objs.size f cdv)).units + 200 < cLine:=by have:=hr.un; omega
  have hu80:=hx80 hu200
  have hu:=hx1 hu200
  exact ⟨(u8),(zm (zax (pcbO (ut rfl hu200) (by rfl) x0 (by decide +kernel) (vvc (vf (pfz (zhd (dcu1 (own:=[("name", 1),("place", 2)]) .k rfl sc.nd hu (zg7 (pdv 0)) (blkOk_by (own:=[("name", 1),("place", 2)]) (N:=zff) (sc:=defScope xw) (by decide +kernel)) (fun _ _ _ _ _=>(pg_tup rfl (pgs_cons (pg_name (i:=1) sc.nd rfl (by first | exact .inl rfl | exact .inr rfl)) (pgs_cons (pg_name (i:=2) sc.nd rfl (by first | exact .inl rfl | exact .inr rfl)) pgs_nil)) (by rfl) (by rfl))) (fun _ _ _ _ _=>vi) (fun _ _ _ _ _=>(pdv 1)) (fun _ _ _ _ _=>zao) (zf6 (ue xn (ue xn zee))))))) vvn)))),hs⟩
theorem zka {f:Addr} {fd:FuncData} {sp:DSp} (T:Txt K)
    (F:Fun K "table_places" "table_places" xl f fd)
    (x0:mg "sorted" = none)
    (hs:∀ ds Q',ds.length=1→sp ds Q'→(um) { nx:=fun _=>Q' (.fz .non),rt:=Q' } (zp 3 ds)):FnOk P w K mg base CX0 1 f fd ["table"] (spD K 1 sp):=by
  refine okD (k:=0) F zde fun cdv A outer s H E hr=>?_
  have sc:=zde
  have hu200:(A.deeper (envOfC "table_places" (defScope xl) s.heap.objs.size f cdv)).units + 200 < cLine:=by have:=hr.un; omega
  have hu80:=hx80 hu200
  have hu:=hx1 hu200
  exact ⟨(um),(zm (zax (pcbO (ut rfl hu200) (by rfl) x0 (by decide +kernel) (vvc (vf (pfz (zhd (dcu1 (own:=[("name", 1),("place", 2)]) .k rfl sc.nd hu (zg7 (pdv 0)) (blkOk_by (own:=[("name", 1),("place", 2)]) (N:=zd3) (sc:=defScope xl) (by decide +kernel)) (fun _ _ _ _ _=>(pg_tup rfl (pgs_cons (pg_name (i:=1) sc.nd rfl (by first | exact .inl rfl | exact .inr rfl)) (pgs_cons (pg_name (i:=2) sc.nd rfl (by first | exact .inl rfl | exact .inr rfl)) pgs_nil)) (by rfl) (by rfl))) (fun _ _ _ _ _=>vi) (fun _ _ _ _ _=>(pdv 2)) (fun _ _ _ _ _=>zao) (zf6 (ue xn (ue xn zee))))))) vvn)))),hs⟩
theorem zk8 {f:Addr} {fd:FuncData} {kws:List (Str×V)} {sp:DSp} (T:Txt K)
    (F:FunD K "exact_table" "exact_table" (defArgs q9) (defBody q9) (defScope q9) [] kws f fd)
    {zcb:Addr} {zep:FuncData} {qv:DSp}
    (zmn:FnOk P w K mg base CX0 1 zcb zep ["table"] (spD K 1 qv))
    (zmo:mg "table_names" = some (.ref zcb)) (zmp:keepIn K (.ref zcb)=true)
    (zmq:Binds K zep ["table"] [])
    {zbn:Addr} {zdr:FuncData} {qh:DSp}
    (zk9:FnOk P w K mg base CX0 1 zbn zdr ["table"] (spD K 1 qh))
    (zla:mg "table_places" = some (.ref zbn)) (zlb:keepIn K (.ref zbn)=true)
    (zlc:Binds K zdr ["table"] [])
    (u1:mg "len" = none)
    (zr2:mg "int" = none)
    (hs:∀ ds Q',ds.length=2→sp ds Q'→(u9 qv qh) { nx:=fun _=>Q' (.fz .non),rt:=Q' } (zp 13 ds)):FnOk P w K mg base CX0 2 f fd ["table", "homes"] (spD K 2 sp):=by
  refine okDK (st:=q9) (k:=1) F zd4 fun cdv A outer s H E hr=>?_
  have sc:=zd4
  have hu200:(A.deeper (envOfC "exact_table" (defScope q9) s.heap.objs.size f cdv)).units + 200 < cLine:=by have:=hr.un; omega
  have hu80:=hx80 hu200
  have hu:=hx1 hu200
  exact ⟨(u9 qv qh),(zf (zkr (i:=2) (j:=3) rfl sc.nd rfl rfl (by decide) rfl rfl (mmf (xm (K:=K) (n:=1) (sp:=qv) (pe_call zmn (hr.mono (by decide)) (by rfl) zmo zmp zmq .nil pass0 (pdc (pdv 0) pdn))) (mmf (xm (K:=K) (n:=1) (sp:=qh) (pe_call zk9 (hr.mono (by decide)) (by rfl) zla zlb zlc .nil pass0 (pdc (pdv 0) pdn))) mmn)) rfl)
 (zf (y2 (i:=4) sc.nd rfl (by first | exact .inl rfl | exact .inr rfl) (ui (pdc zj pdn)))
 (zf (x8 PassesOwn.never rfl (zbh (pdv 2)) (zw (pg_name (i:=5) sc.nd rfl (by first | exact .inl rfl | exact .inr rfl)))
 (zm (znw (pe_bm PySem.F.plainAttrs_list PySem.F.slot_list_append PySem.F.type_list_append mt_append (pv 4) (pa_cons (zcx (qj hu (vdv 4) (zx5 zj)) (v6 (ym (by rfl) u1 (vdv 3)) zj)) pa_nil)))))
 (zf (y2 (i:=6) sc.nd rfl (by first | exact .inl rfl | exact .inr rfl) zp7)
 (zf (x8 PassesOwn.never rfl (zss (pdv 0)) (u3 rfl (zy (zw (pg_name (i:=7) sc.nd rfl (by first | exact .inl rfl | exact .inr rfl))) (zy (zw (pg_name (i:=8) sc.nd rfl (by first | exact .inl rfl | exact .inr rfl))) v4)))
 (zf (vt (pdv 7) (u3 rfl (zy (zw (pg_name (i:=5) sc.nd rfl (by first | exact .inl rfl | exact .inr rfl))) (zy (zw (pg_name (i:=9) sc.nd rfl (by first | exact .inl rfl | exact .inr rfl))) v4))))
 (zf (qe (i:=10) sc.nd rfl (by first | exact .inl rfl | exact .inr rfl) (zsb (zv8 (pdv 1) ziy) (zsb (zzt hu (pdv 5) (vdv 1)) (zx7 (pcm (zsh hu80) (vf (qj hu (vdv 1) (pdv 5))) (vdv 9) (nomark _))))))
 (zf (qe (i:=11) sc.nd rfl (by first | exact .inl rfl | exact .inr rfl) (zcx (zf2 (ym (by rfl) u1 (vdv 3)) (zn6 (i:=dVV 0) (pe_bm PySem.F.plainAttrs_list PySem.F.slot_list_index PySem.F.type_list_index mt_index (vdv 3) (pa_cons (pdv 9) pa_nil)))) (qj hu (vdv 4) (zf2 (zf2 (ym (by rfl) u1 (vdv 2)) zj) (zn6 (i:=dVV 0) (pe_bm PySem.F.plainAttrs_list PySem.F.slot_list_index PySem.F.type_list_index mt_index (vdv 2) (pa_cons (pdv 5) pa_nil)))))))
 (zf (qe (i:=12) sc.nd rfl (by first | exact .inl rfl | exact .inr rfl) (v6 (zcx (v6 (zcx (pdv 8) (v6 (ym (by rfl) u1 (vdv 2)) zj)) zj) (v6 (ym (by rfl) u1 (vdv 2)) zj)) (pct (zvo) (by rfl) zr2 (by decide +kernel) (vvc (vdv 10) vvn))))
 (zm (vt (v6 (zcx (pdv 12) (qj hu (vdv 4) (ym (by rfl) u1 (vdv 2)))) (pdv 11)) (u4 hu (pv 6) (pdv 7)))))))))
 (zm (zbg (pv 6)))))))),hs⟩
theorem zig {f:Addr} {fd:FuncData} {kws:List (Str×V)} {sp:DSp} (T:Txt K)
    (F:FunD K "best_carrying" "best_carrying" (defArgs qg) (defBody qg) (defScope qg) [] kws f fd)
    {zaw:Addr} {zci:FuncData} {z6:DSp}
    (zih:FnOk P w K mg base CX0 2 zaw zci ["entries"] (spD K 1 z6))
    (zii:mg "greatest_pairs" = some (.ref zaw)) (zij:keepIn K (.ref zaw)=true)
    (zik:Binds K zci ["entries"] [])
    {zcc:Addr} {zeq:FuncData} {qw:DSp}
    (zmr:FnOk P w K mg base CX0 2 zcc zeq ["table", "homes"] (spD K 2 qw))
    (zms:mg "exact_table" = some (.ref zcc)) (zmt:keepIn K (.ref zcc)=true)
    {zil:List Value} {zc6:List V} (zim:KBn K zeq ["table", "homes"] 1 ["homes"] (fun us ws=>ord3 [(0,0),(2,0)] us zil ws) (fun vs zs=>ord3 [(0,0),(2,0)] vs zc6 zs)) (zin:∀ F,RepL K F zc6 [])
    (hs:∀ ds Q',ds.length=2→sp ds Q'→(uc z6 qw) { nx:=fun _=>Q' (.fz .non),rt:=Q' } (zp 2 ds)):FnOk P w K mg base CX0 3 f fd ["table", "homes"] (spD K 2 sp):=by
  refine okDK (st:=qg) (k:=2) F zcu fun cdv A outer s H E hr=>?_
  have sc:=zcu
  have hu200:(A.deeper (envOfC "best_carrying" (defScope qg) s.heap.objs.size f cdv)).units + 200 < cLine:=by have:=hr.un; omega
  have hu80:=hx80 hu200
  have hu:=hx1 hu200
  exact ⟨(uc z6 qw),(zm (zax (zsc (K:=K) (n:=1) (sp:=z6) (pe_call zih (hr.mono (by decide)) (by rfl) zii zij zik .nil pass0 (pdc (za4 (K:=K) (n:=1) (m:=1) (N:=2) (sp:=qw) (pe_callN (ks:=["homes"]) zmr (hr.mono (by decide)) (by rfl) zms zmt zim pass0 (pdc (pdv 0) pdn) (pkdc (pdv 1) pkdn)) (y7 zin)) pdn))))),hs⟩
theorem zr3 {f:Addr} {fd:FuncData} {kws:List (Str×V)} {sp:DSp} (T:Txt K)
    (F:FunD K "without" "without" (defArgs jg) (defBody jg) (defScope jg) [] kws f fd)
    (hs:∀ ds Q',ds.length=3→sp ds Q'→(zb3) { nx:=fun _=>Q' (.fz .non),rt:=Q' } (zp 4 ds)):FnOk P w K mg base CX0 1 f fd ["table", "names", "places"] (spD K 3 sp):=by
  refine okDK (st:=jg) (k:=0) F ziw fun cdv A outer s H E hr=>?_
  have sc:=ziw
  have hu200:(A.deeper (envOfC "without" (defScope jg) s.heap.objs.size f cdv)).units + 200 < cLine:=by have:=hr.un; omega
  have hu80:=hx80 hu200
  have hu:=hx1 hu200
  exact ⟨(zb3),(zm (zax (zhd (dcu1 (own:=[("key", 3)]) .t rfl sc.nd hu (zg7 (pdv 0)) (blkOk_by (own:=[("key", 3)]) (N:=zlp) (sc:=defScope jg) (by decide +kernel)) (fun _ _ _ _ _=>(pg_name (i:=3) sc.nd rfl (by first | exact .inl rfl | exact .inr rfl))) (fun _ _ _ _ _=>(zdh ((zf3 (zqk hu (qj hu (vdv 3) zj) (vdv 1)) (zea (zqk hu (qj hu (vdv 3) zj) (vdv 2))))).pt)) (fun _ _ _ _ _=>(pdv 3)) (fun _ _ _ _ _=>(qj hu (vdv 0) (pdv 3))) xn)))),hs⟩
theorem zld {f:Addr} {fd:FuncData} {sp:DSp} (T:Txt K)
    (F:Fun K "label_table" "label_table" jh f fd)
    (jx:mg "enumerate" = none)
    (hs:∀ ds Q',ds.length=3→sp ds Q'→(ya) { nx:=fun _=>Q' (.fz .non),rt:=Q' } (zp 8 ds)):FnOk P w K mg base CX0 1 f fd ["labels", "groups", "weights"] (spD K 3 sp):=by
  refine okD (k:=0) F zd5 fun cdv A outer s H E hr=>?_
  have sc:=zd5
  have hu200:(A.deeper (envOfC "label_table" (defScope jh) s.heap.objs.size f cdv)).units + 200 < cLine:=by have:=hr.un; omega
  have hu80:=hx80 hu200
  have hu:=hx1 hu200
  exact ⟨(ya),(zf (y2 (i:=3) sc.nd rfl (by first | exact .inl rfl | exact .inr rfl) zp7)
 (zf (x8 PassesOwn.never rfl (zec (by rfl) jx (pdc (pdv 1) pdn)) (u3 rfl (zy (zw (pg_name (i:=4) sc.nd rfl (by first | exact .inl rfl | exact .inr rfl))) (zy (zw (pg_name (i:=5) sc.nd rfl (by first | exact .inl rfl | exact .inr rfl))) v4)))
 (zm (x8 PassesOwn.never rfl (zeb (pdv 5)) (zw (pg_name (i:=6) sc.nd rfl (by first | exact .inl rfl | exact .inr rfl)))
 (zm (v7 (zg6 hu (pdv 6) (vdv 0)) (zf (qe (i:=7) sc.nd rfl (by first | exact .inl rfl | exact .inr rfl) (zbt (pdc (qj hu (vdv 0) (pdv 6)) (pdc (pdv 4) pdn))))
 (zm (vt (v6 (zqb hu (vdv 3) (pdv 7) zj) (qj hu (vdv 2) (pdv 6))) (u4 hu (pv 3) (pdv 7))))) jz)))))
 (zm (zbg (pv 3))))),hs⟩
theorem zmu {f:Addr} {fd:FuncData} {sp:DSp} (T:Txt K)
    (F:Fun K "open_table" "open_table" x7 f fd)
    {xu:Addr} {j9:FuncData} {zo:DSp}
    (zaj:FnOk P w K mg base CX0 1 xu j9 ["groups"] (spD K 1 zo))
    (zak:mg "places_of" = some (.ref xu)) (zal:keepIn K (.ref xu)=true)
    (zam:Binds K j9 ["groups"] [])
    {zgo:Addr} {zkb:FuncData} {ja:DSp}
    (zt7:FnOk P w K mg base CX0 1 zgo zkb ["table", "names", "places"] (spD K 3 ja))
    (zt8:mg "without" = some (.ref zgo)) (zt9:keepIn K (.ref zgo)=true)
    {zpe:List Value} {zgp:List V} (zpf:KBn K zkb ["table", "names", "places"] 1 ["names", "places"] (fun us ws=>ord3 [(0,0),(2,0),(2,1)] us zpe ws) (fun vs zs=>ord3 [(0,0),(2,0),(2,1)] vs zgp zs)) (zpg:∀ F,RepL K F zgp [])
    {zcd:Addr} {zer:FuncData} {qx:DSp}
    (zmv:FnOk P w K mg base CX0 1 zcd zer ["labels", "groups", "weights"] (spD K 3 qx))
    (zmw:mg "label_table" = some (.ref zcd)) (zmx:keepIn K (.ref zcd)=true)
    (zmy:Binds K zer ["labels", "groups", "weights"] [])
    (zgn:mg "list" = none)
    (hs:∀ ds Q',ds.length=4→sp ds Q'→(yw zo ja qx) { nx:=fun _=>Q' (.fz .non),rt:=Q' } (zp 7 ds)):FnOk P w K mg base CX0 2 f fd ["labels", "groups", "weights", "pins"] (spD K 4 sp):=by
  refine okD (k:=1) F zfg fun cdv A outer s H E hr=>?_
  have sc:=zfg
  have hu200:(A.deeper (envOfC "open_table" (defScope x7) s.heap.objs.size f cdv)).units + 200 < cLine:=by have:=hr.un; omega
  have hu80:=hx80 hu200
  have hu:=hx1 hu200
  exact ⟨(yw zo ja qx),(zf (qe (i:=4) sc.nd rfl (by first | exact .inl rfl | exact .inr rfl) (xm (K:=K) (n:=1) (sp:=zo) (pe_call zaj (hr.mono (by decide)) (by rfl) zak zal zam .nil pass0 (pdc (pdv 1) pdn))))
 (zf (zui (i:=5) (own:=[("row_id", 6)]) rfl sc.nd rfl rfl (sw_true rfl rfl rfl (by decide +kernel)) (zsq (pdv 3)) (blkOk_by (own:=[("row_id", 6)]) (N:=zfx) (sc:=defScope x7) (by decide +kernel)) (fun _ _ _ _ _=>(pg_name (i:=6) sc.nd rfl (by first | exact .inl rfl | exact .inr rfl))) (fun _ _ _ _ _=>vi) (fun _ _ _ _ _=>(qj hu (vdv 4) (pdv 6))) xn)
 (zm (vr (za4 (K:=K) (n:=1) (m:=2) (N:=3) (sp:=ja) (pe_callN (ks:=["names", "places"]) zt7 (hr.mono (by decide)) (by rfl) zt8 zt9 zpf pass0 (pdc (xm (K:=K) (n:=3) (sp:=qx) (pe_call zmv (hr.mono (by decide)) (by rfl) zmw zmx zmy .nil pass0 (pdc (pdv 0) (pdc (pdv 1) (pdc (pdv 2) pdn))))) pdn) (pkdc (pfz (pctO (zsi rfl) (by rfl) zgn (by decide +kernel) (vvc (vdv 3) vvn))) (pkdc (pdv 5) pkdn))) (y7 zpg)))))),hs⟩
theorem zmz {f:Addr} {fd:FuncData} {kws:List (Str×V)} {sp:DSp} (T:Txt K)
    (F:FunD K "carry_over" "carry_over" (defArgs xc) (defBody xc) (defScope xc) [] kws f fd)
    {xu:Addr} {j9:FuncData} {zo:DSp}
    (zaj:FnOk P w K mg base CX0 1 xu j9 ["groups"] (spD K 1 zo))
    (zak:mg "places_of" = some (.ref xu)) (zal:keepIn K (.ref xu)=true)
    (zam:Binds K j9 ["groups"] [])
    {jc:Addr} {jn:FuncData} {zl:DSp}
    (yj:FnOk P w K mg base CX0 2 jc jn ["groups", "pins"] (spD K 2 zl))
    (yk:mg "counting_pins" = some (.ref jc)) (yl:keepIn K (.ref jc)=true)
    (zbd:Binds K jn ["groups", "pins"] [])
    {zbe:Addr} {zc7:FuncData} {z9:DSp}
    (zkc:FnOk P w K mg base CX0 3 zbe zc7 ["table", "homes"] (spD K 2 z9))
    (zkd:mg "best_carrying" = some (.ref zbe)) (zke:keepIn K (.ref zbe)=true)
    {zgq:List Value} {zb6:List V} (zgr:KBn K zc7 ["table", "homes"] 1 ["homes"] (fun us ws=>ord3 [(0,0),(2,0)] us zgq ws) (fun vs zs=>ord3 [(0,0),(2,0)] vs zb6 zs)) (zgs:∀ F,RepL K F zb6 [])
    {zc8:Addr} {zfp:FuncData} {xh:DSp}
    (zph:FnOk P w K mg base CX0 2 zc8 zfp ["labels", "groups", "weights", "pins"] (spD K 4 xh))
    (zpi:mg "open_table" = some (.ref zc8)) (zpj:keepIn K (.ref zc8)=true)
    (zpk:Binds K zfp ["labels", "groups", "weights", "pins"] [])
    (hs:∀ ds Q',ds.length=5→sp ds Q'→(yx zo zl z9 xh) { nx:=fun _=>Q' (.fz .non),rt:=Q' } (zp 10 ds)):FnOk P w K mg base CX0 4 f fd ["labels", "groups", "weights", "pins", "homes"] (spD K 5 sp):=by
  refine okDK (st:=xc) (k:=3) F zfh fun cdv A outer s H E hr=>?_
  have sc:=zfh
  have hu200:(A.deeper (envOfC "carry_over" (defScope xc) s.heap.objs.size f cdv)).units + 200 < cLine:=by have:=hr.un; omega
  have hu80:=hx80 hu200
  have hu:=hx1 hu200
  exact ⟨(yx zo zl z9 xh),(zf (qe (i:=5) sc.nd rfl (by first | exact .inl rfl | exact .inr rfl) (xm (K:=K) (n:=2) (sp:=zl) (pe_call yj (hr.mono (by decide)) (by rfl) yk yl zbd .nil pass0 (pdc (pdv 1) (pdc (zvm (zx6 (pdv 3) ziy) (pfz v3) (pdv 3)) pdn)))))
 (zf (qe (i:=6) sc.nd rfl (by first | exact .inl rfl | exact .inr rfl) (xm (K:=K) (n:=1) (sp:=zo) (pe_call zaj (hr.mono (by decide)) (by rfl) zak zal zam .nil pass0 (pdc (pdv 1) pdn))))
 (zf (zun (i:=7) sc.nd rfl rfl (zvr rfl rfl rfl (by decide +kernel)) (dcu1 (own:=[("name", 8),("row_id", 9)]) .k rfl sc.nd hu (zcz (pdv 5)) (blkOk_by (own:=[("name", 8),("row_id", 9)]) (N:=zfy) (sc:=defScope xc) (by decide +kernel)) (fun _ _ _ _ _=>(pg_tup rfl (pgs_cons (pg_name (i:=8) sc.nd rfl (by first | exact .inl rfl | exact .inr rfl)) (pgs_cons (pg_name (i:=9) sc.nd rfl (by first | exact .inl rfl | exact .inr rfl)) pgs_nil)) (by rfl) (by rfl))) (fun _ _ _ _ _=>vi) (fun _ _ _ _ _=>(pdv 8)) (fun _ _ _ _ _=>(qj hu (vdv 6) (pdv 9))) (zf6 (ue xn (ue xn zee)))))
 (zm (zax (zs2 (pdv 7) (za4 (K:=K) (n:=1) (m:=1) (N:=2) (sp:=z9) (pe_callN (ks:=["homes"]) zkc (hr.mono (by decide)) (by rfl) zkd zke zgr pass0 (pdc (xm (K:=K) (n:=4) (sp:=xh) (pe_call zph (hr.mono (by decide)) (by rfl) zpi zpj zpk .nil pass0 (pdc (pdv 0) (pdc (pdv 1) (pdc (pdv 2) (pdc (pdv 5) pdn)))))) pdn) (pkdc (pdv 4) pkdn)) (y7 zgs)))))))),hs⟩
theorem zpl {f:Addr} {fd:FuncData} {sp:DSp} (T:Txt K)
    (F:Fun K "labels_of" "labels_of" jp f fd)
    (hs:∀ ds Q',ds.length=2→sp ds Q'→(zag) { nx:=fun _=>Q' (.fz .non),rt:=Q' } (zp 5 ds)):FnOk P w K mg base CX0 1 f fd ["groups", "names"] (spD K 2 sp):=by
  refine okD (k:=0) F zfz fun cdv A outer s H E hr=>?_
  have sc:=zfz
  have hu200:(A.deeper (envOfC "labels_of" (defScope jp) s.heap.objs.size f cdv)).units + 200 < cLine:=by have:=hr.un; omega
  have hu80:=hx80 hu200
  have hu:=hx1 hu200
  exact ⟨(zag),(zm (zax (zhd (dcu2 (own:=[("name", 2),("place", 3),("row_id", 4)]) (vs1:=[4]) .k rfl sc.nd hu (zcz (pdv 1)) (blkOk_by (own:=[("name", 2),("place", 3),("row_id", 4)]) (N:=zho) (sc:=defScope jp) (by decide +kernel)) (fun _ _ _ _ _=>(pg_tup rfl (pgs_cons (pg_name (i:=2) sc.nd rfl (by first | exact .inl rfl | exact .inr rfl)) (pgs_cons (pg_name (i:=3) sc.nd rfl (by first | exact .inl rfl | exact .inr rfl)) pgs_nil)) (by rfl) (by rfl))) (fun _ _ _ _ _=>vi) (fun _ _ _ _ _=>(zeb (qj hu (vdv 0) (pdv 3)))) (fun _ _ _ _ _=>(pg_name (i:=4) sc.nd rfl (by first | exact .inl rfl | exact .inr rfl))) (fun _ _ _ _ _=>vi) (fun _ _ _ _ _=>(pdv 4)) (fun _ _ _ _ _=>(pdv 2)) (zf6 (ue xn (ue xn zee))) xn (by decide))))),hs⟩
theorem zle {f:Addr} {fd:FuncData} {sp:DSp} (T:Txt K)
    (F:Fun K "renamed_ids" "renamed_ids" xx f fd)
    (x0:mg "sorted" = none)
    (jx:mg "enumerate" = none)
    (hs:∀ ds Q',ds.length=3→sp ds Q'→(yb) { nx:=fun _=>Q' (.fz .non),rt:=Q' } (zp 7 ds)):FnOk P w K mg base CX0 1 f fd ["labels", "groups", "names"] (spD K 3 sp):=by
  refine okD (k:=0) F zd6 fun cdv A outer s H E hr=>?_
  have sc:=zd6
  have hu200:(A.deeper (envOfC "renamed_ids" (defScope xx) s.heap.objs.size f cdv)).units + 200 < cLine:=by have:=hr.un; omega
  have hu80:=hx80 hu200
  have hu:=hx1 hu200
  exact ⟨(yb),(zf (y2 (i:=3) sc.nd rfl (by first | exact .inl rfl | exact .inr rfl) (ui pdn))
 (zf (x8 PassesOwn.never rfl (zec (by rfl) jx (pdc (pdv 1) pdn)) (u3 rfl (zy (zw (pg_name (i:=4) sc.nd rfl (by first | exact .inl rfl | exact .inr rfl))) (zy (zw (pg_name (i:=5) sc.nd rfl (by first | exact .inl rfl | exact .inr rfl))) v4)))
 (zm (zsp (pe_bm PySem.F.plainAttrs_list PySem.F.slot_list_extend PySem.F.type_list_extend mt_extend (pv 3) (pa_cons (zvq (own:=[("row_id", 6)]) rfl sc.nd (zeb (pdv 5)) (blkOk_by (own:=[("row_id", 6)]) (N:=zfi) (sc:=defScope xx) (by decide +kernel)) (fun _ _ _ _ _=>(pg_name (i:=6) sc.nd rfl (by first | exact .inl rfl | exact .inr rfl))) (fun _ _ _ _ _=>(zdh ((zf3 (zg6 hu (pdv 6) (vdv 0)) (zea (qcm (za3 hu80) (vf (zg9 hu (vdv 2) (qj hu (vdv 0) (pdv 6)))) (vdv 4) (nomark _))))).pt)) (fun _ _ _ _ _=>(pdv 6)) xn) pa_nil)))))
 (zm (zax (pcbO (ut rfl hu200) (by rfl) x0 (by decide +kernel) (vvc (vdv 3) vvn)))))),hs⟩
theorem zkf {f:Addr} {fd:FuncData} {sp:DSp} (T:Txt K)
    (F:Fun K "label_places" "label_places" x3 f fd)
    (jx:mg "enumerate" = none)
    (hs:∀ ds Q',ds.length=2→sp ds Q'→(uo) { nx:=fun _=>Q' (.fz .non),rt:=Q' } (zp 7 ds)):FnOk P w K mg base CX0 1 f fd ["labels", "groups"] (spD K 2 sp):=by
  refine okD (k:=0) F zdf fun cdv A outer s H E hr=>?_
  have sc:=zdf
  have hu200:(A.deeper (envOfC "label_places" (defScope x3) s.heap.objs.size f cdv)).units + 200 < cLine:=by have:=hr.un; omega
  have hu80:=hx80 hu200
  have hu:=hx1 hu200
  exact ⟨(uo),(zf (zn8 (i:=2) sc.nd rfl (by first | exact .inl rfl | exact .inr rfl))
 (zf (x8 PassesOwn.never rfl (zec (by rfl) jx (pdc (pdv 1) pdn)) (u3 rfl (zy (zw (pg_name (i:=3) sc.nd rfl (by first | exact .inl rfl | exact .inr rfl))) (zy (zw (pg_name (i:=4) sc.nd rfl (by first | exact .inl rfl | exact .inr rfl))) v4)))
 (zm (x8 PassesOwn.never rfl (zeb (pdv 4)) (zw (pg_name (i:=5) sc.nd rfl (by first | exact .inl rfl | exact .inr rfl)))
 (zm (v7 (zg6 hu (pdv 5) (vdv 0)) (zvh (by decide) (by decide) (ps_set (i:=6) sc.nd rfl (by first | exact .inl rfl | exact .inr rfl) (pe_dsetd (pv 2) (qj hu (vdv 0) (pdv 5)) (ui pdn) ⟨rfl,rfl,rfl,rfl⟩)) (ps_if (pt_cmpR (zg5 hu) (pv 3) (pv 6) rfl) (pss_one (ps_expr (pe_bm PySem.F.plainAttrs_list PySem.F.slot_list_append PySem.F.type_list_append mt_append (pv 6) (pa_cons (pv 3) pa_nil)))) pss_nil)) jz)))))
 (zm (vr (zqj (pv 2)))))),hs⟩
theorem zr4 {f:Addr} {fd:FuncData} {sp:DSp} (T:Txt K)
    (F:Fun K "fate_of" "fate_of" uq f fd)
    (hs:∀ ds Q',ds.length=3→sp ds Q'→(zb4) { nx:=fun _=>Q' (.fz .non),rt:=Q' } (zp 3 ds)):FnOk P w K mg base CX0 1 f fd ["name", "places", "names"] (spD K 3 sp):=by
  refine okD (k:=0) F zix fun cdv A outer s H E hr=>?_
  have sc:=zix
  have hu200:(A.deeper (envOfC "fate_of" (defScope uq) s.heap.objs.size f cdv)).units + 200 < cLine:=by have:=hr.un; omega
  have hu80:=hx80 hu200
  have hu:=hx1 hu200
  exact ⟨(zb4),(zf (v7 (zya hu (pdv 0) (vdv 2)) (zm (vr (zbt (pdc vg (pdc (pdv 0) pdn))))) jz)
 (zm (vr (zbt (pdc (zvm (zg6 hu (qj hu (vdv 2) (pdv 0)) (vdv 1)) vg vg) (pdc (pdv 0) (pdc (qj hu (vdv 2) (pdv 0)) pdn))))))),hs⟩
theorem zpm {f:Addr} {fd:FuncData} {sp:DSp} (T:Txt K)
    (F:Fun K "events_of" "events_of" xr f fd)
    {zbo:Addr} {zds:FuncData} {qi:DSp}
    (zlf:FnOk P w K mg base CX0 1 zbo zds ["labels", "groups"] (spD K 2 qi))
    (zlg:mg "label_places" = some (.ref zbo)) (zlh:keepIn K (.ref zbo)=true)
    (zli:Binds K zds ["labels", "groups"] [])
    {zgt:Addr} {zkg:FuncData} {jb:DSp}
    (zua:FnOk P w K mg base CX0 1 zgt zkg ["name", "places", "names"] (spD K 3 jb))
    (zub:mg "fate_of" = some (.ref zgt)) (zuc:keepIn K (.ref zgt)=true)
    (zud:Binds K zkg ["name", "places", "names"] [])
    (jx:mg "enumerate" = none)
    (u1:mg "len" = none)
    (x0:mg "sorted" = none)
    (zgn:mg "list" = none)
    (hs:∀ ds Q',ds.length=3→sp ds Q'→(zah qi jb) { nx:=fun _=>Q' (.fz .non),rt:=Q' } (zp 10 ds)):FnOk P w K mg base CX0 2 f fd ["labels", "groups", "names"] (spD K 3 sp):=by
  refine okD (k:=1) F zf0 fun cdv A outer s H E hr=>?_
  have sc:=zf0
  have hu200:(A.deeper (envOfC "events_of" (defScope xr) s.heap.objs.size f cdv)).units + 200 < cLine:=by have:=hr.un; omega
  have hu80:=hx80 hu200
  have hu:=hx1 hu200
  exact ⟨(zah qi jb),(zf (qe (i:=3) sc.nd rfl (by first | exact .inl rfl | exact .inr rfl) (xm (K:=K) (n:=2) (sp:=qi) (pe_call zlf (hr.mono (by decide)) (by rfl) zlg zlh zli .nil pass0 (pdc (pdv 0) (pdc (pdv 1) pdn)))))
 (zf (zsj (i:=4) (own:=[("name", 5)]) rfl sc.nd rfl rfl (sw_true rfl rfl rfl (by decide +kernel)) (zbh (pfz (pcbO (ut rfl hu200) (by rfl) x0 (by decide +kernel) (vvc (vf (pfz (zs2 (pdv 3) (pdv 2)))) vvn)))) (blkOk_by (own:=[("name", 5)]) (N:=zbq) (sc:=defScope xr) (by decide +kernel)) (fun _ _ _ _ _=>(pg_name (i:=5) sc.nd rfl (by first | exact .inl rfl | exact .inr rfl))) (fun _ _ _ _ _=>vi) (fun _ _ _ _ _=>(xm (K:=K) (n:=3) (sp:=jb) (pe_call zua (hr.mono (by decide)) (by rfl) zub zuc zud .nil pass0 (pdc (pdv 5) (pdc (zqb hu (vdv 3) (pdv 5) (pfz (ui pdn))) (pdc (pdv 2) pdn)))))) xn)
 (zf (zsp (pe_bm PySem.F.plainAttrs_list PySem.F.slot_list_extend PySem.F.type_list_extend mt_extend (pv 4) (pa_cons (zvq (own:=[("name", 5)]) rfl sc.nd (zbh (pfz (pcbO (ut rfl hu200) (by rfl) x0 (by decide +kernel) (vvc (vdv 3) vvn)))) (blkOk_by (own:=[("name", 5)]) (N:=zbq) (sc:=defScope xr) (by decide +kernel)) (fun _ _ _ _ _=>(pg_name (i:=5) sc.nd rfl (by first | exact .inl rfl | exact .inr rfl))) (fun _ _ _ _ _=>(zdh (znf (ym (by rfl) u1 (vf (qj hu (vdv 3) (pdv 5)))) zj))) (fun _ _ _ _ _=>(zbt (pdc vg (pdc (pdv 5) (pdc (pfz (pctO (zsi rfl) (by rfl) zgn (by decide +kernel) (vvc (vf (qj hu (vdv 3) (pdv 5))) vvn))) pdn))))) xn) pa_nil)))
 (zf (x8 PassesOwn.never rfl (zec (by rfl) jx (pdc (pdv 1) pdn)) (u3 rfl (zy (zw (pg_name (i:=6) sc.nd rfl (by first | exact .inl rfl | exact .inr rfl))) (zy (zw (pg_name (i:=7) sc.nd rfl (by first | exact .inl rfl | exact .inr rfl))) v4)))
 (zf (qe (i:=8) sc.nd rfl (by first | exact .inl rfl | exact .inr rfl) (pfz (pcbO (ut rfl hu200) (by rfl) x0 (by decide +kernel) (vvc (vf (pfz (zhd (dcu1 (own:=[("row_id", 9)]) .k rfl sc.nd hu (zeb (pdv 7)) (blkOk_by (own:=[("row_id", 9)]) (N:=zbq) (sc:=defScope xr) (by decide +kernel)) (fun _ _ _ _ _=>(pg_name (i:=9) sc.nd rfl (by first | exact .inl rfl | exact .inr rfl))) (fun _ _ _ _ _=>(zdh (zg6 hu (pdv 9) (vdv 0)))) (fun _ _ _ _ _=>(qj hu (vdv 0) (pdv 9))) (fun _ _ _ _ _=>zao) xn)))) vvn))))
 (zm (v7 (znf (ym (by rfl) u1 (vdv 8)) zj) (zm (znw (pe_bm PySem.F.plainAttrs_list PySem.F.slot_list_append PySem.F.type_list_append mt_append (pv 4) (pa_cons (zbt (pdc vg (pdc (pdv 6) (pdc (pdv 8) pdn)))) pa_nil)))) jz))))
 (zm (zbg (pv 4))))))),hs⟩
theorem zzh {f:Addr} {fd:FuncData} {sp:DSp} (T:Txt K)
    (F:Fun K "law" "law" zan f fd)
    {zce:Addr} {zes:FuncData} {vp:DSp}
    (zm0:FnOk P w K mg base CX0 1 zce zes ["_law_script", "_law_start"] (spD K 2 vp))
    (zm1:mg "_law_stream" = some (.ref zce)) (zm2:keepIn K (.ref zce)=true)
    (zm3:Binds K zes ["_law_script", "_law_start"] [])
    {zc9:Addr} {zfq:FuncData} {xi:DSp}
    (zpn:FnOk P w K mg base CX0 3 zc9 zfq ["_law_stream_here"] (spD K 1 xi))
    (zpo:mg "_law_drawn" = some (.ref zc9)) (zpp:keepIn K (.ref zc9)=true)
    (zpq:Binds K zfq ["_law_stream_here"] [])
    {jc:Addr} {jn:FuncData} {zl:DSp}
    (yj:FnOk P w K mg base CX0 2 jc jn ["groups", "pins"] (spD K 2 zl))
    (yk:mg "counting_pins" = some (.ref jc)) (yl:keepIn K (.ref jc)=true)
    (zbd:Binds K jn ["groups", "pins"] [])
    {zgu:List Value} {zb7:List V} (zgv:KBn K jn ["groups", "pins"] 0 ["pins", "groups"] (fun us ws=>ord3 [(2,1),(2,0)] us zgu ws) (fun vs zs=>ord3 [(2,1),(2,0)] vs zb7 zs)) (zgw:∀ F,RepL K F zb7 [])
    {zda:Addr} {zcf:FuncData} {qf:DSp}
    (zgx:FnOk P w K mg base CX0 4 zda zcf ["labels", "groups", "weights", "pins", "homes"] (spD K 5 qf))
    (zgy:mg "carry_over" = some (.ref zda)) (zgz:keepIn K (.ref zda)=true)
    {zkh:List Value} {zdt:List V} (zki:KBn K zcf ["labels", "groups", "weights", "pins", "homes"] 0 ["homes", "pins", "weights", "groups", "labels"] (fun us ws=>ord3 [(2,4),(2,3),(2,2),(2,1),(2,0)] us zkh ws) (fun vs zs=>ord3 [(2,4),(2,3),(2,2),(2,1),(2,0)] vs zdt zs)) (zkj:∀ F,RepL K F zdt [])
    {zkk:List Value} {zdu:List V} (zkl:KBn K zcf ["labels", "groups", "weights", "pins", "homes"] 3 ["pins", "homes"] (fun us ws=>ord3 [(0,0),(0,1),(0,2),(2,0),(2,1)] us zkk ws) (fun vs zs=>ord3 [(0,0),(0,1),(0,2),(2,0),(2,1)] vs zdu zs)) (zkm:∀ F,RepL K F zdu [])
    {zdx:Addr} {zdb:FuncData} {qy:DSp}
    (zhs:FnOk P w K mg base CX0 1 zdx zdb ["groups", "names"] (spD K 2 qy))
    (zht:mg "labels_of" = some (.ref zdx)) (zhu:keepIn K (.ref zdx)=true)
    (zp2:Binds K zdb ["groups", "names"] [])
    {zlj:List Value} {zet:List V} (zlk:KBn K zdb ["groups", "names"] 0 ["names", "groups"] (fun us ws=>ord3 [(2,1),(2,0)] us zlj ws) (fun vs zs=>ord3 [(2,1),(2,0)] vs zet zs)) (zll:∀ F,RepL K F zet [])
    {zcg:Addr} {zbp:FuncData} {z8:DSp}
    (zfr:FnOk P w K mg base CX0 1 zcg zbp ["labels", "groups", "names"] (spD K 3 z8))
    (zfs:mg "renamed_ids" = some (.ref zcg)) (zft:keepIn K (.ref zcg)=true)
    (zm4:Binds K zbp ["labels", "groups", "names"] [])
    {zio:List Value} {zdc:List V} (ziq:KBn K zbp ["labels", "groups", "names"] 0 ["names", "groups", "labels"] (fun us ws=>ord3 [(2,2),(2,1),(2,0)] us zio ws) (fun vs zs=>ord3 [(2,2),(2,1),(2,0)] vs zdc zs)) (zir:∀ F,RepL K F zdc [])
    {zdy:Addr} {zdd:FuncData} {qz:DSp}
    (zhv:FnOk P w K mg base CX0 2 zdy zdd ["labels", "groups", "names"] (spD K 3 qz))
    (zhw:mg "events_of" = some (.ref zdy)) (zhx:keepIn K (.ref zdy)=true)
    (zp3:Binds K zdd ["labels", "groups", "names"] [])
    {zlm:List Value} {zeu:List V} (zln:KBn K zdd ["labels", "groups", "names"] 0 ["names", "groups", "labels"] (fun us ws=>ord3 [(2,2),(2,1),(2,0)] us zlm ws) (fun vs zs=>ord3 [(2,2),(2,1),(2,0)] vs zeu zs)) (zlo:∀ F,RepL K F zeu [])
    (zcs:mg "range" = none)
    (hs:∀ ds Q',ds.length=1→sp ds Q'→(zj6 vp xi zl qf qy z8 qz) { nx:=fun _=>Q' (.fz .non),rt:=Q' } (zp 8 ds)):FnAt P w K mg base callerA f fd ["_law_script"] (spD K 1 sp):=by
  refine okL (k:=4) F zr6 ⟨rfl,by decide,by decide⟩ fun cdv outer s H hr=>?_
  have sc:=zr6
  have hgd:(callerA.deeper (envOfC "law" (defScope zan) s.heap.objs.size f cdv)).guards=some []:=rfl
  have hu200:(callerA.deeper (envOfC "law" (defScope zan) s.heap.objs.size f cdv)).units + 200 < cLine:=by have:=hr.un; omega
  have hu80:=hx80 hu200
  have hu:=hx1 hu200
  exact ⟨(zj6 vp xi zl qf qy z8 qz),(zf (x8 PassesOwn.never rfl (zkp (by rfl) zcs (pdc zj pdn)) (zw (pg_name (i:=1) sc.nd rfl (by first | exact .inl rfl | exact .inr rfl)))
 (zf (qe (i:=2) sc.nd rfl (by first | exact .inl rfl | exact .inr rfl) (xm (K:=K) (n:=2) (sp:=vp) (pe_call zm0 (hr.mono (by decide)) (by rfl) zm1 zm2 zm3 .nil pass0 (pdc (pdv 0) (pdc (pdv 1) pdn)))))
 (zf (vt (xm (K:=K) (n:=1) (sp:=xi) (pe_call zpn (hr.mono (by decide)) (by rfl) zpo zpp zpq .nil pass0 (pdc (pdv 2) pdn))) (u3 rfl (zy (zw (pg_name (i:=3) sc.nd rfl (by first | exact .inl rfl | exact .inr rfl))) (zy (zw (pg_name (i:=4) sc.nd rfl (by first | exact .inl rfl | exact .inr rfl))) (zy (zw (pg_name (i:=5) sc.nd rfl (by first | exact .inl rfl | exact .inr rfl))) (zy (zw (pg_name (i:=6) sc.nd rfl (by first | exact .inl rfl | exact .inr rfl))) v4))))))
 (zf (qe (i:=7) sc.nd rfl (by first | exact .inl rfl | exact .inr rfl) (za4 (K:=K) (n:=3) (m:=2) (N:=5) (sp:=qf) (pe_callN (ks:=["pins", "homes"]) zgx (hr.mono (by decide)) (by rfl) zgy zgz zkl pass0 (pdc (pdv 4) (pdc (pdv 3) (pdc (pdv 5) pdn))) (pkdc (pdv 6) (pkdc (pfz (zqm (trs:=(((dC (.str "b")),(dC (.int 1))) :: [])) (ppc vg zj ppn))) pkdn))) (y7 zkm)))
 (zf (v7 (qcm (za3 hu80) (vf (za4 (K:=K) (n:=0) (m:=5) (N:=5) (sp:=qf) (zb2 (ks:=["homes", "pins", "weights", "groups", "labels"]) zgx (hr.mono (by decide)) (by rfl) zgy zgz zki pass0  (pkdc (pfz (zqm (trs:=(((dC (.str "b")),(dC (.int 1))) :: [])) (ppc vg zj ppn))) (pkdc (pdv 6) (pkdc (pdv 5) (pkdc (pdv 3) (pkdc (pdv 4) pkdn)))))) (y7 zkj))) (vdv 7) (nomark _)) (zm (vr zao)) jz)
 (zf (v7 (qcm (za3 hu80) (vf (za4 (K:=K) (n:=0) (m:=2) (N:=2) (sp:=qy) (zb2 (ks:=["names", "groups"]) zhs (hr.mono (by decide)) (by rfl) zht zhu zlk pass0  (pkdc (pdv 7) (pkdc (pdv 3) pkdn))) (y7 zll))) (vf (xm (K:=K) (n:=2) (sp:=qy) (pe_call zhs (hr.mono (by decide)) (by rfl) zht zhu zp2 .nil pass0 (pdc (pdv 3) (pdc (pdv 7) pdn))))) (nomark _)) (zm (vr zao)) jz)
 (zf (v7 (qcm (za3 hu80) (vf (za4 (K:=K) (n:=0) (m:=2) (N:=2) (sp:=zl) (zb2 (ks:=["pins", "groups"]) yj (hr.mono (by decide)) (by rfl) yk yl zgv pass0  (pkdc (pdv 6) (pkdc (pdv 3) pkdn))) (y7 zgw))) (vf (xm (K:=K) (n:=2) (sp:=zl) (pe_call yj (hr.mono (by decide)) (by rfl) yk yl zbd .nil pass0 (pdc (pdv 3) (pdc (pdv 6) pdn))))) (nomark _)) (zm (vr zao)) jz)
 (zf (v7 (qcm (za3 hu80) (vf (za4 (K:=K) (n:=0) (m:=3) (N:=3) (sp:=z8) (zb2 (ks:=["names", "groups", "labels"]) zfr (hr.mono (by decide)) (by rfl) zfs zft ziq pass0  (pkdc (pdv 7) (pkdc (pdv 3) (pkdc (pdv 4) pkdn)))) (y7 zir))) (vf (xm (K:=K) (n:=3) (sp:=z8) (pe_call zfr (hr.mono (by decide)) (by rfl) zfs zft zm4 .nil pass0 (pdc (pdv 4) (pdc (pdv 3) (pdc (pdv 7) pdn)))))) (nomark _)) (zm (vr zao)) jz)
 (zm (v7 (qcm (za3 hu80) (vf (za4 (K:=K) (n:=0) (m:=3) (N:=3) (sp:=qz) (zb2 (ks:=["names", "groups", "labels"]) zhv (hr.mono (by decide)) (by rfl) zhw zhx zln pass0  (pkdc (pdv 7) (pkdc (pdv 3) (pkdc (pdv 4) pkdn)))) (y7 zlo))) (vf (xm (K:=K) (n:=3) (sp:=qz) (pe_call zhv (hr.mono (by decide)) (by rfl) zhw zhx zp3 .nil pass0 (pdc (pdv 4) (pdc (pdv 3) (pdc (pdv 7) pdn)))))) (nomark _)) (zm (vr zao)) jz))))))))))
 (zm (vr zao))),hs⟩
end
theorem zzi {l:PySem.W.OpenLaw} {w:World} {K:Frag} {h:Heap} {mg:Str→Option Value} {fa f0 f1 f2 f3 f4 f5 f6 f7 f8 f9 f10 f11 f12 f13 f14 f15 f16 f17 f18 f19 f20 f21 f22:Addr} (X:K.In h) (G:h.Ns mainGlobals mg) (hfa:mg "law" = some (.ref fa))
    {od0 an0:Option Addr} {sl0:Array (Option Value)} {oc0 kV0 dc0 pm0 cd0 ct0:Value}
    {od1 an1:Option Addr} {sl1:Array (Option Value)} {oc1 kV1 dc1 pm1 cd1 ct1:Value}
    {od2 an2:Option Addr} {sl2:Array (Option Value)} {oc2 kV2 dc2 pm2 cd2 ct2:Value}
    {od3 an3:Option Addr} {sl3:Array (Option Value)} {oc3 kV3 dc3 pm3 cd3 ct3:Value}
    {od4 an4:Option Addr} {sl4:Array (Option Value)} {oc4 kV4 dc4 pm4 cd4 ct4:Value}
    {od5 an5:Option Addr} {sl5:Array (Option Value)} {oc5 kV5 dc5 pm5 cd5 ct5:Value}
    {od6 an6:Option Addr} {sl6:Array (Option Value)} {oc6 kV6 dc6 pm6 cd6 ct6:Value}
    {od7 an7:Option Addr} {sl7:Array (Option Value)} {oc7 kV7 dc7 pm7 cd7 ct7:Value}
    {od8 an8:Option Addr} {sl8:Array (Option Value)} {oc8 kV8 dc8 pm8 cd8 ct8:Value}
    {od9 an9:Option Addr} {sl9:Array (Option Value)} {oc9 kV9 dc9 pm9 cd9 ct9:Value}
    {od10 an10:Option Addr} {sl10:Array (Option Value)} {oc10 kV10 dc10 pm10 cd10 ct10:Value}
    {od11 an11:Option Addr} {sl11:Array (Option Value)} {oc11 dc11 pm11 cd11 ct11:Value}
    {dk11:Addr}
    {od12 an12:Option Addr} {sl12:Array (Option Value)} {oc12 dc12 pm12 cd12 ct12:Value}
    {dk12:Addr}
    {od13 an13:Option Addr} {sl13:Array (Option Value)} {oc13 dc13 pm13 cd13 ct13:Value}
    {dk13:Addr}
    {t13_names:Addr} {td13_names:Option Addr} {tn13_names:Nat} {ts13_names:Array (Option Value)}
    {t13_places:Addr} {td13_places:Option Addr} {tn13_places:Nat} {ts13_places:Array (Option Value)}
    {od14 an14:Option Addr} {sl14:Array (Option Value)} {oc14 kV14 dc14 pm14 cd14 ct14:Value}
    {od15 an15:Option Addr} {sl15:Array (Option Value)} {oc15 kV15 dc15 pm15 cd15 ct15:Value}
    {od16 an16:Option Addr} {sl16:Array (Option Value)} {oc16 dc16 pm16 cd16 ct16:Value}
    {dk16:Addr}
    {od17 an17:Option Addr} {sl17:Array (Option Value)} {oc17 kV17 dc17 pm17 cd17 ct17:Value}
    {od18 an18:Option Addr} {sl18:Array (Option Value)} {oc18 kV18 dc18 pm18 cd18 ct18:Value}
    {od19 an19:Option Addr} {sl19:Array (Option Value)} {oc19 kV19 dc19 pm19 cd19 ct19:Value}
    {od20 an20:Option Addr} {sl20:Array (Option Value)} {oc20 kV20 dc20 pm20 cd20 ct20:Value}
    {od21 an21:Option Addr} {sl21:Array (Option Value)} {oc21 kV21 dc21 pm21 cd21 ct21:Value}
    {od22 an22:Option Addr} {sl22:Array (Option Value)} {oc22 kV22 dc22 pm22 cd22 ct22:Value}
    (a0:nsIn K mainGlobals "_law_stream" = some (some (.ref f0)))
    (l0:K.lookup f0=some ⟨oc0,od0,.func (fnOf "_law_stream" "_law_stream" (defArgs jd) (defBody jd) (defScope jd) .none kV0 dc0 pm0 an0 cd0 ct0),sl0⟩)
    (c0:codeIn K cd0 "_law_stream" = true)
    (k0:keepIn K (.ref f0)=true)
    (a1:nsIn K mainGlobals "_law_draw" = some (some (.ref f1)))
    (l1:K.lookup f1=some ⟨oc1,od1,.func (fnOf "_law_draw" "_law_draw" (defArgs vh) (defBody vh) (defScope vh) .none kV1 dc1 pm1 an1 cd1 ct1),sl1⟩)
    (c1:codeIn K cd1 "_law_draw" = true)
    (k1:keepIn K (.ref f1)=true)
    (a2:nsIn K mainGlobals "_law_choose" = some (some (.ref f2)))
    (l2:K.lookup f2=some ⟨oc2,od2,.func (fnOf "_law_choose" "_law_choose" (defArgs je) (defBody je) (defScope je) .none kV2 dc2 pm2 an2 cd2 ct2),sl2⟩)
    (c2:codeIn K cd2 "_law_choose" = true)
    (k2:keepIn K (.ref f2)=true)
    (a3:nsIn K mainGlobals "_law_drawn" = some (some (.ref f3)))
    (l3:K.lookup f3=some ⟨oc3,od3,.func (fnOf "_law_drawn" "_law_drawn" (defArgs jy) (defBody jy) (defScope jy) .none kV3 dc3 pm3 an3 cd3 ct3),sl3⟩)
    (c3:codeIn K cd3 "_law_drawn" = true)
    (k3:keepIn K (.ref f3)=true)
    (a4:nsIn K mainGlobals "places_of" = some (some (.ref f4)))
    (l4:K.lookup f4=some ⟨oc4,od4,.func (fnOf "places_of" "places_of" (defArgs jo) (defBody jo) (defScope jo) .none kV4 dc4 pm4 an4 cd4 ct4),sl4⟩)
    (c4:codeIn K cd4 "places_of" = true)
    (k4:keepIn K (.ref f4)=true)
    (a5:nsIn K mainGlobals "counting_pins" = some (some (.ref f5)))
    (l5:K.lookup f5=some ⟨oc5,od5,.func (fnOf "counting_pins" "counting_pins" (defArgs xq) (defBody xq) (defScope xq) .none kV5 dc5 pm5 an5 cd5 ct5),sl5⟩)
    (c5:codeIn K cd5 "counting_pins" = true)
    (k5:keepIn K (.ref f5)=true)
    (a6:nsIn K mainGlobals "row_entries" = some (some (.ref f6)))
    (l6:K.lookup f6=some ⟨oc6,od6,.func (fnOf "row_entries" "row_entries" (defArgs jf) (defBody jf) (defScope jf) .none kV6 dc6 pm6 an6 cd6 ct6),sl6⟩)
    (c6:codeIn K cd6 "row_entries" = true)
    (k6:keepIn K (.ref f6)=true)
    (a7:nsIn K mainGlobals "best_moves" = some (some (.ref f7)))
    (l7:K.lookup f7=some ⟨oc7,od7,.func (fnOf "best_moves" "best_moves" (defArgs x6) (defBody x6) (defScope x6) .none kV7 dc7 pm7 an7 cd7 ct7),sl7⟩)
    (c7:codeIn K cd7 "best_moves" = true)
    (k7:keepIn K (.ref f7)=true)
    (a8:nsIn K mainGlobals "greatest_pairs" = some (some (.ref f8)))
    (l8:K.lookup f8=some ⟨oc8,od8,.func (fnOf "greatest_pairs" "greatest_pairs" (defArgs xj) (defBody xj) (defScope xj) .none kV8 dc8 pm8 an8 cd8 ct8),sl8⟩)
    (c8:codeIn K cd8 "greatest_pairs" = true)
    (k8:keepIn K (.ref f8)=true)
    (a9:nsIn K mainGlobals "table_names" = some (some (.ref f9)))
    (l9:K.lookup f9=some ⟨oc9,od9,.func (fnOf "table_names" "table_names" (defArgs xw) (defBody xw) (defScope xw) .none kV9 dc9 pm9 an9 cd9 ct9),sl9⟩)
    (c9:codeIn K cd9 "table_names" = true)
    (k9:keepIn K (.ref f9)=true)
    (a10:nsIn K mainGlobals "table_places" = some (some (.ref f10)))
    (l10:K.lookup f10=some ⟨oc10,od10,.func (fnOf "table_places" "table_places" (defArgs xl) (defBody xl) (defScope xl) .none kV10 dc10 pm10 an10 cd10 ct10),sl10⟩)
    (c10:codeIn K cd10 "table_places" = true)
    (k10:keepIn K (.ref f10)=true)
    (a11:nsIn K mainGlobals "exact_table" = some (some (.ref f11)))
    (l11:K.lookup f11=some ⟨oc11,od11,.func (fnOf "exact_table" "exact_table" (defArgs q9) (defBody q9) (defScope q9) .none (.ref dk11) dc11 pm11 an11 cd11 ct11),sl11⟩)
    (e11_homes:nsIn K dk11 "homes" = some (some .none))
    (c11:codeIn K cd11 "exact_table" = true)
    (k11:keepIn K (.ref f11)=true)
    (a12:nsIn K mainGlobals "best_carrying" = some (some (.ref f12)))
    (l12:K.lookup f12=some ⟨oc12,od12,.func (fnOf "best_carrying" "best_carrying" (defArgs qg) (defBody qg) (defScope qg) .none (.ref dk12) dc12 pm12 an12 cd12 ct12),sl12⟩)
    (e12_homes:nsIn K dk12 "homes" = some (some .none))
    (c12:codeIn K cd12 "best_carrying" = true)
    (k12:keepIn K (.ref f12)=true)
    (a13:nsIn K mainGlobals "without" = some (some (.ref f13)))
    (l13:K.lookup f13=some ⟨oc13,od13,.func (fnOf "without" "without" (defArgs jg) (defBody jg) (defScope jg) .none (.ref dk13) dc13 pm13 an13 cd13 ct13),sl13⟩)
    (e13_names:nsIn K dk13 "names" = some (some (.ref t13_names)))
    (u13_names:K.lookup t13_names=some ⟨.type "tuple", td13_names,.seq #[] tn13_names,ts13_names⟩)
    (e13_places:nsIn K dk13 "places" = some (some (.ref t13_places)))
    (u13_places:K.lookup t13_places=some ⟨.type "tuple", td13_places,.seq #[] tn13_places,ts13_places⟩)
    (c13:codeIn K cd13 "without" = true)
    (k13:keepIn K (.ref f13)=true)
    (a14:nsIn K mainGlobals "label_table" = some (some (.ref f14)))
    (l14:K.lookup f14=some ⟨oc14,od14,.func (fnOf "label_table" "label_table" (defArgs jh) (defBody jh) (defScope jh) .none kV14 dc14 pm14 an14 cd14 ct14),sl14⟩)
    (c14:codeIn K cd14 "label_table" = true)
    (k14:keepIn K (.ref f14)=true)
    (a15:nsIn K mainGlobals "open_table" = some (some (.ref f15)))
    (l15:K.lookup f15=some ⟨oc15,od15,.func (fnOf "open_table" "open_table" (defArgs x7) (defBody x7) (defScope x7) .none kV15 dc15 pm15 an15 cd15 ct15),sl15⟩)
    (c15:codeIn K cd15 "open_table" = true)
    (k15:keepIn K (.ref f15)=true)
    (a16:nsIn K mainGlobals "carry_over" = some (some (.ref f16)))
    (l16:K.lookup f16=some ⟨oc16,od16,.func (fnOf "carry_over" "carry_over" (defArgs xc) (defBody xc) (defScope xc) .none (.ref dk16) dc16 pm16 an16 cd16 ct16),sl16⟩)
    (e16_pins:nsIn K dk16 "pins" = some (some .none))
    (e16_homes:nsIn K dk16 "homes" = some (some .none))
    (c16:codeIn K cd16 "carry_over" = true)
    (k16:keepIn K (.ref f16)=true)
    (a17:nsIn K mainGlobals "labels_of" = some (some (.ref f17)))
    (l17:K.lookup f17=some ⟨oc17,od17,.func (fnOf "labels_of" "labels_of" (defArgs jp) (defBody jp) (defScope jp) .none kV17 dc17 pm17 an17 cd17 ct17),sl17⟩)
    (c17:codeIn K cd17 "labels_of" = true)
    (k17:keepIn K (.ref f17)=true)
    (a18:nsIn K mainGlobals "renamed_ids" = some (some (.ref f18)))
    (l18:K.lookup f18=some ⟨oc18,od18,.func (fnOf "renamed_ids" "renamed_ids" (defArgs xx) (defBody xx) (defScope xx) .none kV18 dc18 pm18 an18 cd18 ct18),sl18⟩)
    (c18:codeIn K cd18 "renamed_ids" = true)
    (k18:keepIn K (.ref f18)=true)
    (a19:nsIn K mainGlobals "label_places" = some (some (.ref f19)))
    (l19:K.lookup f19=some ⟨oc19,od19,.func (fnOf "label_places" "label_places" (defArgs x3) (defBody x3) (defScope x3) .none kV19 dc19 pm19 an19 cd19 ct19),sl19⟩)
    (c19:codeIn K cd19 "label_places" = true)
    (k19:keepIn K (.ref f19)=true)
    (a20:nsIn K mainGlobals "fate_of" = some (some (.ref f20)))
    (l20:K.lookup f20=some ⟨oc20,od20,.func (fnOf "fate_of" "fate_of" (defArgs uq) (defBody uq) (defScope uq) .none kV20 dc20 pm20 an20 cd20 ct20),sl20⟩)
    (c20:codeIn K cd20 "fate_of" = true)
    (k20:keepIn K (.ref f20)=true)
    (a21:nsIn K mainGlobals "events_of" = some (some (.ref f21)))
    (l21:K.lookup f21=some ⟨oc21,od21,.func (fnOf "events_of" "events_of" (defArgs xr) (defBody xr) (defScope xr) .none kV21 dc21 pm21 an21 cd21 ct21),sl21⟩)
    (c21:codeIn K cd21 "events_of" = true)
    (k21:keepIn K (.ref f21)=true)
    (a22:nsIn K mainGlobals "law" = some (some (.ref f22)))
    (l22:K.lookup f22=some ⟨oc22,od22,.func (fnOf "law" "law" (defArgs zan) (defBody zan) (defScope zan) .none kV22 dc22 pm22 an22 cd22 ct22),sl22⟩)
    (c22:codeIn K cd22 "law" = true)
    (k22:keepIn K (.ref f22)=true)
    (z_len:nsIn K mainGlobals "len" = some none)
    (z_range:nsIn K mainGlobals "range" = some none)
    (z_tuple:nsIn K mainGlobals "tuple" = some none)
    (z_sorted:nsIn K mainGlobals "sorted" = some none)
    (z_int:nsIn K mainGlobals "int" = some none)
    (z_list:nsIn K mainGlobals "list" = some none)
    (z_enumerate:nsIn K mainGlobals "enumerate" = some none)
    (low:K.lookup sysModules=none)
    : K.lookup sysModules=none∧∃ fd:FuncData,(∀ (s:Shared) (v:Value),BindsTo s fd ⟨[v],[]⟩ [("_law_script", v)])∧∀ base:Heap,K.In base→base.Ns mainGlobals mg→FnAt l.prog w K mg base callerA fa fd ["_law_script"] (spD K 1 sp_law):=by
  have e:=hfa.symm.trans (mg_of X G a22)
  cases e
  letI:CTb:=⟨fun n=>match n with  | _=>mainGlobals⟩
  have T:Txt K:={  }
  have F0:=fun_mk (st:=jd) l0 c0 k0
  have F1:=fun_mk (st:=vh) l1 c1 k1
  have F2:=fun_mk (st:=je) l2 c2 k2
  have F3:=fun_mk (st:=jy) l3 c3 k3
  have F4:=fun_mk (st:=jo) l4 c4 k4
  have F5:=fun_mk (st:=xq) l5 c5 k5
  have kb5_0:=Fun.kbn F5 (ps:=["groups", "pins"]) 0 ["pins", "groups"] [(2,1),(2,0)] (fun _ _ _ _ _ _ us ws h1 h2=>match us,ws,h1,h2 with | [],[z0,z1],_,_=>rfl)
  have hd5_0:∀ F,RepL K F [] []:=za5
  have F6:=fun_mk (st:=jf) l6 c6 k6
  have F7:=fun_mk (st:=x6) l7 c7 k7
  have F8:=fun_mk (st:=xj) l8 c8 k8
  have F9:=fun_mk (st:=xw) l9 c9 k9
  have F10:=fun_mk (st:=xl) l10 c10 k10
  have F11:=ze9 (st:=q9) (kws:=[("homes", .non)]) l11 c11 k11 (List.forall_mem_cons.2 ⟨⟨_,e11_homes,rfl⟩,fun _ h=>nomatch h⟩)
  obtain ⟨mv11_0,kb11_0⟩:=F11.kbinds0 (ps:=["table", "homes"]) 1 ["homes"] [] (fun us mv ws=>ord3 [(0,0),(2,0)] us mv ws) (List.cons_ne_nil _ _) (by simp) (fun a b c=>yp a b c _) (fun D doc pm an cdv ct us mv ws h1 h2 h3=>match us,mv,ws,h1,h2,h3 with | [a0],[],[z0],_,_,_=>rfl)
  have hd11_0:∀ F,RepL K F _ _:=za5
  have F12:=ze9 (st:=qg) (kws:=[("homes", .non)]) l12 c12 k12 (List.forall_mem_cons.2 ⟨⟨_,e12_homes,rfl⟩,fun _ h=>nomatch h⟩)
  obtain ⟨mv12_0,kb12_0⟩:=F12.kbinds0 (ps:=["table", "homes"]) 1 ["homes"] [] (fun us mv ws=>ord3 [(0,0),(2,0)] us mv ws) (List.cons_ne_nil _ _) (by simp) (fun a b c=>yp a b c _) (fun D doc pm an cdv ct us mv ws h1 h2 h3=>match us,mv,ws,h1,h2,h3 with | [a0],[],[z0],_,_,_=>rfl)
  have hd12_0:∀ F,RepL K F _ _:=za5
  have F13:=ze9 (st:=jg) (kws:=[("names", .ref t13_names),("places", .ref t13_places)]) l13 c13 k13 (List.forall_mem_cons.2 ⟨⟨_,e13_names,rfl⟩,List.forall_mem_cons.2 ⟨⟨_,e13_places,rfl⟩,fun _ h=>nomatch h⟩⟩)
  obtain ⟨mv13_0,kb13_0⟩:=F13.kbinds0 (ps:=["table", "names", "places"]) 1 ["names", "places"] [] (fun us mv ws=>ord3 [(0,0),(2,0),(2,1)] us mv ws) (List.cons_ne_nil _ _) (by simp) (fun a b c=>yp a b c _) (fun D doc pm an cdv ct us mv ws h1 h2 h3=>match us,mv,ws,h1,h2,h3 with | [a0],[],[z0,z1],_,_,_=>rfl)
  have hd13_0:∀ F,RepL K F _ _:=za5
  have F14:=fun_mk (st:=jh) l14 c14 k14
  have F15:=fun_mk (st:=x7) l15 c15 k15
  have F16:=ze9 (st:=xc) (kws:=[("pins", .non),("homes", .non)]) l16 c16 k16 (List.forall_mem_cons.2 ⟨⟨_,e16_pins,rfl⟩,List.forall_mem_cons.2 ⟨⟨_,e16_homes,rfl⟩,fun _ h=>nomatch h⟩⟩)
  obtain ⟨mv16_0,kb16_0⟩:=F16.kbinds0 (ps:=["labels", "groups", "weights", "pins", "homes"]) 0 ["homes", "pins", "weights", "groups", "labels"] [] (fun us mv ws=>ord3 [(2,4),(2,3),(2,2),(2,1),(2,0)] us mv ws) (List.cons_ne_nil _ _) (by simp) (fun a b c=>yp a b c _) (fun D doc pm an cdv ct us mv ws h1 h2 h3=>match us,mv,ws,h1,h2,h3 with | [],[],[z0,z1,z2,z3,z4],_,_,_=>rfl)
  have hd16_0:∀ F,RepL K F _ _:=za5
  obtain ⟨mv16_1,kb16_1⟩:=F16.kbinds0 (ps:=["labels", "groups", "weights", "pins", "homes"]) 3 ["pins", "homes"] [] (fun us mv ws=>ord3 [(0,0),(0,1),(0,2),(2,0),(2,1)] us mv ws) (List.cons_ne_nil _ _) (by simp) (fun a b c=>yp a b c _) (fun D doc pm an cdv ct us mv ws h1 h2 h3=>match us,mv,ws,h1,h2,h3 with | [a0,a1,a2],[],[z0,z1],_,_,_=>rfl)
  have hd16_1:∀ F,RepL K F _ _:=za5
  have F17:=fun_mk (st:=jp) l17 c17 k17
  have kb17_0:=Fun.kbn F17 (ps:=["groups", "names"]) 0 ["names", "groups"] [(2,1),(2,0)] (fun _ _ _ _ _ _ us ws h1 h2=>match us,ws,h1,h2 with | [],[z0,z1],_,_=>rfl)
  have hd17_0:∀ F,RepL K F [] []:=za5
  have F18:=fun_mk (st:=xx) l18 c18 k18
  have kb18_0:=Fun.kbn F18 (ps:=["labels", "groups", "names"]) 0 ["names", "groups", "labels"] [(2,2),(2,1),(2,0)] (fun _ _ _ _ _ _ us ws h1 h2=>match us,ws,h1,h2 with | [],[z0,z1,z2],_,_=>rfl)
  have hd18_0:∀ F,RepL K F [] []:=za5
  have F19:=fun_mk (st:=x3) l19 c19 k19
  have F20:=fun_mk (st:=uq) l20 c20 k20
  have F21:=fun_mk (st:=xr) l21 c21 k21
  have kb21_0:=Fun.kbn F21 (ps:=["labels", "groups", "names"]) 0 ["names", "groups", "labels"] [(2,2),(2,1),(2,0)] (fun _ _ _ _ _ _ us ws h1 h2=>match us,ws,h1,h2 with | [],[z0,z1,z2],_,_=>rfl)
  have hd21_0:∀ F,RepL K F [] []:=za5
  have F22:=fun_mk (st:=zan) l22 c22 k22
  have b0:=F0.binds (ps:=["_law_script", "_law_start"]) fun _ _ _ _ _ _ us hl=>match us,hl with | [_,_],_=>rfl
  have b1:=F1.binds (ps:=["_law_stream_here", "_law_size"]) fun _ _ _ _ _ _ us hl=>match us,hl with | [_,_],_=>rfl
  have b2:=F2.binds (ps:=["_law_stream_here", "_law_items"]) fun _ _ _ _ _ _ us hl=>match us,hl with | [_,_],_=>rfl
  have b3:=F3.binds (ps:=["_law_stream_here"]) fun _ _ _ _ _ _ us hl=>match us,hl with | [_],_=>rfl
  have b4:=F4.binds (ps:=["groups"]) fun _ _ _ _ _ _ us hl=>match us,hl with | [_],_=>rfl
  have b5:=F5.binds (ps:=["groups", "pins"]) fun _ _ _ _ _ _ us hl=>match us,hl with | [_,_],_=>rfl
  have b6:=F6.binds (ps:=["entries"]) fun _ _ _ _ _ _ us hl=>match us,hl with | [_],_=>rfl
  have b7:=F7.binds (ps:=["rows", "pairs", "owners"]) fun _ _ _ _ _ _ us hl=>match us,hl with | [_,_,_],_=>rfl
  have b8:=F8.binds (ps:=["entries"]) fun _ _ _ _ _ _ us hl=>match us,hl with | [_],_=>rfl
  have b9:=F9.binds (ps:=["table"]) fun _ _ _ _ _ _ us hl=>match us,hl with | [_],_=>rfl
  have b10:=F10.binds (ps:=["table"]) fun _ _ _ _ _ _ us hl=>match us,hl with | [_],_=>rfl
  have b14:=F14.binds (ps:=["labels", "groups", "weights"]) fun _ _ _ _ _ _ us hl=>match us,hl with | [_,_,_],_=>rfl
  have b15:=F15.binds (ps:=["labels", "groups", "weights", "pins"]) fun _ _ _ _ _ _ us hl=>match us,hl with | [_,_,_,_],_=>rfl
  have b17:=F17.binds (ps:=["groups", "names"]) fun _ _ _ _ _ _ us hl=>match us,hl with | [_,_],_=>rfl
  have b18:=F18.binds (ps:=["labels", "groups", "names"]) fun _ _ _ _ _ _ us hl=>match us,hl with | [_,_,_],_=>rfl
  have b19:=F19.binds (ps:=["labels", "groups"]) fun _ _ _ _ _ _ us hl=>match us,hl with | [_,_],_=>rfl
  have b20:=F20.binds (ps:=["name", "places", "names"]) fun _ _ _ _ _ _ us hl=>match us,hl with | [_,_,_],_=>rfl
  have b21:=F21.binds (ps:=["labels", "groups", "names"]) fun _ _ _ _ _ _ us hl=>match us,hl with | [_,_,_],_=>rfl
  refine ⟨low,fnOf "law" "law" (defArgs zan) (defBody zan) (defScope zan) .none kV22 dc22 pm22 an22 cd22 ct22,fun s v=>.of_eq rfl,fun base _ _=>?_⟩
  have G0:=zk4 (P:=l.prog) (w:=w) (mg:=mg) (base:=base) (sp:=zbv) T F0 (mg_none_of X G z_len) (fun ds Q' _ h=>zux 19 (by decide) (by decide) ds Q' h)
  have G1:=zo8 (P:=l.prog) (w:=w) (mg:=mg) (base:=base) (sp:=zcp) T F1 (fun ds Q' _ h=>zyq ds Q' h)
  have G2:=zk5 (P:=l.prog) (w:=w) (mg:=mg) (base:=base) (sp:=zbw) T F2 G1 (mg_of X G a1) F1.kp b1 (mg_none_of X G z_len) (fun ds Q' _ h=>zuy ds Q' h)
  have G3:=zmh (P:=l.prog) (w:=w) (mg:=mg) (base:=base) (sp:=xi) T F3 G1 (mg_of X G a1) F1.kp b1 G2 (mg_of X G a2) F2.kp b2 (mg_none_of X G z_range) (mg_none_of X G z_tuple) (mg_none_of X G z_sorted) (mg_none_of X G z_int) (mg_none_of X G z_len) (mg_none_of X G z_list) (fun ds Q' _ h=>zo2 ds Q' h)
  have G4:=zo9 (P:=l.prog) (w:=w) (mg:=mg) (base:=base) (sp:=zo) T F4 (mg_none_of X G z_enumerate) (fun ds Q' _ h=>zpz ds Q' h)
  have G5:=zif (P:=l.prog) (w:=w) (mg:=mg) (base:=base) (sp:=zl) T F5 G4 (mg_of X G a4) F4.kp b4 (mg_none_of X G z_sorted) (fun ds Q' _ h=>zj7 ds Q' h)
  have G6:=zk6 (P:=l.prog) (w:=w) (mg:=mg) (base:=base) (sp:=qu) T F6 (mg_none_of X G z_sorted) (fun ds Q' _ h=>zmc ds Q' h)
  have G7:=zmi (P:=l.prog) (w:=w) (mg:=mg) (base:=base) (sp:=xg) T F7 (fun ds Q' _ h=>zo3 ds Q' h)
  have G8:=zhm (P:=l.prog) (w:=w) (mg:=mg) (base:=base) (sp:=z6) T F8 G6 (mg_of X G a6) F6.kp b6 G7 (mg_of X G a7) F7.kp b7 (fun ds Q' _ h=>zie ds Q' h)
  have G9:=zk7 (P:=l.prog) (w:=w) (mg:=mg) (base:=base) (sp:=qv) T F9 (mg_none_of X G z_sorted) (fun ds Q' _ h=>zmd ds Q' h)
  have G10:=zka (P:=l.prog) (w:=w) (mg:=mg) (base:=base) (sp:=qh) T F10 (mg_none_of X G z_sorted) (fun ds Q' _ h=>zk2 ds Q' h)
  have G11:=zk8 (P:=l.prog) (w:=w) (mg:=mg) (base:=base) (sp:=qw) T F11 G9 (mg_of X G a9) F9.kp b9 G10 (mg_of X G a10) F10.kp b10 (mg_none_of X G z_len) (mg_none_of X G z_int) (fun ds Q' _ h=>zme ds Q' h)
  have G12:=zig (P:=l.prog) (w:=w) (mg:=mg) (base:=base) (sp:=z9) T F12 G8 (mg_of X G a8) F8.kp b8 G11 (mg_of X G a11) F11.kp kb11_0 hd11_0 (fun ds Q' _ h=>zj8 ds Q' h)
  have G13:=zr3 (P:=l.prog) (w:=w) (mg:=mg) (base:=base) (sp:=ja) T F13 (fun ds Q' _ h=>ztz ds Q' h)
  have G14:=zld (P:=l.prog) (w:=w) (mg:=mg) (base:=base) (sp:=qx) T F14 (mg_none_of X G z_enumerate) (fun ds Q' _ h=>zmf ds Q' h)
  have G15:=zmu (P:=l.prog) (w:=w) (mg:=mg) (base:=base) (sp:=xh) T F15 G4 (mg_of X G a4) F4.kp b4 G13 (mg_of X G a13) F13.kp kb13_0 hd13_0 G14 (mg_of X G a14) F14.kp b14 (mg_none_of X G z_list) (fun ds Q' _ h=>zo4 ds Q' h)
  have G16:=zmz (P:=l.prog) (w:=w) (mg:=mg) (base:=base) (sp:=qf) T F16 G4 (mg_of X G a4) F4.kp b4 G5 (mg_of X G a5) F5.kp b5 G12 (mg_of X G a12) F12.kp kb12_0 hd12_0 G15 (mg_of X G a15) F15.kp b15 (fun ds Q' _ h=>zo5 ds Q' h)
  have G17:=zpl (P:=l.prog) (w:=w) (mg:=mg) (base:=base) (sp:=qy) T F17 (fun ds Q' _ h=>zp0 ds Q' h)
  have G18:=zle (P:=l.prog) (w:=w) (mg:=mg) (base:=base) (sp:=z8) T F18 (mg_none_of X G z_sorted) (mg_none_of X G z_enumerate) (fun ds Q' _ h=>zmg ds Q' h)
  have G19:=zkf (P:=l.prog) (w:=w) (mg:=mg) (base:=base) (sp:=qi) T F19 (mg_none_of X G z_enumerate) (fun ds Q' _ h=>zk3 ds Q' h)
  have G20:=zr4 (P:=l.prog) (w:=w) (mg:=mg) (base:=base) (sp:=jb) T F20 (fun ds Q' _ h=>zt0 ds Q' h)
  have G21:=zpm (P:=l.prog) (w:=w) (mg:=mg) (base:=base) (sp:=qz) T F21 G19 (mg_of X G a19) F19.kp b19 G20 (mg_of X G a20) F20.kp b20 (mg_none_of X G z_enumerate) (mg_none_of X G z_len) (mg_none_of X G z_sorted) (mg_none_of X G z_list) (fun ds Q' _ h=>zp1 ds Q' h)
  exact zzh (sp:=sp_law) T F22 G0 (mg_of X G a0) F0.kp b0 G3 (mg_of X G a3) F3.kp b3 G5 (mg_of X G a5) F5.kp b5 kb5_0 hd5_0 G16 (mg_of X G a16) F16.kp kb16_0 hd16_0 kb16_1 hd16_1 G17 (mg_of X G a17) F17.kp b17 kb17_0 hd17_0 G18 (mg_of X G a18) F18.kp b18 kb18_0 hd18_0 G21 (mg_of X G a21) F21.kp b21 kb21_0 hd21_0 (mg_none_of X G z_range) (fun ds Q' _ h=>z0i ds Q' h)
set_option maxHeartbeats 0 in
theorem rowFacts {l:PySem.W.OpenLaw} {w:World} {K:Frag} {h:Heap} {mg:Str→Option Value} {fa:Addr} (X:K.In h) (G:h.Ns mainGlobals mg) (hfa:mg "law" = some (.ref fa)) (c:SaysA chk fnl K) :
    K.lookup sysModules=none∧∃ fd:FuncData,(∀ (s:Shared) (v:Value),BindsTo s fd ⟨[v],[]⟩ [("_law_script", v)])∧∀ base:Heap,K.In base→base.Ns mainGlobals mg→FnAt l.prog w K mg base callerA fa fd ["_law_script"] (spD K 1 sp_law):=by
  obtain ⟨oc0,od0,sl0,kV0,dc0,pm0,an0,cd0,ct0,l0,c0⟩:=c.def_ 0 rfl
  obtain ⟨oc1,od1,sl1,kV1,dc1,pm1,an1,cd1,ct1,l1,c1⟩:=c.def_ 1 rfl
  obtain ⟨oc2,od2,sl2,kV2,dc2,pm2,an2,cd2,ct2,l2,c2⟩:=c.def_ 2 rfl
  obtain ⟨oc3,od3,sl3,kV3,dc3,pm3,an3,cd3,ct3,l3,c3⟩:=c.def_ 3 rfl
  obtain ⟨oc4,od4,sl4,kV4,dc4,pm4,an4,cd4,ct4,l4,c4⟩:=c.def_ 4 rfl
  obtain ⟨oc5,od5,sl5,kV5,dc5,pm5,an5,cd5,ct5,l5,c5⟩:=c.def_ 5 rfl
  obtain ⟨oc6,od6,sl6,kV6,dc6,pm6,an6,cd6,ct6,l6,c6⟩:=c.def_ 6 rfl
  obtain ⟨oc7,od7,sl7,kV7,dc7,pm7,an7,cd7,ct7,l7,c7⟩:=c.def_ 7 rfl
  obtain ⟨oc8,od8,sl8,kV8,dc8,pm8,an8,cd8,ct8,l8,c8⟩:=c.def_ 8 rfl
  obtain ⟨oc9,od9,sl9,kV9,dc9,pm9,an9,cd9,ct9,l9,c9⟩:=c.def_ 9 rfl
  obtain ⟨oc10,od10,sl10,kV10,dc10,pm10,an10,cd10,ct10,l10,c10⟩:=c.def_ 10 rfl
  obtain ⟨oc11,od11,sl11,kV11,dc11,pm11,an11,cd11,ct11,l11,c11⟩:=c.def_ 11 rfl
  obtain rfl:=zit (c.is 62 rfl) l11
  obtain ⟨oc12,od12,sl12,kV12,dc12,pm12,an12,cd12,ct12,l12,c12⟩:=c.def_ 12 rfl
  obtain rfl:=zit (c.is 63 rfl) l12
  obtain ⟨oc13,od13,sl13,kV13,dc13,pm13,an13,cd13,ct13,l13,c13⟩:=c.def_ 13 rfl
  obtain rfl:=zit (c.is 64 rfl) l13
  obtain ⟨oc14,od14,sl14,kV14,dc14,pm14,an14,cd14,ct14,l14,c14⟩:=c.def_ 14 rfl
  obtain ⟨oc15,od15,sl15,kV15,dc15,pm15,an15,cd15,ct15,l15,c15⟩:=c.def_ 15 rfl
  obtain ⟨oc16,od16,sl16,kV16,dc16,pm16,an16,cd16,ct16,l16,c16⟩:=c.def_ 16 rfl
  obtain rfl:=zit (c.is 65 rfl) l16
  obtain ⟨oc17,od17,sl17,kV17,dc17,pm17,an17,cd17,ct17,l17,c17⟩:=c.def_ 17 rfl
  obtain ⟨oc18,od18,sl18,kV18,dc18,pm18,an18,cd18,ct18,l18,c18⟩:=c.def_ 18 rfl
  obtain ⟨oc19,od19,sl19,kV19,dc19,pm19,an19,cd19,ct19,l19,c19⟩:=c.def_ 19 rfl
  obtain ⟨oc20,od20,sl20,kV20,dc20,pm20,an20,cd20,ct20,l20,c20⟩:=c.def_ 20 rfl
  obtain ⟨oc21,od21,sl21,kV21,dc21,pm21,an21,cd21,ct21,l21,c21⟩:=c.def_ 21 rfl
  obtain ⟨oc22,od22,sl22,kV22,dc22,pm22,an22,cd22,ct22,l22,c22⟩:=c.def_ 22 rfl
  obtain ⟨_,_,_,u13_names⟩:=zp4 (c.is 30 rfl)
  obtain ⟨_,_,_,u13_places⟩:=zp4 (c.is 32 rfl)
  exact zzi (l:=l) (w:=w) (f0:=A_f0 K) (f1:=A_f1 K) (f2:=A_f2 K) (f3:=A_f3 K) (f4:=A_f4 K) (f5:=A_f5 K) (f6:=A_f6 K) (f7:=A_f7 K) (f8:=A_f8 K) (f9:=A_f9 K) (f10:=zm5 K) (f11:=zg0 K) (dk11:=zr7 K) (f12:=zg1 K) (dk12:=zr8 K) (f13:=zg2 K) (dk13:=zf1 K) (t13_names:=zdv K) (t13_places:=zcv K) (f14:=zm6 K) (f15:=zm7 K) (f16:=zg3 K) (dk16:=znt K) (f17:=zm8 K) (f18:=zm9 K) (f19:=zna K) (f20:=znb K) (f21:=znc K) (f22:=znd K) X G hfa (c.is 0 rfl) l0 c0 (c.is 1 rfl) (c.is 2 rfl) l1 c1 (c.is 3 rfl) (c.is 4 rfl) l2 c2 (c.is 5 rfl) (c.is 6 rfl) l3 c3 (c.is 7 rfl) (c.is 8 rfl) l4 c4 (c.is 9 rfl) (c.is 10 rfl) l5 c5 (c.is 11 rfl) (c.is 12 rfl) l6 c6 (c.is 13 rfl) (c.is 14 rfl) l7 c7 (c.is 15 rfl) (c.is 16 rfl) l8 c8 (c.is 17 rfl) (c.is 18 rfl) l9 c9 (c.is 19 rfl) (c.is 20 rfl) l10 c10 (c.is 21 rfl) (c.is 22 rfl) l11 (c.is 23 rfl) c11 (c.is 24 rfl) (c.is 25 rfl) l12 (c.is 26 rfl) c12 (c.is 27 rfl) (c.is 28 rfl) l13 (c.is 29 rfl) u13_names (c.is 31 rfl) u13_places c13 (c.is 33 rfl) (c.is 34 rfl) l14 c14 (c.is 35 rfl) (c.is 36 rfl) l15 c15 (c.is 37 rfl) (c.is 38 rfl) l16 (c.is 39 rfl) (c.is 40 rfl) c16 (c.is 41 rfl) (c.is 42 rfl) l17 c17 (c.is 43 rfl) (c.is 44 rfl) l18 c18 (c.is 45 rfl) (c.is 46 rfl) l19 c19 (c.is 47 rfl) (c.is 48 rfl) l20 c20 (c.is 49 rfl) (c.is 50 rfl) l21 c21 (c.is 51 rfl) (c.is 52 rfl) l22 c22 (c.is 53 rfl) (c.is 54 rfl) (c.is 55 rfl) (c.is 56 rfl) (c.is 57 rfl) (c.is 58 rfl) (c.is 59 rfl) (c.is 60 rfl) (c.is 61 rfl)
end K32
end Mv
open PySem PySem.W PySem.Calls PyProof.Rows
set_option maxHeartbeats 0 in
theorem PySem.Challenge.cw_keptnames_k32_naming_by_name_holds : PySem.Challenge.rw_keptnames_k32_naming_by_name.Holds := by
  w_on; o_law
  refine HandSHeadRun.head_any (r:=OpenLaw.row PySem.Challenge.rw_keptnames_k32_naming_by_name) (q:=view (OpenLaw.row PySem.Challenge.rw_keptnames_k32_naming_by_name).prog [27]) (H:=Mv.hookA Mv.K32.tops Mv.K32.chk Mv.K32.fnl) (ob:=fun s=>Mv.obGA Mv.K32.tops Mv.K32.chk Mv.K32.fnl (HandSHeadRun.getT s)) (M:=40000) (loose:=Mv.K32.loose) (d:=HandSHeadRun.topDef (OpenLaw.row PySem.Challenge.rw_keptnames_k32_naming_by_name).prog 27) (kwd:=[]) (fun s=>Mv.obGA_eq (HandSHeadRun.getT_eq s))
    (by kernel_rfl) (fun s=>by kernel_rfl) Mv.K32.rowRun (by kernel_rfl) (by kernel_rfl) (by kernel_rfl) (by rfl) (by first | assumption | decide +kernel) (by decide +kernel) ⟨rfl,rfl,rfl,rfl,rfl,by decide +kernel⟩ ?hw ?hc
  case hw=>w_witness2
  case hc =>
    refine Mv.walk_mvE (l:=PySem.Challenge.rw_keptnames_k32_naming_by_name) (n:=63) (x:="_law_script") (sp:=Mv.K32.sp_law) rfl (by decide) (by kernel_rfl) (by kernel_rfl) ?F (fun ns hl hb=>⟨ns,fun b=>b=true,rfl,Mv.K32.law_ok ns hl hb,fun r hr=>by subst hr; rfl⟩)
    intro w mg fa h Y G hmg0
    obtain ⟨K,KX,c⟩:=Y
    have hmg:mg ("law" : PySem.Str)=some (.ref fa):=by
      have e:(HandSHeadRun.topDef (OpenLaw.row PySem.Challenge.rw_keptnames_k32_naming_by_name).prog 27).name=("law" : PySem.Str):=by kernel_rfl
      rw [← e]
      exact hmg0
    exact ⟨K,KX,Mv.K32.rowFacts KX G hmg c⟩
