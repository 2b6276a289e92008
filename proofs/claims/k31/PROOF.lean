import PyProof.Rows.All
import Wide.All
import OpenK.AllK
import Wide.FinOn
import HandS.Words
import HandS.WordsExc
import HandS.Defaults
import HandS.Ends
import HandS.ExcInit
import HandS.Head0
import HandS.Head1
import HandS.Head2
import HandS.HeadEnd
import HandS.HeadHook1
import HandS.HeadHook2
import HandS.ForMost
import HandS.Wide
import HandS.Flow
import HandS.Style
import HandS.DictTup
import HandS.TupAny
import HandS.More
import HandS.Conv
import PyProof.TupleOfSeq
import KE.SortData
import HandS.Finally
import HandS.EndBits
import PyProof.ReprReads
import PyProof.ReprRoads
import PyProof.CallFns
import KE.KDictCopyH
import HandS.DictComp
import HandS.IsInst
import HandS.MakeKwOnly
import PyProof.Rows.SetFrom
import HandS.TupSets
import KE.KDictWalk
import HandS.NoneIn
import HandS.SetFor
import HandS.SetKeys
import PyProof.SumAny
import KE.KDictPairs
import KE.LtData
import KE.KEqNest
import PyProof.NeKinds
import PyProof.StrOps2
import PyProof.DictUpdate
import PyProof.EvalArms
import PyProof.DictMoreH
import KE.SortCalls
import HandS.Star
import HandS.Property
import HandS.ClsMeth
import PyProof.FitsInt
import PyProof.StrLawsRepr
import HandS.ExcField
import HandS.ExcOwn
import HandS.TryOnly
import PySem.Challenge.RW_keptnames_k31_whole_few_items_move
set_option Elab.async false
set_option linter.all false
set_option maxRecDepth 100000
set_option maxHeartbeats 4000000
namespace Mv
open PySem PySem.Spec PyProof.Rows L2
structure DefA where
  at_ : PySem.W.Frag → Addr
  name : Str
  qual : Str
  st : Stmt
abbrev FnU : Type := Option (Str × Str × Arguments × FuncBody × Scope × Addr × List (Str × Addr) × Value × Addr)
def fnU (K : PySem.W.Frag) (a : Addr) : FnU := match K.lookup a with
  | some ⟨_, _, .func fd, _⟩ => some (fd.name, fd.qualname, fd.params, fd.body, fd.scope, fd.globals, fd.closure, fd.defaults, fd.builtins)
  | _ => none
def zla (K : PySem.W.Frag) (a : Addr) (q : Str) : Bool := match K.lookup a with
  | some ⟨_, _, .func fd, _⟩ => PySem.W.codeIn K fd.code q
  | _ => false
def DefA.val (d : DefA) : FnU := some (d.name, d.qual, defArgs d.st, .stmts (defBody d.st), defScope d.st, mainGlobals, [], .none, builtinsNs)
theorem zyy {K : PySem.W.Frag} {d : DefA} (e : fnU K (d.at_ K) = d.val) (c : zla K (d.at_ K) d.qual = true) :
    ∃ oc od osl kV doc pm an cdv ct, K.lookup (d.at_ K) = some ⟨oc, od, .func (PySem.W.fnOf d.name d.qual (defArgs d.st) (defBody d.st) (defScope d.st) .none kV doc pm an cdv ct), osl⟩ ∧ PySem.W.codeIn K cdv d.qual = true := by
  unfold zla at c
  unfold fnU at e
  cases q : K.lookup (d.at_ K) with
  | none =>
    rw [q] at c
    cases c
  | some o =>
    obtain ⟨oc, od, dt, osl⟩ := o
    rw [q] at c e
    cases dt with
    | func fd =>
      obtain ⟨n1, n2, n3, n4, n5, n6, n7, n8, n9, n10, n11, n12, n13, n14, n15⟩ := fd
      have e2 : (some (n1, n2, n3, n4, n5, n6, n7, n8, n15) : FnU) = some (d.name, d.qual, defArgs d.st, .stmts (defBody d.st), defScope d.st, mainGlobals, [], .none, builtinsNs) := e
      simp only [Option.some.injEq, Prod.mk.injEq] at e2
      obtain ⟨h1, h2, h3, h4, h5, h6, h7, h8, h9⟩ := e2
      subst h1 h2 h3 h4 h5 h6 h7 h8 h9
      exact ⟨oc, od, osl, n9, n10, n11, n12, n13, n14, rfl, c⟩
    | _ => cases c
abbrev AlA : Type := Bool × List FnU
def obsA (ch : PySem.W.Frag → List Bool) (fn : List DefA) (K : PySem.W.Frag) : AlA := ((ch K).all id && fn.all fun d => zla K (d.at_ K) d.qual, fn.map fun d => fnU K (d.at_ K))
def valA (fn : List DefA) : AlA := (true, fn.map DefA.val)
def SaysA (ch : PySem.W.Frag → List Bool) (fn : List DefA) (K : PySem.W.Frag) : Prop := obsA ch fn K = valA fn
def lvls (g : Addr → Option Obj) : Nat → List Addr → List Addr
  | 0, as => as
  | n + 1, as => as ++ lvls g n (as.flatMap fun a => match g a with
    | some o => (He.refsD o).filter fun b => !(b == a)
    | none => [])
def asA (g : Addr → Option Obj) (names : List Str) : List Addr := mainGlobals :: cStatics :: lvls g 5 (names.map (He.ga (He.frG g [mainGlobals])))
def obGA (names : List Str) (ch : PySem.W.Frag → List Bool) (fn : List DefA) (g : Addr → Option Obj) : AlA := obsA ch fn (He.frG g (asA g names))
def hookA (names : List Str) (ch : PySem.W.Frag → List Bool) (fn : List DefA) : PySem.W.Hook where
  α := AlA
  obs := fun s => obGA names ch fn s.heap.get?
  val := fun _ => valA fn
  says := fun _ h => ∃ K : PySem.W.Frag, K.In h ∧ SaysA ch fn K
  of := fun _ _ e => ⟨_, He.frG_in, e⟩
  keeps := fun _ _ _ ⟨K, hK, c⟩ k => ⟨K, PySem.W.Frag.In.keeps hK k, c⟩
theorem obGA_eq {names : List Str} {ch : PySem.W.Frag → List Bool} {fn : List DefA} {g : Addr → Option Obj} {s : Shared} (h : ∀ a, g a = s.heap.get? a) : obGA names ch fn g = (hookA names ch fn).obs s := by
  have e : g = s.heap.get? := funext h
  rw [e] <;> rfl
section
variable {ch : PySem.W.Frag → List Bool} {fn : List DefA} {K : PySem.W.Frag}
theorem SaysA.chk (c : SaysA ch fn K) (i : Nat) {b : Bool} (h : (ch K)[i]? = some b) : b = true := by
  have c1 := (He.ba (show ((ch K).all id && fn.all fun d => zla K (d.at_ K) d.qual) = true from congrArg (fun z : AlA => z.1) c)).1
  exact List.all_eq_true.mp c1 b (List.mem_of_getElem? h)
theorem SaysA.is (c : SaysA ch fn K) (i : Nat) {p : Prop} [Decidable p] (h : (ch K)[i]? = some (decide p)) : p := of_decide_eq_true (c.chk i h)
theorem SaysA.def_ (c : SaysA ch fn K) (i : Nat) {d : DefA} (h : fn[i]? = some d := by rfl) :
    ∃ oc od osl kV doc pm an cdv ct, K.lookup (d.at_ K) = some ⟨oc, od, .func (PySem.W.fnOf d.name d.qual (defArgs d.st) (defBody d.st) (defScope d.st) .none kV doc pm an cdv ct), osl⟩ ∧ PySem.W.codeIn K cdv d.qual = true := by
  have c2 := (He.ba (show ((ch K).all id && fn.all fun d => zla K (d.at_ K) d.qual) = true from congrArg (fun z : AlA => z.1) c)).2
  have e : fn.map (fun d => fnU K (d.at_ K)) = fn.map DefA.val := congrArg (fun z : AlA => z.2) c
  have e2 : (fn.map fun d => fnU K (d.at_ K))[i]? = (fn.map DefA.val)[i]? := by rw [e]
  rw [List.getElem?_map, List.getElem?_map, h] at e2
  exact zyy (Option.some.inj e2) (List.all_eq_true.mp c2 d (List.mem_of_getElem? h))
end
def adO (o : Option (Option Value)) : Addr := match o with
  | some (some (.ref a)) => a
  | _ => 0
def tokO (o : Option (Option Value)) : Tok := match o with
  | some (some (.int _ t)) => t
  | some (some (.str _ t)) => t
  | _ => default
def z3p (o : Option (List Value)) : List Value := match o with
  | some (_ :: r) => r
  | _ => []
def z3q (o : Option (List Value)) : Addr := match o with
  | some (.ref a :: _) => a
  | _ => 0
def kwA (K : PySem.W.Frag) (f : Addr) : Addr := match K.lookup f with
  | some ⟨_, _, .func fd, _⟩ => (match fd.kwdefaults with
    | .ref D => D
    | _ => 0)
  | _ => 0
def kwB (K : PySem.W.Frag) (f : Addr) : Bool := match K.lookup f with
  | some ⟨_, _, .func fd, _⟩ => (match fd.kwdefaults with
    | .ref _ => true
    | _ => false)
  | _ => false
theorem zlb {K : PySem.W.Frag} {f : Addr} {oc : Value} {od : Option Addr} {x q : Str} {ar : Arguments} {b : List Stmt} {sc : Scope} {dV kV doc pm : Value} {an : Option Addr} {cdv ct : Value} {osl : Array (Option Value)} (h : kwB K f = true)
    (l : K.lookup f = some ⟨oc, od, .func (PySem.W.fnOf x q ar b sc dV kV doc pm an cdv ct), osl⟩) : kV = .ref (kwA K f) := by
  unfold kwB at h
  unfold kwA
  rw [l] at h ⊢
  cases kV with
  | ref D => rfl
  | _ => exact nomatch (show false = true from h)
def empB (K : PySem.W.Frag) (t : Addr) : Bool := match K.lookup t with
  | some ⟨.type c, _, .seq its _, _⟩ => decide (c = "tuple") && its.isEmpty
  | _ => false
theorem zsz {K : PySem.W.Frag} {t : Addr} (h : empB K t = true) : ∃ td tn ts, K.lookup t = some ⟨.type "tuple", td, .seq #[] tn, ts⟩ := by
  unfold empB at h
  cases q : K.lookup t with
  | none => rw [q] at h; cases h
  | some o =>
    obtain ⟨oc, od, dt, osl⟩ := o
    rw [q] at h
    cases oc with
    | type c =>
      cases dt with
      | seq its n =>
        obtain ⟨h1, h2⟩ := He.ba (show (decide (c = "tuple") && its.isEmpty) = true from h)
        rw [of_decide_eq_true h1, Array.isEmpty_iff.mp h2]
        exact ⟨_, _, _, rfl⟩
      | _ => cases h
    | _ => cases dt <;> cases h
def cmA (K : PySem.W.Frag) (C : Addr) (m : Str) : Addr := match PySem.W.findCls K (.ref C) (.type "type") m with
  | some (.get _ (.ref p) _ _) => p
  | _ => 0
def cmB (K : PySem.W.Frag) (C : Addr) (m : Str) : Bool := match PySem.W.findCls K (.ref C) (.type "type") m with
  | some (.get (.builtin g) (.ref _) .none (.ref D)) => decide (g = "classmethod.__get__") && decide (D = C)
  | _ => false
theorem z3o {K : PySem.W.Frag} {C : Addr} {m : Str} (h : cmB K C m = true) : PySem.W.findCls K (.ref C) (.type "type") m = some (.get (.builtin "classmethod.__get__") (.ref (cmA K C m)) .none (.ref C)) := by
  unfold cmB at h
  unfold cmA
  split at h
  · rename_i g p D e
    obtain ⟨h1, h2⟩ := He.ba h
    rw [e, of_decide_eq_true h1, of_decide_eq_true h2]
  · cases h
def excB (K : PySem.W.Frag) (C : Addr) : Bool := match K.lookup C with
  | some ⟨.type "type", _, .cls cd, sl⟩ => (match cd.mro, sl.toList with
    | .ref C' :: bm, [_, _, _, _, some (.builtin n), _] => (C' == C && (n == "ValueError.__new__" && (!cd.hasDel && (cd.hasDict && PySem.HandSPX.refsVE bm))))
    | _, _ => false)
  | _ => false
theorem z3n {K : PySem.W.Frag} {C : Addr} (q : excB K C = true) : ∃ nm qn NS bs bm sn sub ab col dd k0 k1 k2 k3 k5, K.lookup C = some (excClassObj nm qn C NS bs bm true sn sub ab col dd k0 k1 k2 k3 k5 "ValueError.__new__") ∧ PySem.HandSPX.refsVE bm = true := by
  unfold excB at q
  split at q
  · rename_i dd cd sl ho
    split at q
    · rename_i C' bm k0 k1 k2 k3 n k5 hm hs
      simp only [Bool.and_eq_true, beq_iff_eq, Bool.not_eq_true'] at q
      obtain ⟨rfl, rfl, hdel, hdict, hr⟩ := q
      obtain ⟨nm, bs, mro, ns, qn, hd, sn, sub, ab, col, del⟩ := cd
      dsimp only at hm hdel hdict
      subst hm hdel hdict
      have hsl : sl = #[k0, k1, k2, k3, some (.builtin "ValueError.__new__"), k5] := by
        obtain ⟨l⟩ := sl
        simp only at hs
        rw [hs]
      subst hsl
      exact ⟨nm, qn, ns, bs, bm, sn, sub, ab, col, dd, k0, k1, k2, k3, k5, ho, hr⟩
    · cases q
  · cases q
def zyi (K : PySem.W.Frag) (C : Addr) : Bool := match PySem.W.findCls K (.ref C) (.type "type") "__init__" with
  | some (.val (.builtin x)) => decide (x = "ValueError.__init__")
  | _ => false
theorem z3k {K : PySem.W.Frag} {C : Addr} (h : zyi K C = true) : PySem.W.findCls K (.ref C) (.type "type") "__init__" = some (.val (.builtin "ValueError.__init__")) := by
  unfold zyi at h
  split at h
  · rename_i x e
    rw [e, of_decide_eq_true h]
  · cases h
theorem z3l {R : PySem.W.OpenRow} {q : Program} {M : Nat} {loose names : List Str} {w : World} {c0 c1 : PySem.W.Frag → List Bool} {fn : List DefA}
    (h0 : HandSHeadRun.RunEq R q (hookA names c0 fn) (fun s => obGA names c0 fn (HandSHeadRun.getT s)) M loose w) (h1 : HandSHeadRun.RunEq R q (hookA names c1 []) (fun s => obGA names c1 [] (HandSHeadRun.getT s)) M loose w) :
    HandSHeadRun.RunEq R q (hookA names (fun K => c0 K ++ c1 K) fn) (fun s => obGA names (fun K => c0 K ++ c1 K) fn (HandSHeadRun.getT s)) M loose w := by
  intro os
  obtain ⟨s, es, e0⟩ := Option.map_eq_some_iff.mp (h0 os)
  obtain ⟨s', es', e1⟩ := Option.map_eq_some_iff.mp (h1 os)
  rw [es] at es'
  cases es'
  refine Option.map_eq_some_iff.mpr ⟨s, es, ?_⟩
  have a1 := congrArg (fun z => z.1) e0
  have a2 := congrArg (fun z => z.2.1) e0
  have a3 : obGA names c0 fn (HandSHeadRun.getT s) = valA fn := congrArg (fun z => z.2.2) e0
  have b3 : obGA names c1 [] (HandSHeadRun.getT s) = valA [] := congrArg (fun z => z.2.2) e1
  refine Prod.ext a1 (Prod.ext a2 ?_)
  show obGA names (fun K => c0 K ++ c1 K) fn (HandSHeadRun.getT s) = valA fn
  unfold obGA obsA valA at a3 b3 ⊢
  have p1 := congrArg (fun z : AlA => z.1) a3
  have p2 := congrArg (fun z : AlA => z.2) a3
  have r1 := congrArg (fun z : AlA => z.1) b3
  dsimp only at p1 p2 r1
  rw [Bool.and_eq_true] at p1 r1
  refine Prod.ext ?_ p2
  show ((c0 _ ++ c1 _).all id && _) = true
  rw [List.all_append, p1.1, r1.1, p1.2]; rfl
end Mv
namespace Mv
namespace K31
open PySem PySem.Spec PyProof.Rows L2
/-! ### the text: printed by cgen.py -/
def topS (i : Nat) : Stmt := PySem.Challenge.pw_keptnames_k31_whole_few_items_move.main.body.getD i (.Pass ⟨0, 0, 0, 0⟩)
abbrev vm : Stmt := topS 26
abbrev zn5 : List Str := ["_law_script", "_law_start", "_law_seed", "_law_number", "_law_digits"]
theorem zfq : FnScope zn5 ["_law_script", "_law_start"] (defScope vm) := ⟨rfl, rfl, rfl, by decide +kernel, rfl, by decide +kernel, by decide +kernel⟩
abbrev uo : Stmt := topS 27
abbrev zsk : List Str := ["_law_stream_here", "_law_size", "_law_found"]
theorem zib : FnScope zsk ["_law_stream_here", "_law_size"] (defScope uo) := ⟨rfl, rfl, rfl, by decide +kernel, rfl, by decide +kernel, by decide +kernel⟩
abbrev vn : Stmt := topS 28
abbrev zn6 : List Str := ["_law_stream_here", "_law_items"]
theorem zfr : FnScope zn6 ["_law_stream_here", "_law_items"] (defScope vn) := ⟨rfl, rfl, rfl, by decide +kernel, rfl, by decide +kernel, by decide +kernel⟩
abbrev ub : Stmt := topS 29
abbrev zp2 : List Str := ["_law_stream_here", "_law_left", "_law_groups", "_law_turn", "_law_group", "_law_more", "_law_labels", "_law_weights", "_law_row_id", "_law_stuck", "_law_name"]
theorem zhj : FnScope zp2 ["_law_stream_here"] (defScope ub) := ⟨rfl, rfl, rfl, by decide +kernel, rfl, by decide +kernel, by decide +kernel⟩
abbrev v8 : Stmt := topS 18
abbrev zj8 : List Str := ["groups", "names", "name", "place", "row_id"]
theorem zic : FnScope zj8 ["groups", "names"] (defScope v8) := ⟨rfl, rfl, rfl, by decide +kernel, rfl, by decide +kernel, by decide +kernel⟩
abbrev jp : Stmt := topS 30
abbrev zec : List Str := ["_law_stream_here", "_law_groups", "_law_found", "_law_moved_here", "_law_group", "_law_turn", "_law_place", "_law_other", "_law_row_id", "_the_world"]
theorem zhk : FnScope zec ["_law_stream_here", "_law_groups"] (defScope jp) := ⟨rfl, rfl, rfl, by decide +kernel, rfl, by decide +kernel, by decide +kernel⟩
abbrev jr : Stmt := topS 22
abbrev zhl : List Str := ["labels", "groups", "names", "found", "place", "group", "row_id"]
theorem zfs : FnScope zhl ["labels", "groups", "names"] (defScope jr) := ⟨rfl, rfl, rfl, by decide +kernel, rfl, by decide +kernel, by decide +kernel⟩
abbrev vo : Stmt := topS 7
abbrev zn7 : List Str := ["labels", "groups", "weights", "found", "place", "group", "row_id", "key"]
theorem zft : FnScope zn7 ["labels", "groups", "weights"] (defScope vo) := ⟨rfl, rfl, rfl, by decide +kernel, rfl, by decide +kernel, by decide +kernel⟩
abbrev x8 : Stmt := topS 4
abbrev ze4 : List Str := ["entries", "pairs", "prices", "row", "column", "is_changed", "key", "weight", "gain"]
theorem zed : FnScope ze4 ["entries", "pairs"] (defScope x8) := ⟨rfl, rfl, rfl, by decide +kernel, rfl, by decide +kernel, by decide +kernel⟩
abbrev vd : Stmt := topS 5
abbrev zid : List Str := ["entries", "pairs", "prices", "found", "row", "column"]
theorem zhm : FnScope zid ["entries", "pairs"] (defScope vd) := ⟨rfl, rfl, rfl, by decide +kernel, rfl, by decide +kernel, by decide +kernel⟩
abbrev vp : Stmt := topS 1
abbrev zn8 : List Str := ["entries", "found", "key"]
theorem zfu : FnScope zn8 ["entries"] (defScope vp) := ⟨rfl, rfl, rfl, by decide +kernel, rfl, by decide +kernel, by decide +kernel⟩
abbrev ve : Stmt := topS 2
abbrev zie : List Str := ["rows", "pairs", "owners", "gains", "row", "moves", "is_changed", "entries", "column", "weight", "gain", "other"]
theorem zhn : FnScope zie ["rows", "pairs", "owners"] (defScope ve) := ⟨rfl, rfl, rfl, by decide +kernel, rfl, by decide +kernel, by decide +kernel⟩
abbrev x9 : Stmt := topS 3
abbrev zke : List Str := ["entries", "every", "rows", "pairs", "owners", "first", "own", "moves", "row", "column", "other"]
theorem zdu : FnScope zke ["entries"] (defScope x9) := ⟨rfl, rfl, rfl, by decide +kernel, rfl, by decide +kernel, by decide +kernel⟩
abbrev js : Stmt := topS 9
abbrev zho : List Str := ["table", "name", "place"]
theorem zfv : FnScope zho ["table"] (defScope js) := ⟨rfl, rfl, rfl, by decide +kernel, rfl, by decide +kernel, by decide +kernel⟩
abbrev jg : Stmt := topS 10
abbrev zfw : List Str := ["table", "name", "place"]
theorem ze5 : FnScope zfw ["table"] (defScope jg) := ⟨rfl, rfl, rfl, by decide +kernel, rfl, by decide +kernel, by decide +kernel⟩
abbrev xq : Stmt := topS 11
abbrev zn9 : List Str := ["table", "homes", "names", "places", "powers", "name", "found", "key", "weight", "place", "is_home", "digit", "rank"]
theorem zfx : FnScope zn9 ["table", "homes"] (defScope xq) := ⟨rfl, rfl, rfl, by decide +kernel, rfl, by decide +kernel, by decide +kernel⟩
abbrev q7 : Stmt := topS 14
abbrev zlc : List Str := ["table", "homes"]
theorem zee : FnScope zlc ["table", "homes"] (defScope q7) := ⟨rfl, rfl, rfl, by decide +kernel, rfl, by decide +kernel, by decide +kernel⟩
abbrev vq : Stmt := topS 24
abbrev zoa : List Str := ["table"]
theorem zfy : FnScope zoa ["table"] (defScope vq) := ⟨rfl, rfl, rfl, by decide +kernel, rfl, by decide +kernel, by decide +kernel⟩
abbrev xp : Stmt := topS 13
abbrev zef : List Str := ["table", "carrying", "name", "place"]
theorem zdv : FnScope zef ["table", "carrying"] (defScope xp) := ⟨rfl, rfl, rfl, by decide +kernel, rfl, by decide +kernel, by decide +kernel⟩
abbrev ja : Stmt := topS 15
abbrev zkf : List Str := ["table"]
theorem zdw : FnScope zkf ["table"] (defScope ja) := ⟨rfl, rfl, rfl, by decide +kernel, rfl, by decide +kernel, by decide +kernel⟩
abbrev qy : Stmt := topS 31
abbrev zcv : List Str := ["_law_stream_here", "_law_labels", "_law_groups", "_law_weights", "_law_table", "_law_other", "_law_row_id", "_law_amount", "_law_changed", "_law_one", "_law_two", "_law_name"]
theorem zce : FnScope zcv ["_law_stream_here", "_law_labels", "_law_groups", "_law_weights"] (defScope qy) := ⟨rfl, rfl, rfl, by decide +kernel, rfl, by decide +kernel, by decide +kernel⟩
abbrev v9 : Stmt := topS 17
abbrev zj9 : List Str := ["groups", "place", "group", "row_id"]
theorem zif : FnScope zj9 ["groups"] (defScope v9) := ⟨rfl, rfl, rfl, by decide +kernel, rfl, by decide +kernel, by decide +kernel⟩
abbrev jl : Stmt := topS 19
abbrev zld : List Str := ["groups", "pins", "places", "found", "taken", "name", "place"]
theorem zeg : FnScope zld ["groups", "pins"] (defScope jl) := ⟨rfl, rfl, rfl, by decide +kernel, rfl, by decide +kernel, by decide +kernel⟩
abbrev vr : Stmt := topS 8
abbrev zng : List Str := ["table", "names", "places", "key"]
theorem zle : FnScope zng ["table", "names", "places"] (defScope vr) := ⟨rfl, rfl, rfl, by decide +kernel, rfl, by decide +kernel, by decide +kernel⟩
abbrev vg : Stmt := topS 20
abbrev zig : List Str := ["labels", "groups", "weights", "pins", "places", "pinned", "row_id"]
theorem zhp : FnScope zig ["labels", "groups", "weights", "pins"] (defScope vg) := ⟨rfl, rfl, rfl, by decide +kernel, rfl, by decide +kernel, by decide +kernel⟩
abbrev xr : Stmt := topS 21
abbrev zih : List Str := ["labels", "groups", "weights", "pins", "homes", "counting", "places", "found", "name", "row_id"]
theorem zhq : FnScope zih ["labels", "groups", "weights", "pins", "homes"] (defScope xr) := ⟨rfl, rfl, rfl, by decide +kernel, rfl, by decide +kernel, by decide +kernel⟩
abbrev y1 : Stmt := topS 32
abbrev zo7 : List Str := ["_law_script", "_law_start", "_law_stream_here", "_law_groups", "_law_labels", "_law_weights", "_law_stuck", "_law_names", "_law_place", "_law_told", "_law_fresh", "_law_moved_here", "_law_ids", "_law_row_id"]
theorem zva : FnScope zo7 ["_law_script"] (defScope y1) := ⟨rfl, rfl, rfl, by decide +kernel, rfl, by decide +kernel, by decide +kernel⟩
def z0s : List Str := ["row_entries", "best_moves", "greatest_pairs", "column_prices", "row_worths", "label_table", "without", "table_names", "table_places", "exact_table", "carrying_value", "best_carrying", "greatest_value", "places_of", "labels_of", "counting_pins", "open_table", "carry_over", "renamed_ids", "name_worths", "_law_stream", "_law_draw", "_law_choose", "_law_drawn", "_law_moved", "_law_worths_right"]
def loose : List Str := z0s
def z2e : List Str := ["_law_stream", "_law_draw", "_law_choose", "_law_drawn", "labels_of", "_law_moved", "renamed_ids", "label_table", "column_prices", "row_worths", "row_entries", "best_moves", "greatest_pairs", "table_names", "table_places", "exact_table", "best_carrying", "name_worths", "carrying_value", "greatest_value", "_law_worths_right", "places_of", "counting_pins", "without", "open_table", "carry_over", "law"]
def tops : List Str := z2e
def A_f0 (K : PySem.W.Frag) : Addr := He.ga K "_law_stream"
def A_f1 (K : PySem.W.Frag) : Addr := He.ga K "_law_draw"
def A_f2 (K : PySem.W.Frag) : Addr := He.ga K "_law_choose"
def A_f3 (K : PySem.W.Frag) : Addr := He.ga K "_law_drawn"
def A_f4 (K : PySem.W.Frag) : Addr := He.ga K "labels_of"
def A_f5 (K : PySem.W.Frag) : Addr := He.ga K "_law_moved"
def A_f6 (K : PySem.W.Frag) : Addr := He.ga K "renamed_ids"
def A_f7 (K : PySem.W.Frag) : Addr := He.ga K "label_table"
def A_f8 (K : PySem.W.Frag) : Addr := He.ga K "column_prices"
def A_f9 (K : PySem.W.Frag) : Addr := He.ga K "row_worths"
def zo8 (K : PySem.W.Frag) : Addr := He.ga K "row_entries"
def zo9 (K : PySem.W.Frag) : Addr := He.ga K "best_moves"
def zpa (K : PySem.W.Frag) : Addr := He.ga K "greatest_pairs"
def zpb (K : PySem.W.Frag) : Addr := He.ga K "table_names"
def zpc (K : PySem.W.Frag) : Addr := He.ga K "table_places"
def zjm (K : PySem.W.Frag) : Addr := He.ga K "exact_table"
def zvb (K : PySem.W.Frag) : Addr := kwA K (zjm K)
def zjn (K : PySem.W.Frag) : Addr := He.ga K "best_carrying"
def zvc (K : PySem.W.Frag) : Addr := kwA K (zjn K)
def zpd (K : PySem.W.Frag) : Addr := He.ga K "name_worths"
def zpe (K : PySem.W.Frag) : Addr := He.ga K "carrying_value"
def zpf (K : PySem.W.Frag) : Addr := He.ga K "greatest_value"
def zpg (K : PySem.W.Frag) : Addr := He.ga K "_law_worths_right"
def zph (K : PySem.W.Frag) : Addr := He.ga K "places_of"
def zpi (K : PySem.W.Frag) : Addr := He.ga K "counting_pins"
def zjo (K : PySem.W.Frag) : Addr := He.ga K "without"
def zii (K : PySem.W.Frag) : Addr := kwA K (zjo K)
def zfl (K : PySem.W.Frag) : Addr := adO (PySem.W.nsIn K (zii K) "names")
def zeh (K : PySem.W.Frag) : Addr := adO (PySem.W.nsIn K (zii K) "places")
def zpj (K : PySem.W.Frag) : Addr := He.ga K "open_table"
def zjp (K : PySem.W.Frag) : Addr := He.ga K "carry_over"
def zp3 (K : PySem.W.Frag) : Addr := kwA K (zjp K)
def zpk (K : PySem.W.Frag) : Addr := He.ga K "law"
def z0t (K : PySem.W.Frag) : List Bool := [decide (PySem.W.nsIn K mainGlobals "_law_stream" = some (some (.ref (A_f0 K)))),
  decide (PySem.W.keepIn K (.ref (A_f0 K)) = true),
  decide (PySem.W.nsIn K mainGlobals "_law_draw" = some (some (.ref (A_f1 K)))),
  decide (PySem.W.keepIn K (.ref (A_f1 K)) = true),
  decide (PySem.W.nsIn K mainGlobals "_law_choose" = some (some (.ref (A_f2 K)))),
  decide (PySem.W.keepIn K (.ref (A_f2 K)) = true),
  decide (PySem.W.nsIn K mainGlobals "_law_drawn" = some (some (.ref (A_f3 K)))),
  decide (PySem.W.keepIn K (.ref (A_f3 K)) = true),
  decide (PySem.W.nsIn K mainGlobals "labels_of" = some (some (.ref (A_f4 K)))),
  decide (PySem.W.keepIn K (.ref (A_f4 K)) = true),
  decide (PySem.W.nsIn K mainGlobals "_law_moved" = some (some (.ref (A_f5 K)))),
  decide (PySem.W.keepIn K (.ref (A_f5 K)) = true),
  decide (PySem.W.nsIn K mainGlobals "renamed_ids" = some (some (.ref (A_f6 K)))),
  decide (PySem.W.keepIn K (.ref (A_f6 K)) = true),
  decide (PySem.W.nsIn K mainGlobals "label_table" = some (some (.ref (A_f7 K)))),
  decide (PySem.W.keepIn K (.ref (A_f7 K)) = true),
  decide (PySem.W.nsIn K mainGlobals "column_prices" = some (some (.ref (A_f8 K)))),
  decide (PySem.W.keepIn K (.ref (A_f8 K)) = true),
  decide (PySem.W.nsIn K mainGlobals "row_worths" = some (some (.ref (A_f9 K)))),
  decide (PySem.W.keepIn K (.ref (A_f9 K)) = true),
  decide (PySem.W.nsIn K mainGlobals "row_entries" = some (some (.ref (zo8 K)))),
  decide (PySem.W.keepIn K (.ref (zo8 K)) = true),
  decide (PySem.W.nsIn K mainGlobals "best_moves" = some (some (.ref (zo9 K)))),
  decide (PySem.W.keepIn K (.ref (zo9 K)) = true),
  decide (PySem.W.nsIn K mainGlobals "greatest_pairs" = some (some (.ref (zpa K)))),
  decide (PySem.W.keepIn K (.ref (zpa K)) = true),
  decide (PySem.W.nsIn K mainGlobals "table_names" = some (some (.ref (zpb K)))),
  decide (PySem.W.keepIn K (.ref (zpb K)) = true),
  decide (PySem.W.nsIn K mainGlobals "table_places" = some (some (.ref (zpc K)))),
  decide (PySem.W.keepIn K (.ref (zpc K)) = true),
  decide (PySem.W.nsIn K mainGlobals "exact_table" = some (some (.ref (zjm K)))),
  decide (PySem.W.nsIn K (zvb K) "homes" = some (some .none)),
  decide (PySem.W.keepIn K (.ref (zjm K)) = true),
  decide (PySem.W.nsIn K mainGlobals "best_carrying" = some (some (.ref (zjn K)))),
  decide (PySem.W.nsIn K (zvc K) "homes" = some (some .none)),
  decide (PySem.W.keepIn K (.ref (zjn K)) = true),
  decide (PySem.W.nsIn K mainGlobals "name_worths" = some (some (.ref (zpd K)))),
  decide (PySem.W.keepIn K (.ref (zpd K)) = true),
  decide (PySem.W.nsIn K mainGlobals "carrying_value" = some (some (.ref (zpe K)))),
  decide (PySem.W.keepIn K (.ref (zpe K)) = true)]
def z0u (K : PySem.W.Frag) : List Bool := [decide (PySem.W.nsIn K mainGlobals "greatest_value" = some (some (.ref (zpf K)))),
  decide (PySem.W.keepIn K (.ref (zpf K)) = true),
  decide (PySem.W.nsIn K mainGlobals "_law_worths_right" = some (some (.ref (zpg K)))),
  decide (PySem.W.keepIn K (.ref (zpg K)) = true),
  decide (PySem.W.nsIn K mainGlobals "places_of" = some (some (.ref (zph K)))),
  decide (PySem.W.keepIn K (.ref (zph K)) = true),
  decide (PySem.W.nsIn K mainGlobals "counting_pins" = some (some (.ref (zpi K)))),
  decide (PySem.W.keepIn K (.ref (zpi K)) = true),
  decide (PySem.W.nsIn K mainGlobals "without" = some (some (.ref (zjo K)))),
  decide (PySem.W.nsIn K (zii K) "names" = some (some (.ref (zfl K)))),
  decide (empB K (zfl K) = true),
  decide (PySem.W.nsIn K (zii K) "places" = some (some (.ref (zeh K)))),
  decide (empB K (zeh K) = true),
  decide (PySem.W.keepIn K (.ref (zjo K)) = true),
  decide (PySem.W.nsIn K mainGlobals "open_table" = some (some (.ref (zpj K)))),
  decide (PySem.W.keepIn K (.ref (zpj K)) = true),
  decide (PySem.W.nsIn K mainGlobals "carry_over" = some (some (.ref (zjp K)))),
  decide (PySem.W.nsIn K (zp3 K) "pins" = some (some .none)),
  decide (PySem.W.nsIn K (zp3 K) "homes" = some (some .none)),
  decide (PySem.W.keepIn K (.ref (zjp K)) = true),
  decide (PySem.W.nsIn K mainGlobals "law" = some (some (.ref (zpk K)))),
  decide (PySem.W.keepIn K (.ref (zpk K)) = true),
  decide (PySem.W.nsIn K mainGlobals "len" = some none),
  decide (PySem.W.nsIn K mainGlobals "range" = some none),
  decide (PySem.W.nsIn K mainGlobals "tuple" = some none),
  decide (PySem.W.nsIn K mainGlobals "sorted" = some none),
  decide (PySem.W.nsIn K mainGlobals "int" = some none),
  decide (PySem.W.nsIn K mainGlobals "list" = some none),
  decide (PySem.W.nsIn K mainGlobals "set" = some none),
  decide (PySem.W.nsIn K mainGlobals "enumerate" = some none),
  decide (PySem.W.nsIn K mainGlobals "sum" = some none),
  decide (PySem.W.nsIn K mainGlobals "abs" = some none),
  decide (PySem.W.nsIn K mainGlobals "dict" = some none),
  decide (K.lookup sysModules = none),
  decide (kwB K (zjm K) = true),
  decide (kwB K (zjn K) = true),
  decide (kwB K (zjo K) = true),
  decide (kwB K (zjp K) = true)]
def chk0 (K : PySem.W.Frag) : List Bool := z0t K ++ z0u K
abbrev chk : PySem.W.Frag → List Bool := chk0
def fnl0 : List DefA := [⟨A_f0, "_law_stream", "_law_stream", vm⟩,
  ⟨A_f1, "_law_draw", "_law_draw", uo⟩,
  ⟨A_f2, "_law_choose", "_law_choose", vn⟩,
  ⟨A_f3, "_law_drawn", "_law_drawn", ub⟩,
  ⟨A_f4, "labels_of", "labels_of", v8⟩,
  ⟨A_f5, "_law_moved", "_law_moved", jp⟩,
  ⟨A_f6, "renamed_ids", "renamed_ids", jr⟩,
  ⟨A_f7, "label_table", "label_table", vo⟩,
  ⟨A_f8, "column_prices", "column_prices", x8⟩,
  ⟨A_f9, "row_worths", "row_worths", vd⟩,
  ⟨zo8, "row_entries", "row_entries", vp⟩,
  ⟨zo9, "best_moves", "best_moves", ve⟩,
  ⟨zpa, "greatest_pairs", "greatest_pairs", x9⟩,
  ⟨zpb, "table_names", "table_names", js⟩,
  ⟨zpc, "table_places", "table_places", jg⟩,
  ⟨zjm, "exact_table", "exact_table", xq⟩,
  ⟨zjn, "best_carrying", "best_carrying", q7⟩,
  ⟨zpd, "name_worths", "name_worths", vq⟩,
  ⟨zpe, "carrying_value", "carrying_value", xp⟩,
  ⟨zpf, "greatest_value", "greatest_value", ja⟩,
  ⟨zpg, "_law_worths_right", "_law_worths_right", qy⟩,
  ⟨zph, "places_of", "places_of", v9⟩,
  ⟨zpi, "counting_pins", "counting_pins", jl⟩,
  ⟨zjo, "without", "without", vr⟩,
  ⟨zpj, "open_table", "open_table", vg⟩,
  ⟨zjp, "carry_over", "carry_over", xr⟩,
  ⟨zpk, "law", "law", y1⟩]
def fnl : List DefA := fnl0
abbrev RR : PySem.W.OpenRow := PySem.W.OpenLaw.row PySem.Challenge.rw_keptnames_k31_whole_few_items_move
theorem zyz (w : World) : HandSHeadRun.RunEq RR (PySem.W.view RR.prog [32]) (hookA tops chk0 fnl) (fun s => obGA tops chk0 fnl (HandSHeadRun.getT s)) 40000 loose w := by
  intro os
  kernel_rfl
theorem rowRun (w : World) : HandSHeadRun.RunEq RR (PySem.W.view RR.prog [32]) (hookA tops chk fnl) (fun s => obGA tops chk fnl (HandSHeadRun.getT s)) 40000 loose w := (zyz w)
end K31
end Mv
namespace Mv
open PySem PySem.Spec PyProof.Rows L2
inductive D where
  | non | bl (b : Bool) | int (i : Int) | str (s : Str)
  | tup (xs : List D) | lst (xs : List D)
  | dk (kvs : List (Key × D)) | dt (kvs : List (List Key × D))
  | obj (n : Nat)
  | scr (ns : List Int)
  | emp
  /-- a thing that may change, told apart by its place -/
  | cel (a : Addr)
  /-- an instance that changes no more -/
  | ins (C : Addr) (fs : List (Str × D))
def zdz (a : Addr) : HO := .ext fun h => ∃ (x y : Int) (t u : Tok) (n : Nat), 0 ≤ y ∧ y < 2 ^ 32 ∧ h.get? a = some { cls := .type "list", data := .seq [Value.int x t, Value.int y u].toArray n }
def z2f : Nat → Addr → HO
  | 0, a => zdz a
  | n + 1, _ => .ext fun _ => n = n + 1
def Ex (H H' : Hp) : Prop := ∀ a o, H a = some o → H' a = some o
theorem Ex.refl (H : Hp) : Ex H H := fun _ _ h => h
theorem Ex.trans {H H1 H2 : Hp} (a : Ex H H1) (b : Ex H1 H2) : Ex H H2 := fun x o h => b x o (a x o h)
theorem Ex.new {H : Hp} {p : Addr} {o : HO} (h : H p = none) : Ex H (upd H p o) := fun a u e => by
  rw [upd_ne (ne_of_none e h)]; exact e
theorem Ex.mut {H H' : Hp} {p : Addr} {o : HO} (e : Ex H H') (h : H p = none) : Ex H (upd H' p o) := fun a u ha => by
  rw [upd_ne (ne_of_none ha h)]; exact e a u ha
theorem Ex.both {H H' : Hp} {p : Addr} {o : HO} (e : Ex H H') : Ex (upd H p o) (upd H' p o) := fun a u ha => by
  by_cases q : a = p
  · subst q; rw [upd_same] at ha ⊢; exact ha
  · rw [upd_ne q] at ha ⊢; exact e a u ha
theorem Ex.nn {H H' : Hp} {p : Addr} (e : Ex H H') (h : H' p = none) : H p = none := by
  cases q : H p with
  | none => rfl
  | some o => rw [e p o q] at h; cases h
theorem Ex.sm {H H' : Hp} {p : Addr} (e : Ex H H') (h : H p ≠ none) : H' p ≠ none := fun q => h (e.nn q)
theorem Ex.rd {H H' : Hp} {a : Addr} {u : HO} (e : Ex H H') (h : Rd H a u) : Rd H' a u := by
  rcases h with h | ⟨o, h⟩
  · exact .inl (e _ _ h)
  · exact .inr ⟨o, e _ _ h⟩
theorem Ex.sql {K : PySem.W.Frag} {H H' : Hp} {a : Addr} {xs : List V} (e : Ex H H') (h : SqL K H a xs) : SqL K H' a xs := by
  rcases h with h | h
  · exact .inl (e.rd h)
  · exact .inr h
def KE (K : PySem.W.Frag) (a : Addr) : Prop := ∃ o n, K.lookup a = some o ∧ o.cls = .type "tuple" ∧ o.data = .seq #[] n
mutual
inductive Rep (K : PySem.W.Frag) (F : Hp) : V → D → Prop
  | non : Rep K F .non .non
  | bl (b : Bool) : Rep K F (.bl b) (.bl b)
  | int (i : Int) : Rep K F (.int i) (.int i)
  | str (x : Str) : Rep K F (.str x) (.str x)
  | tup {a : Addr} {vs : List V} {ds : List D} : F a = some (.tup vs) → RepL K F vs ds → Rep K F (.ref a) (.tup ds)
  | lst {a : Addr} {od : Obj} {vs : List V} {ds : List D} : F a = some (.frz od (.lst vs)) → RepL K F vs ds → Rep K F (.ref a) (.lst ds)
  | scr {a : Addr} {ns : List Int} : SqL K F a (ns.map V.int) → Rep K F (.ref a) (.scr ns)
  | dk {a : Addr} {od : Obj} {ws : List (Key × V)} {kvs : List (Key × D)} : F a = some (.frz od (.dK ws)) → RepK K F ws kvs → Rep K F (.ref a) (.dk kvs)
  | dt {a : Addr} {od : Obj} {ws : List (List Key × V)} {kvs : List (List Key × D)} : F a = some (.frz od (.dT ws)) → RepT K F ws kvs → Rep K F (.ref a) (.dt kvs)
  | obj {a : Addr} (n : Nat) : F a = some (z2f n a) → Rep K F (.ref a) (.obj n)
  | emp {a : Addr} : KE K a → Rep K F (.ref a) .emp
  | cel (a : Addr) : Rep K F (.ref a) (.cel a)
  | ins {a C dx : Addr} {od : Obj} {ws : List (Str × V)} {fs : List (Str × D)} : F a = some (.frz od (.ins C dx ws)) → RepF K F ws fs → Rep K F (.ref a) (.ins C fs)
inductive RepF (K : PySem.W.Frag) (F : Hp) : List (Str × V) → List (Str × D) → Prop
  | nil : RepF K F [] []
  | cons {k : Str} {v : V} {vs : List (Str × V)} {d : D} {ds : List (Str × D)} : Rep K F v d → RepF K F vs ds → RepF K F ((k, v) :: vs) ((k, d) :: ds)
inductive RepL (K : PySem.W.Frag) (F : Hp) : List V → List D → Prop
  | nil : RepL K F [] []
  | cons {v : V} {vs : List V} {d : D} {ds : List D} : Rep K F v d → RepL K F vs ds → RepL K F (v :: vs) (d :: ds)
inductive RepK (K : PySem.W.Frag) (F : Hp) : List (Key × V) → List (Key × D) → Prop
  | nil : RepK K F [] []
  | cons {k : Key} {v : V} {vs : List (Key × V)} {d : D} {ds : List (Key × D)} : Rep K F v d → RepK K F vs ds → RepK K F ((k, v) :: vs) ((k, d) :: ds)
inductive RepT (K : PySem.W.Frag) (F : Hp) : List (List Key × V) → List (List Key × D) → Prop
  | nil : RepT K F [] []
  | cons {k : List Key} {v : V} {vs : List (List Key × V)} {d : D} {ds : List (List Key × D)} : Rep K F v d → RepT K F vs ds → RepT K F ((k, v) :: vs) ((k, d) :: ds)
end
section
variable {K : PySem.W.Frag} {F F' H H' : Hp}
mutual
theorem Rep.mono (e : Ex F F') : ∀ {v : V} {d : D}, Rep K F v d → Rep K F' v d
  | _, _, .non => .non
  | _, _, .bl b => .bl b
  | _, _, .int i => .int i
  | _, _, .str x => .str x
  | _, _, .tup h r => .tup (e _ _ h) (RepL.mono e r)
  | _, _, .lst h r => .lst (e _ _ h) (RepL.mono e r)
  | _, _, .scr h => .scr (e.sql h)
  | _, _, .dk h r => .dk (e _ _ h) (RepK.mono e r)
  | _, _, .dt h r => .dt (e _ _ h) (RepT.mono e r)
  | _, _, .obj n h => .obj n (e _ _ h)
  | _, _, .emp h => .emp h
  | _, _, .cel a => .cel a
  | _, _, .ins h r => .ins (e _ _ h) (RepF.mono e r)
theorem RepF.mono (e : Ex F F') : ∀ {v : List (Str × V)} {d : List (Str × D)}, RepF K F v d → RepF K F' v d
  | _, _, .nil => .nil
  | _, _, .cons h r => .cons (Rep.mono e h) (RepF.mono e r)
theorem RepL.mono (e : Ex F F') : ∀ {v : List V} {d : List D}, RepL K F v d → RepL K F' v d
  | _, _, .nil => .nil
  | _, _, .cons h r => .cons (Rep.mono e h) (RepL.mono e r)
theorem RepK.mono (e : Ex F F') : ∀ {v : List (Key × V)} {d : List (Key × D)}, RepK K F v d → RepK K F' v d
  | _, _, .nil => .nil
  | _, _, .cons h r => .cons (Rep.mono e h) (RepK.mono e r)
theorem RepT.mono (e : Ex F F') : ∀ {v : List (List Key × V)} {d : List (List Key × D)}, RepT K F v d → RepT K F' v d
  | _, _, .nil => .nil
  | _, _, .cons h r => .cons (Rep.mono e h) (RepT.mono e r)
end
theorem RepL.length : ∀ {vs : List V} {ds : List D}, RepL K F vs ds → vs.length = ds.length
  | _, _, .nil => rfl
  | _, _, .cons _ r => by simp [RepL.length r]
theorem RepL.app : ∀ {vs ws : List V} {ds es : List D}, RepL K F vs ds → RepL K F ws es → RepL K F (vs ++ ws) (ds ++ es)
  | _, _, _, _, .nil, r => r
  | _, _, _, _, .cons h t, r => .cons h (RepL.app t r)
theorem RepL.get : ∀ {vs : List V} {ds : List D} {i : Nat} {d : D}, RepL K F vs ds → ds[i]? = some d → ∃ v, vs[i]? = some v ∧ Rep K F v d
  | _, _, _, _, .nil, h => by simp at h
  | _, _, 0, _, .cons h t, e => by simp at e; subst e; exact ⟨_, rfl, h⟩
  | _, _, i + 1, _, .cons h t, e => by
    obtain ⟨v, q, r⟩ := RepL.get t (i := i) (by simpa using e)
    exact ⟨v, by simpa using q, r⟩
theorem RepL.getV : ∀ {vs : List V} {ds : List D} {i : Nat} {v : V}, RepL K F vs ds → vs[i]? = some v → ∃ d, ds[i]? = some d ∧ Rep K F v d
  | _, _, _, _, .nil, h => by simp at h
  | _, _, 0, _, .cons h t, e => by simp at e; subst e; exact ⟨_, rfl, h⟩
  | _, _, i + 1, _, .cons h t, e => by
    obtain ⟨v, q, r⟩ := RepL.getV t (i := i) (by simpa using e)
    exact ⟨v, by simpa using q, r⟩
theorem RepL.set {v : V} {d : D} (r : Rep K F v d) : ∀ {vs : List V} {ds : List D} (i : Nat), RepL K F vs ds → RepL K F (vs.set i v) (ds.set i d)
  | _, _, _, .nil => .nil
  | _, _, 0, .cons h t => .cons r t
  | _, _, i + 1, .cons h t => .cons h (RepL.set r i t)
theorem RepL.eraseIdx : ∀ {vs : List V} {ds : List D} (i : Nat), RepL K F vs ds → RepL K F (vs.eraseIdx i) (ds.eraseIdx i)
  | _, _, _, .nil => .nil
  | _, _, 0, .cons h t => t
  | _, _, i + 1, .cons h t => .cons h (RepL.eraseIdx i t)
theorem RepL.ints : ∀ (ns : List Int), RepL K F (ns.map V.int) (ns.map D.int)
  | [] => .nil
  | n :: ns => .cons (.int n) (RepL.ints ns)
end
inductive O where
  | lst (xs : List D) | dk (kvs : List (Key × D)) | dt (kvs : List (List Key × D)) | ins (C : Addr) (fs : List (Str × D))
def O.d : O → D
  | .ins C fs => .ins C fs
  | .lst xs => .lst xs
  | .dk kvs => .dk kvs
  | .dt kvs => .dt kvs
abbrev Wl := List (Addr × O)
inductive S where
  | fz (d : D) | own (o : O) | nk (kvs : List (Key × O)) | nt (kvs : List (List Key × O)) | wld (W : Wl) | rw (s : S) (W : Wl)
def S.d : S → D
  | .wld _ => .non
  | .rw s _ => s.d
  | .fz d => d
  | .own o => o.d
  | .nk kvs => .dk (kvs.map fun x => (x.1, x.2.d))
  | .nt kvs => .dt (kvs.map fun x => (x.1, x.2.d))
abbrev Dl := List (Option S)
def OwnAt (K : PySem.W.Frag) (F H : Hp) (a : Addr) : O → Prop
  | .lst ds => ∃ vs, H a = some (.lst vs) ∧ RepL K F vs ds
  | .dk kvs => ∃ ws, H a = some (.dK ws) ∧ RepK K F ws kvs
  | .dt kvs => ∃ ws, H a = some (.dT ws) ∧ RepT K F ws kvs
  | .ins C fs => ∃ ws : Addr × List (Str × V), H a = some (.ins C ws.1 ws.2) ∧ RepF K F ws.2 fs
theorem OwnAt.mono {K : PySem.W.Frag} {F F' H H' : Hp} {a : Addr} {o : O} (h : OwnAt K F H a o) (e : Ex F F') (e2 : H a = H' a) : OwnAt K F' H' a o := by
  cases o with
  | lst ds => obtain ⟨vs, h1, h2⟩ := h; exact ⟨vs, e2 ▸ h1, h2.mono e⟩
  | dk ds => obtain ⟨vs, h1, h2⟩ := h; exact ⟨vs, e2 ▸ h1, h2.mono e⟩
  | dt ds => obtain ⟨vs, h1, h2⟩ := h; exact ⟨vs, e2 ▸ h1, h2.mono e⟩
  | ins C fs => obtain ⟨vs, h1, h2⟩ := h; exact ⟨vs, e2 ▸ h1, h2.mono e⟩
theorem OwnAt.there {K : PySem.W.Frag} {F H : Hp} {a : Addr} {o : O} (h : OwnAt K F H a o) : ∃ ho, H a = some ho ∧ Mut (some ho) := by
  cases o with
  | lst ds => obtain ⟨vs, h1, h2⟩ := h; exact ⟨_, h1, trivial⟩
  | dk ds => obtain ⟨vs, h1, h2⟩ := h; exact ⟨_, h1, trivial⟩
  | dt ds => obtain ⟨vs, h1, h2⟩ := h; exact ⟨_, h1, trivial⟩
  | ins C fs => obtain ⟨vs, h1, h2⟩ := h; exact ⟨_, h1, trivial⟩
theorem OwnAt.rep {K : PySem.W.Frag} {F H : Hp} {a : Addr} {o : O} (h : OwnAt K F H a o) (n : F a = none) : ∃ ho, H a = some ho ∧ Mut (some ho) ∧ ∀ od, Rep K (upd F a (.frz od ho)) (.ref a) o.d := by
  cases o with
  | lst ds => obtain ⟨vs, h1, h2⟩ := h; exact ⟨_, h1, trivial, fun od => .lst upd_same (h2.mono (Ex.new n))⟩
  | dk ds => obtain ⟨vs, h1, h2⟩ := h; exact ⟨_, h1, trivial, fun od => .dk upd_same (h2.mono (Ex.new n))⟩
  | dt ds => obtain ⟨vs, h1, h2⟩ := h; exact ⟨_, h1, trivial, fun od => .dt upd_same (h2.mono (Ex.new n))⟩
  | ins C fs => obtain ⟨vs, h1, h2⟩ := h; exact ⟨_, h1, trivial, fun od => .ins upd_same (h2.mono (Ex.new n))⟩
inductive NG (K : PySem.W.Frag) (F H : Hp) (w : Addr → Option Nat) (i : Nat) {κ : Type} : List (κ × V) → List (κ × O) → List Addr → Prop
  | nil : NG K F H w i [] [] []
  | cons {k : κ} {b : Addr} {o : O} {ws : List (κ × V)} {kvs : List (κ × O)} {bs : List Addr} : w b = some i → OwnAt K F H b o → NG K F H w i ws kvs bs → NG K F H w i ((k, .ref b) :: ws) ((k, o) :: kvs) (b :: bs)
def SlotOk (K : PySem.W.Frag) (F H : Hp) (w : Addr → Option Nat) (i : Nat) (v : V) : S → Prop
  | .fz d => Rep K F v d
  | .own o => ∃ a, v = .ref a ∧ w a = some i ∧ OwnAt K F H a o
  | .nk kvs => ∃ a ws bs, v = .ref a ∧ w a = some i ∧ H a = some (.dK ws) ∧ NG K F H w i ws kvs bs ∧ (a :: bs).Nodup ∧ (kvs.map (·.1)).Nodup
  | .nt kvs => ∃ a ws bs, v = .ref a ∧ w a = some i ∧ H a = some (.dT ws) ∧ NG K F H w i ws kvs bs ∧ (a :: bs).Nodup ∧ (kvs.map (·.1)).Nodup
  | .wld W => v = .non ∧ (∀ x ∈ W, w x.1 = some i ∧ OwnAt K F H x.1 x.2) ∧ (W.map (·.1)).Nodup
  | .rw _ _ => False
theorem NG.keep {K : PySem.W.Frag} {F F' H H' : Hp} {w w' : Addr → Option Nat} {i : Nat} {κ : Type} (e : Ex F F') (k : ∀ a, w a = some i → w' a = some i ∧ (H a ≠ none → H' a = H a)) :
    ∀ {ws : List (κ × V)} {kvs : List (κ × O)} {bs : List Addr}, NG K F H w i ws kvs bs → NG K F' H' w' i ws kvs bs
  | _, _, _, .nil => .nil
  | _, _, _, .cons h q t => .cons (k _ h).1 (q.mono e ((k _ h).2 (by obtain ⟨ho, hh, _⟩ := q.there; rw [hh]; exact fun z => nomatch z)).symm) (NG.keep e k t)
theorem SlotOk.keep {K : PySem.W.Frag} {F F' H H' : Hp} {w w' : Addr → Option Nat} {i : Nat} {v : V} {s : S} (h : SlotOk K F H w i v s) (e : Ex F F') (k : ∀ a, w a = some i → w' a = some i ∧ (H a ≠ none → H' a = H a)) : SlotOk K F' H' w' i v s := by
  cases s with
  | fz d => exact Rep.mono e h
  | own o =>
    obtain ⟨a, rfl, ew, q⟩ := h
    obtain ⟨ho, hh, _⟩ := q.there
    exact ⟨a, rfl, (k a ew).1, q.mono e ((k a ew).2 (by rw [hh]; exact fun z => nomatch z)).symm⟩
  | nk kvs =>
    obtain ⟨a, ws, bs, rfl, ew, hh, q, nd⟩ := h
    exact ⟨a, ws, bs, rfl, (k a ew).1, ((k a ew).2 (by rw [hh]; exact fun z => nomatch z)).trans hh, q.keep e k, nd⟩
  | nt kvs =>
    obtain ⟨a, ws, bs, rfl, ew, hh, q, nd⟩ := h
    exact ⟨a, ws, bs, rfl, (k a ew).1, ((k a ew).2 (by rw [hh]; exact fun z => nomatch z)).trans hh, q.keep e k, nd⟩
  | wld W =>
    obtain ⟨hv, q, nd⟩ := h
    refine ⟨hv, fun x hx => ?_, nd⟩
    obtain ⟨q1, q2⟩ := q x hx
    obtain ⟨ho, hh, _⟩ := q2.there
    exact ⟨(k _ q1).1, q2.mono e ((k _ q1).2 (by rw [hh]; exact fun z => nomatch z)).symm⟩
  | rw _ _ => exact h
def Tp (F H : Hp) : Prop := ∀ a vs, H a = some (.tup vs) → F a = some (.tup vs)
theorem Tp.put {F H : Hp} {p : Addr} {o : HO} (t : Tp F H) (h : ∀ vs, o ≠ .tup vs) : Tp F (upd H p o) := fun a vs q => by
  by_cases z : a = p
  · subst z; rw [upd_same] at q; exact absurd (Option.some.inj q) (h vs)
  · rw [upd_ne z] at q; exact t a vs q
theorem Tp.both {F H : Hp} {p : Addr} {o : HO} (t : Tp F H) : Tp (upd F p o) (upd H p o) := fun a vs q => by
  by_cases z : a = p
  · subst z; rw [upd_same] at q ⊢; exact q
  · rw [upd_ne z] at q ⊢; exact t a vs q
def Low (F : Hp) : Prop := ∃ o, F sysModules = some (.frz o (.ext fun _ => True))
theorem Low.mono {F F' : Hp} (l : Low F) (e : Ex F F') : Low F' := let ⟨o, h⟩ := l; ⟨o, e _ _ h⟩
abbrev Pl := List (Addr × HO)
def pk (P : Pl) : List Addr := P.map (·.1)
structure RepS (K : PySem.W.Frag) (F0 H0 : Hp) (P : Pl) (δ : Dl) (σ : L2.St) (F H : Hp) : Prop where
  e1 : Ex F0 F
  e2 : Ex H0 H
  e3 : Ex F H
  fr : ∀ a o, F a = some o → F0 a = some o ∨ H0 a = none
  tp : Tp F H
  len : δ.length = σ.length
  own : ∃ w : Addr → Option Nat, (∀ a i, w a = some i → H0 a = none ∧ F a = none ∧ H a ≠ none ∧ a ∉ pk P) ∧ ∀ i s, δ[i]? = some (some s) → ∃ v, σ[i]? = some (some v) ∧ SlotOk K F H w i v s
  low : Low F0
  rsv : ∀ p ho, (p, ho) ∈ P → H0 p = none ∧ F p = none ∧ H p = some ho
section
variable {K : PySem.W.Frag} {F0 H0 F H F' H' : Hp} {P : Pl} {δ : Dl} {σ : L2.St}
theorem zei {p : Addr} {ho : HO} (h : (p, ho) ∈ P) : p ∈ pk P := List.mem_map.mpr ⟨_, h, rfl⟩
theorem RepS.rsv' (R : RepS K F0 H0 P δ σ F H) {p : Addr} (h : p ∈ pk P) : H0 p = none ∧ F p = none ∧ H p ≠ none := by
  obtain ⟨⟨q, ho⟩, hm, rfl⟩ := List.mem_map.mp h
  obtain ⟨a, b, c⟩ := R.rsv q ho hm
  exact ⟨a, b, by rw [c]; exact fun z => nomatch z⟩
theorem RepS.fz (R : RepS K F0 H0 P δ σ F H) {i : Nat} {d : D} (h : δ[i]? = some (some (.fz d))) : ∃ v, σ[i]? = some (some v) ∧ Rep K F v d := by
  obtain ⟨w, _, hw⟩ := R.own
  exact hw i _ h
theorem RepS.ownd (R : RepS K F0 H0 P δ σ F H) {i : Nat} {o : O} (h : δ[i]? = some (some (.own o))) : ∃ a, σ[i]? = some (some (.ref a)) ∧ OwnAt K F H a o ∧ F a = none ∧ H0 a = none := by
  obtain ⟨w, h1, hw⟩ := R.own
  obtain ⟨v, e, a, rfl, e2, q⟩ := hw i _ h
  exact ⟨a, e, q, (h1 a i e2).2.1, (h1 a i e2).1⟩
theorem RepS.grow (R : RepS K F0 H0 P δ σ F H) (e1 : Ex F F') (e2 : Ex H H') (e3 : Ex F' H') (fr : ∀ a o, F' a = some o → F a = some o ∨ H a = none) (tp : Tp F' H') : RepS K F0 H0 P δ σ F' H' := by
  have keep : ∀ a, F a = none → H a ≠ none → F' a = none := fun a h1 h2 => by
    cases q : F' a with
    | none => rfl
    | some o =>
      rcases fr a o q with z | z
      · rw [h1] at z; cases z
      · exact absurd z h2
  refine ⟨R.e1.trans e1, R.e2.trans e2, e3, fun a o h => ?_, tp, R.len, ?_, R.low, fun p ho hp => ?_⟩
  · rcases fr a o h with z | z
    · exact R.fr a o z
    · exact .inr (R.e2.nn z)
  · obtain ⟨w, h1, hw⟩ := R.own
    refine ⟨w, fun a i e => ?_, fun i s e => ?_⟩
    · obtain ⟨a1, a2, a3, a4⟩ := h1 a i e
      exact ⟨a1, keep a a2 a3, e2.sm a3, a4⟩
    · obtain ⟨v, ev, q⟩ := hw i s e
      refine ⟨v, ev, q.keep e1 fun a ew => ⟨ew, fun nn => ?_⟩⟩
      cases hh : H a with
      | none => exact absurd hh nn
      | some ho => exact e2 _ _ hh
  · obtain ⟨a1, a2, a3⟩ := R.rsv p ho hp
    exact ⟨a1, keep p a2 (by rw [a3]; exact fun z => nomatch z), e2 _ _ a3⟩
theorem RepS.newF (R : RepS K F0 H0 P δ σ F H) {p : Addr} {o : HO} (h : H p = none) : RepS K F0 H0 P δ σ (upd F p o) (upd H p o) :=
  R.grow (Ex.new (R.e3.nn h)) (Ex.new h) R.e3.both (fun a u q => by
    by_cases z : a = p
    · subst z; exact .inr h
    · rw [upd_ne z] at q; exact .inl q) R.tp.both
theorem RepS.newP (R : RepS K F0 H0 P δ σ F H) {p : Addr} {o : HO} (h : H p = none) (no : ∀ vs, o ≠ .tup vs := by exact fun _ z => nomatch z) : RepS K F0 H0 ((p, o) :: P) δ σ F (upd H p o) := by
  have R1 : RepS K F0 H0 P δ σ F (upd H p o) := R.grow (Ex.refl F) (Ex.new h) (R.e3.trans (Ex.new h)) (fun a u q => .inl q) (R.tp.put no)
  obtain ⟨w, h1, hw⟩ := R.own
  refine ⟨R1.e1, R1.e2, R1.e3, R1.fr, R1.tp, R1.len, ⟨w, fun a i e => ?_, fun i s e => ?_⟩, R.low, fun q ho hq => ?_⟩
  · obtain ⟨a1, a2, a3, a4⟩ := h1 a i e
    have ne : a ≠ p := fun z => a3 (z ▸ h)
    exact ⟨a1, a2, by rw [upd_ne ne]; exact a3, by simpa [pk, ne] using a4⟩
  · obtain ⟨v, ev, q⟩ := hw i s e
    exact ⟨v, ev, q.keep (Ex.refl F) fun a ew => ⟨ew, fun nn => upd_ne fun z => nn (z ▸ h)⟩⟩
  · rcases List.mem_cons.mp hq with e | hq
    · cases e; exact ⟨R.e2.nn h, R.e3.nn h, upd_same⟩
    · exact R1.rsv q ho hq
theorem RepS.unP {Q : Pl} (R : RepS K F0 H0 P δ σ F H) (h : ∀ p ∈ Q, p ∈ P) : RepS K F0 H0 Q δ σ F H := by
  obtain ⟨w, h1, hw⟩ := R.own
  exact ⟨R.e1, R.e2, R.e3, R.fr, R.tp, R.len, ⟨w, fun a i e => let ⟨a1, a2, a3, a4⟩ := h1 a i e; ⟨a1, a2, a3, fun z => a4 (by obtain ⟨q, hq, e⟩ := List.mem_map.mp z; exact List.mem_map.mpr ⟨q, h q hq, e⟩)⟩, hw⟩, R.low, fun p ho hp => R.rsv p ho (h _ hp)⟩
theorem RepS.frzP {p : Addr} {ho0 : HO} (R : RepS K F0 H0 ((p, ho0) :: P) δ σ F H) (hP : p ∉ pk P) (ho : HO) : RepS K F0 H0 P δ σ (upd F p ho) (upd H p ho) := by
  obtain ⟨r1, r2, r3⟩ := R.rsv p ho0 (by simp)
  obtain ⟨w, h1, hw⟩ := R.own
  refine ⟨R.e1.trans (Ex.new r2), R.e2.mut r1, R.e3.both, fun a u q => ?_, R.tp.both, R.len, ⟨w, fun a i e => ?_, fun i s e => ?_⟩, R.low, fun q hq' hq => ?_⟩
  · by_cases z : a = p
    · subst z; exact .inr r1
    · rw [upd_ne z] at q; exact R.fr a u q
  · obtain ⟨a1, a2, a3, a4⟩ := h1 a i e
    have ne : a ≠ p := fun z => a4 (by simp [pk, z])
    exact ⟨a1, by rw [upd_ne ne]; exact a2, by rw [upd_ne ne]; exact a3, fun z => a4 (List.mem_cons_of_mem _ z)⟩
  · obtain ⟨v, ev, q⟩ := hw i s e
    exact ⟨v, ev, q.keep (Ex.new r2) fun a ew => ⟨ew, fun _ => upd_ne fun z => (h1 a i ew).2.2.2 (by simp [pk, z])⟩⟩
  · obtain ⟨a1, a2, a3⟩ := R.rsv q hq' (by simp [hq])
    have ne : q ≠ p := fun z => by subst z; exact hP (zei hq)
    exact ⟨a1, by rw [upd_ne ne]; exact a2, by rw [upd_ne ne]; exact a3⟩
theorem RepS.wrP {p : Addr} {ho0 : HO} (R : RepS K F0 H0 ((p, ho0) :: P) δ σ F H) (hp : p ∉ pk P) (ho : HO) (no : ∀ vs, ho ≠ .tup vs := by exact fun _ z => nomatch z) : RepS K F0 H0 ((p, ho) :: P) δ σ F (upd H p ho) := by
  obtain ⟨r1, r2, r3⟩ := R.rsv p ho0 (by simp)
  obtain ⟨w, h1, hw⟩ := R.own
  refine ⟨R.e1, R.e2.mut r1, R.e3.mut r2, R.fr, R.tp.put no, R.len, ⟨w, fun a i e => ?_, fun i s e => ?_⟩, R.low, fun q ho' hq => ?_⟩
  · obtain ⟨a1, a2, a3, a4⟩ := h1 a i e
    have ne : a ≠ p := fun z => a4 (by simp [pk, z])
    exact ⟨a1, a2, by rw [upd_ne ne]; exact a3, a4⟩
  · obtain ⟨v, ev, q⟩ := hw i s e
    exact ⟨v, ev, q.keep (Ex.refl F) fun a ew => ⟨ew, fun _ => upd_ne fun z => (h1 a i ew).2.2.2 (by simp [pk, z])⟩⟩
  · rcases List.mem_cons.mp hq with e | hm
    · cases e; exact ⟨r1, r2, upd_same⟩
    · obtain ⟨a1, a2, a3⟩ := R.rsv q ho' (by simp [hm])
      exact ⟨a1, a2, by rw [upd_ne (show q ≠ p from fun z => by subst z; exact hp (zei hm))]; exact a3⟩
theorem RepS.setF (R : RepS K F0 H0 P δ σ F H) (i : Nat) {v : V} {d : D} (r : Rep K F v d) : RepS K F0 H0 P (δ.set i (some (.fz d))) (σ.set i (some v)) F H := by
  obtain ⟨w, h1, hw⟩ := R.own
  refine ⟨R.e1, R.e2, R.e3, R.fr, R.tp, by simp [R.len], ⟨w, h1, fun j s e => ?_⟩, R.low, R.rsv⟩
  by_cases hj : i = j
  · subst hj
    have hi : i < δ.length := by
      have := (List.getElem?_eq_some_iff.mp e).1
      simpa using this
    rw [List.getElem?_set_self hi] at e
    cases e
    exact ⟨v, by rw [List.getElem?_set_self (by rw [← R.len]; exact hi)], r⟩
  · rw [List.getElem?_set_ne hj] at e
    obtain ⟨u, eu, q⟩ := hw j s e
    exact ⟨u, by rw [List.getElem?_set_ne hj]; exact eu, q⟩
theorem RepS.setO {p : Addr} {ho : HO} (R : RepS K F0 H0 ((p, ho) :: P) δ σ F H) (hP : p ∉ pk P) (i : Nat) {o : O} (r : OwnAt K F H p o) : RepS K F0 H0 P (δ.set i (some (.own o))) (σ.set i (some (.ref p))) F H := by
  obtain ⟨r1, r2, r3⟩ := R.rsv p ho (by simp)
  obtain ⟨w, h1, hw⟩ := R.own
  refine ⟨R.e1, R.e2, R.e3, R.fr, R.tp, by simp [R.len], ⟨fun a => if a = p then some i else w a, fun a j e => ?_, fun j s e => ?_⟩, R.low, fun q ho hq => R.rsv q ho (by simp [hq])⟩
  · by_cases z : a = p
    · subst z; exact ⟨r1, r2, by rw [r3]; exact (nomatch ·), hP⟩
    · replace e := (if_neg z).symm.trans e
      obtain ⟨a1, a2, a3, a4⟩ := h1 a j e
      exact ⟨a1, a2, a3, fun q => a4 (List.mem_cons_of_mem _ q)⟩
  · by_cases hj : i = j
    · subst hj
      have hi : i < δ.length := by
        have := (List.getElem?_eq_some_iff.mp e).1
        simpa using this
      rw [List.getElem?_set_self hi] at e
      cases e
      exact ⟨.ref p, by rw [List.getElem?_set_self (by rw [← R.len]; exact hi)], p, rfl, if_pos rfl, r⟩
    · rw [List.getElem?_set_ne hj] at e
      obtain ⟨u, eu, q⟩ := hw j s e
      exact ⟨u, by rw [List.getElem?_set_ne hj]; exact eu, q.keep (Ex.refl F) fun a ew => ⟨(if_neg fun z => (h1 a j ew).2.2.2 (by simp [pk, z])).trans ew, fun _ => rfl⟩⟩
theorem RepS.unset (R : RepS K F0 H0 P δ σ F H) (i : Nat) (x : Option V) : RepS K F0 H0 P (δ.set i none) (σ.set i x) F H := by
  obtain ⟨w, h1, hw⟩ := R.own
  refine ⟨R.e1, R.e2, R.e3, R.fr, R.tp, by simp [R.len], ⟨w, h1, fun j s e => ?_⟩, R.low, R.rsv⟩
  by_cases hj : i = j
  · subst hj
    have hi : i < δ.length := by
      have := (List.getElem?_eq_some_iff.mp e).1
      simpa using this
    rw [List.getElem?_set_self hi] at e
    cases e
  · rw [List.getElem?_set_ne hj] at e
    obtain ⟨u, eu, q⟩ := hw j s e
    exact ⟨u, by rw [List.getElem?_set_ne hj]; exact eu, q⟩
theorem RepS.weak {δ' : Dl} (R : RepS K F0 H0 P δ σ F H) (hl : δ'.length = δ.length) (h : ∀ (i : Nat) (s : S), δ'[i]? = some (some s) → δ[i]? = some (some s)) : RepS K F0 H0 P δ' σ F H := by
  obtain ⟨w, h1, hw⟩ := R.own
  exact ⟨R.e1, R.e2, R.e3, R.fr, R.tp, hl.trans R.len, ⟨w, h1, fun i s e => hw i s (h i s e)⟩, R.low, R.rsv⟩
theorem RepS.write (R : RepS K F0 H0 P δ σ F H) {i : Nat} {a : Addr} {o o' : O} {ho : HO} (e : δ[i]? = some (some (.own o))) (ea : σ[i]? = some (some (.ref a))) (n : OwnAt K F (upd H a ho) a o') :
    RepS K F0 H0 P (δ.set i (some (.own o'))) σ F (upd H a ho) := by
  obtain ⟨w, h1, hw⟩ := R.own
  obtain ⟨v, ev, b, rfl, ew, q⟩ := hw i _ e
  rw [ea] at ev; cases ev
  obtain ⟨a1, a2, a3, a4⟩ := h1 a i ew
  have no : ∀ vs, ho ≠ .tup vs := fun vs z => by
    subst z
    cases o' with
    | lst _ => obtain ⟨_, q, _⟩ := n; rw [upd_same] at q; cases q
    | dk _ => obtain ⟨_, q, _⟩ := n; rw [upd_same] at q; cases q
    | dt _ => obtain ⟨_, q, _⟩ := n; rw [upd_same] at q; cases q
    | ins _ _ => obtain ⟨_, q, _⟩ := n; rw [upd_same] at q; cases q
  refine ⟨R.e1, R.e2.mut a1, R.e3.mut a2, R.fr, R.tp.put no, by simp [R.len], ⟨w, fun b j e => ?_, fun j s e => ?_⟩, R.low, fun p hp' hp => ?_⟩
  · obtain ⟨b1, b2, b3, b4⟩ := h1 b j e
    refine ⟨b1, b2, ?_, b4⟩
    by_cases z : b = a
    · subst z; rw [upd_same]; exact fun z => nomatch z
    · rw [upd_ne z]; exact b3
  · by_cases hj : i = j
    · subst hj
      have hi : i < δ.length := by
        have := (List.getElem?_eq_some_iff.mp e).1
        simpa using this
      rw [List.getElem?_set_self hi] at e
      cases e
      exact ⟨.ref a, ea, a, rfl, ew, n⟩
    · rw [List.getElem?_set_ne hj] at e
      obtain ⟨u, eu, q⟩ := hw j s e
      exact ⟨u, eu, q.keep (Ex.refl F) fun b ew2 => ⟨ew2, fun _ => upd_ne fun z => by subst z; rw [ew] at ew2; cases ew2; exact hj rfl⟩⟩
  · obtain ⟨b1, b2, b3⟩ := R.rsv p hp' hp
    exact ⟨b1, b2, by rw [upd_ne (show p ≠ a from fun z => by subst z; exact a4 (zei hp))]; exact b3⟩
theorem RepS.freeze (R : RepS K F0 H0 P δ σ F H) {i : Nat} {o : O} (e : δ[i]? = some (some (.own o))) :
    ∃ a ho, σ[i]? = some (some (.ref a)) ∧ H a = some ho ∧ Mut (some ho) ∧ ∀ od, Ex F (upd F a (.frz od ho)) ∧ Rep K (upd F a (.frz od ho)) (.ref a) o.d ∧ RepS K F0 H0 P (δ.set i (some (.fz o.d))) σ (upd F a (.frz od ho)) (upd H a (.frz od ho)) := by
  obtain ⟨w, h1, hw⟩ := R.own
  obtain ⟨v, ev, a, rfl, ew, q⟩ := hw i _ e
  obtain ⟨a1, a2, a3, a4⟩ := h1 a i ew
  obtain ⟨ho, hh, mu, rp⟩ := q.rep a2
  refine ⟨a, ho, ev, hh, mu, fun od => ⟨Ex.new a2, rp od, R.e1.trans (Ex.new a2), R.e2.mut a1, R.e3.both, fun b u q => ?_, R.tp.both, by simp [R.len], ⟨fun b => if b = a then none else w b, fun b j e => ?_, fun j s e => ?_⟩, R.low, fun p hp' hp => ?_⟩⟩
  · by_cases z : b = a
    · subst z; exact .inr a1
    · rw [upd_ne z] at q; exact R.fr b u q
  · by_cases z : b = a
    · replace e := (if_pos z).symm.trans e; cases e
    · replace e := (if_neg z).symm.trans e
      obtain ⟨b1, b2, b3, b4⟩ := h1 b j e
      exact ⟨b1, by rw [upd_ne z]; exact b2, by rw [upd_ne z]; exact b3, b4⟩
  · by_cases hj : i = j
    · subst hj
      have hi : i < δ.length := by
        have := (List.getElem?_eq_some_iff.mp e).1
        simpa using this
      rw [List.getElem?_set_self hi] at e
      cases e
      exact ⟨.ref a, ev, rp od⟩
    · rw [List.getElem?_set_ne hj] at e
      obtain ⟨u, eu, q⟩ := hw j s e
      have ne : ∀ b, w b = some j → b ≠ a := fun b ew2 z => by subst z; rw [ew] at ew2; cases ew2; exact hj rfl
      exact ⟨u, eu, q.keep (Ex.new a2) fun b ew2 => ⟨(if_neg (ne b ew2)).trans ew2, fun _ => upd_ne (ne b ew2)⟩⟩
  · obtain ⟨b1, b2, b3⟩ := R.rsv p hp' hp
    have ne : p ≠ a := fun z => by subst z; exact a4 (zei hp)
    exact ⟨b1, by rw [upd_ne ne]; exact b2, by rw [upd_ne ne]; exact b3⟩
end
end Mv
namespace Mv
open PySem PySem.Spec PyProof.Rows L2
abbrev DE := Dl → (Dl → D → Prop) → Prop
abbrev DOw := Dl → (Dl → O → Prop) → Prop
abbrev DT := Dl → (Dl → Bool → Prop) → Prop
abbrev DA := Dl → (Dl → List D → Prop) → Prop
structure DEnds where
  nx : Dl → Prop
  rt : S → Prop
  bk : Dl → Prop := fun _ => False
  ct : Dl → Prop := fun _ => False
abbrev DS := DEnds → Dl → Prop
def zt8 (K : PySem.W.Frag) (H0 F H : Hp) (v : V) : S → Prop
  | .fz d => Rep K F v d
  | .own o => ∃ a, v = .ref a ∧ H0 a = none ∧ F a = none ∧ OwnAt K F H a o
  | .nk _ => False
  | .nt _ => False
  | .wld _ => False
  | .rw s W => zt8 K H0 F H v s ∧ (∀ x ∈ W, H0 x.1 = none ∧ F x.1 = none ∧ OwnAt K F H x.1 x.2) ∧ (W.map (·.1)).Nodup ∧ ∀ o, s = .own o → ∀ x ∈ W, v ≠ .ref x.1
structure Grown (F0 H0 F H : Hp) : Prop where
  e1 : Ex F0 F
  e2 : Ex H0 H
  e3 : Ex F H
  fr : ∀ a o, F a = some o → F0 a = some o ∨ H0 a = none
  tp : Tp F H
theorem RepS.grown {K : PySem.W.Frag} {F0 H0 : Hp} {P : Pl} {δ : Dl} {σ : L2.St} {F H : Hp} (R : RepS K F0 H0 P δ σ F H) : Grown F0 H0 F H := ⟨R.e1, R.e2, R.e3, R.fr, R.tp⟩
def upE (K : PySem.W.Frag) (t : DE) : TE := fun σ H Q => ∃ F0 H0 P δ F Q', RepS K F0 H0 P δ σ F H ∧ t δ Q' ∧ ∀ δ' F' H' v d, RepS K F0 H0 P δ' σ F' H' → Ex F F' → Rep K F' v d → Q' δ' d → Q v H'
def upO (K : PySem.W.Frag) (t : DOw) : TE := fun σ H Q => ∃ F0 H0 P δ F Q', RepS K F0 H0 P δ σ F H ∧ t δ Q' ∧ ∀ δ' F' H' p ho o, RepS K F0 H0 ((p, ho) :: P) δ' σ F' H' → p ∉ pk P → Ex F F' → OwnAt K F' H' p o → Q' δ' o → Q (.ref p) H'
def upT (K : PySem.W.Frag) (t : DT) : TT := fun σ H Q => ∃ F0 H0 P δ F Q', RepS K F0 H0 P δ σ F H ∧ t δ Q' ∧ ∀ δ' F' H' b, RepS K F0 H0 P δ' σ F' H' → Ex F F' → Q' δ' b → Q b H'
def upA (K : PySem.W.Frag) (t : DA) : TA := fun σ H Q => ∃ F0 H0 P δ F Q', RepS K F0 H0 P δ σ F H ∧ t δ Q' ∧ ∀ δ' F' H' vs ds, RepS K F0 H0 P δ' σ F' H' → Ex F F' → RepL K F' vs ds → Q' δ' ds → Q vs H'
structure upSW (K : PySem.W.Frag) (t : DS) (D : Ends) (σ : L2.St) (H F0 H0 : Hp) (δ : Dl) (F : Hp) (D' : DEnds) : Prop where
  rep : RepS K F0 H0 [] δ σ F H
  t : t D' δ
  nx : ∀ δ' σ' F' H', RepS K F0 H0 [] δ' σ' F' H' → Ex F F' → D'.nx δ' → D.nx σ' H'
  bk : ∀ δ' σ' F' H', RepS K F0 H0 [] δ' σ' F' H' → Ex F F' → D'.bk δ' → D.bk σ' H'
  ct : ∀ δ' σ' F' H', RepS K F0 H0 [] δ' σ' F' H' → Ex F F' → D'.ct δ' → D.ct σ' H'
  rt : ∀ F' H' v r, Grown F0 H0 F' H' → zt8 K H0 F' H' v r → D'.rt r → D.rt v H'
theorem upSW.at {K : PySem.W.Frag} {t u : DS} {D : Ends} {σ σ' : L2.St} {H H' F0 H0 F F' : Hp} {δ δ' : Dl} {D' : DEnds} (W : upSW K t D σ H F0 H0 δ F D') (R : RepS K F0 H0 [] δ' σ' F' H') (e : Ex F F') (q : u D' δ') : upSW K u D σ' H' F0 H0 δ' F' D' :=
  ⟨R, q, fun a b c d r x y => W.nx a b c d r (e.trans x) y, fun a b c d r x y => W.bk a b c d r (e.trans x) y, fun a b c d r x y => W.ct a b c d r (e.trans x) y, W.rt⟩
def upS (K : PySem.W.Frag) (t : DS) : TS := fun D σ H => ∃ F0 H0 δ F D', upSW K t D σ H F0 H0 δ F D'
theorem pimp {X : Cx} {e : Expr} {t t' : TE} (h : PE X e t) (i : ∀ σ H Q, t' σ H Q → t σ H Q) : PE X e t' := ⟨fun pins s σ H Q I q => h.run pins s σ H Q I (i σ H Q q)⟩
theorem zlf {X : Cx} {e : Expr} {t t' : TT} (h : PT X e t) (i : ∀ σ H Q, t' σ H Q → t σ H Q) : PT X e t' := ⟨fun pins s σ H Q I q => h.run pins s σ H Q I (i σ H Q q)⟩
theorem z2g {X : Cx} {e : Expr} {t t' : TT} (h : PW X e t) (i : ∀ σ H Q, t' σ H Q → t σ H Q) : PW X e t' := ⟨fun w pins s σ H Q I q => h.run w pins s σ H Q I (i σ H Q q)⟩
theorem zgt {X : Cx} {e : List Expr} {t t' : TA} (h : PA X e t) (i : ∀ σ H Q, t' σ H Q → t σ H Q) : PA X e t' := ⟨fun p pins s σ H Q I q => h.run p pins s σ H Q I (i σ H Q q)⟩
theorem vu {X : Cx} {e : Stmt} {t t' : TS} (h : PS X e t) (i : ∀ D σ H, t' D σ H → t D σ H) : PS X e t' := ⟨fun pins s σ H D I q => h.run pins s σ H D I (i D σ H q)⟩
theorem zvd {X : Cx} {e : List Stmt} {t t' : TS} (h : PSs X e t) (i : ∀ D σ H, t' D σ H → t D σ H) : PSs X e t' := ⟨fun pins s σ H D I q => h.run pins s σ H D I (i D σ H q)⟩
section
variable {X : Cx} {K : PySem.W.Frag} {e a b c : Expr} {ta tb tc : DE} {pos : Pos}
def dVar (i : Nat) : DE := fun δ Q => match δ[i]? with
  | some (some (.fz d)) => Q δ d
  | some (some (.own o)) => Q (δ.set i (some (.fz o.d))) o.d
  | _ => False
def z2h (t : TE) : TE := fun σ H Q => t σ H fun v H' => Q v H' ∨ ∃ d u, H' d = some u ∧ Mut (some u) ∧ ∀ od, Q v (upd H' d (.frz od u))
theorem zgu {t : TE} (h : PE X e t) : PE X e (z2h t) := ⟨fun pins s σ H Q I q => thn (h.run pins s σ H _ I q) fun u s1 ⟨v, H1, I1, r1, q1⟩ => by
  rcases q1 with q1 | ⟨d, u', h1, mu, q1⟩
  · exact ⟨v, H1, I1, r1, q1⟩
  · obtain ⟨od, I2⟩ := I1.lock h1 mu
    exact ⟨v, _, I2, r1, q1 od⟩⟩
theorem z0v {i : Nat} (h : PE X e (tVar i)) : PE X e (upE K (dVar i)) := pimp (zgu h) fun σ H Q ⟨F0, H0, P, δ, F, Q', R, ht, k⟩ => by
  unfold dVar at ht
  split at ht
  · rename_i d e1
    obtain ⟨v, ev, r⟩ := R.fz e1
    exact ⟨v, ev, .inl (k δ F H v d R (Ex.refl F) r ht)⟩
  · rename_i o e1
    obtain ⟨a, ho, ea, hh, mu, q⟩ := R.freeze e1
    refine ⟨_, ea, .inr ⟨a, ho, hh, mu, fun od => ?_⟩⟩
    obtain ⟨ex, rp, R'⟩ := q od
    exact k _ _ _ _ _ R' ex rp ht
  · exact ht.elim
theorem pdv (i : Nat) {x : Str} {pos : Pos} (hN : X.N[i]? = some x := by rfl) (hv : Vis X.env.scope x := by first | exact Or.inl rfl | exact Or.inr (Or.inl rfl) | exact Or.inr (Or.inr rfl)) (hd : (x == ("__debug__" : Str)) = false := by decide)
    (hcd : (x == ("__classdict__" : Str)) = false := by decide) : PE X (.Name x pos) (upE K (dVar i)) := z0v (pv i hN hv hd hcd)
def dC (d : D) : DE := fun δ Q => Q δ d
theorem df_c {v : V} {d : D} (h : PE X e (tC v)) (r : ∀ F, Rep K F v d) : PE X e (upE K (dC d)) := pimp h fun σ H Q ⟨F0, H0, P, δ, F, Q', R, ht, k⟩ => k δ F H v d R (Ex.refl F) (r F) ht
theorem zm {i j pos} : PE X (.Constant (.int i) j pos) (upE K (dC (.int i))) := df_c pe_int fun _ => .int i
theorem zaw {b j pos} : PE X (.Constant (.bool b) j pos) (upE K (dC (.bl b))) := df_c pe_bl fun _ => .bl b
theorem zlg {j pos} : PE X (.Constant .none j pos) (upE K (dC .non)) := df_c pe_non fun _ => .non
theorem yo {x j pos} : PE X (.Constant (.str x) j pos) (upE K (dC (.str x))) := df_c pe_str fun _ => .str x
def d2 (g : D → D → (D → Prop) → Prop) (ta tb : DE) : DE := fun δ Q => ta δ fun δ1 x => tb δ1 fun δ2 y => g x y fun d => Q δ2 d
def Op2 (K : PySem.W.Frag) (r : R2) (g : D → D → (D → Prop) → Prop) : Prop :=
  ∀ (x y : V) (F H : Hp) (dx dy : D) (Q : VK) (Q' : D → Prop), Rep K F x dx → Rep K F y dy → Ex F H → g dx dy Q' → (∀ v d, Rep K F v d → Q' d → Q v H) → r x y H Q
theorem up2 {r : R2} {g : D → D → (D → Prop) → Prop} (ho : Op2 K r g) {σ : L2.St} {H : Hp} {Q : VK} (h : upE K (d2 g ta tb) σ H Q) : tOp r (upE K ta) (upE K tb) σ H Q := by
  obtain ⟨F0, H0, P, δ, F, Q', R, ht, k⟩ := h
  refine ⟨F0, H0, P, δ, F, _, R, ht, fun δ1 F1 H1 x dx R1 e1 rx ht => ?_⟩
  refine ⟨F0, H0, P, δ1, F1, _, R1, ht, fun δ2 F2 H2 y dy R2 e2 ry ht => ?_⟩
  exact ho x y F2 H2 dx dy Q _ (rx.mono e2) ry R2.e3 ht fun v d rv q => k δ2 F2 H2 v d R2 (e1.trans e2) rv q
theorem zjq {op : Operator} {r : R2} {g : D → D → (D → Prop) → Prop} (hr : OpR X (binaryOp op) r) (ho : Op2 K r g) (ha : PE X a (upE K ta)) (hb : PE X b (upE K tb)) : PE X (.BinOp a op b pos) (upE K (d2 g ta tb)) :=
  pimp (pe_op hr ha hb) fun _ _ _ h => up2 ho h
def gAdd : D → D → (D → Prop) → Prop
  | .int i, .int j, Q => Q (.int (i + j))
  | .str x, .str y, Q => x.length + y.length ≤ sizeLine ∧ Q (.str (x ++ y))
  | _, _, _ => False
def gSub : D → D → (D → Prop) → Prop
  | .int i, .int j, Q => Q (.int (i - j))
  | _, _, _ => False
def CM (i j : Int) : Prop := CMul i j ∨ CMulW i j
def gMul : D → D → (D → Prop) → Prop
  | .int i, .int j, Q => CM i j ∧ Q (.int (i * j))
  | _, _, _ => False
def gDiv : D → D → (D → Prop) → Prop
  | .int i, .int j, Q => (0 < j ∧ j < 1073741824) ∧ Q (.int (i / j))
  | _, _, _ => False
def gMod : D → D → (D → Prop) → Prop
  | .int i, .int j, Q => 0 < j ∧ Q (.int (i % j))
  | _, _, _ => False
def CPw (i j : Int) : Prop := 0 ≤ j ∧ (Builtin.Int.intBits i : Int) * j ≤ 2 ^ 27
def gPow : D → D → (D → Prop) → Prop
  | .int i, .int j, Q => CPw i j ∧ Q (.int (i ^ j.toNat))
  | _, _, _ => False
theorem zy0 : OpR X (binaryOp .Mult) (rI CM fun i j => .int (i * j)) := opI fun _ _ _ _ _ _ _ hc q => mul_int q (hc.elim CMul.ok CMulW.ok)
theorem zy1 : OpR X (binaryOp .Pow) (rI CPw fun i j => .int (i ^ j.toNat)) := opI fun _ _ _ _ _ _ _ hc q => pow_int hc.1 hc.2 q
theorem z0w : Op2 K (fun x y H Q => rI0 (fun i j => .int (i + j)) x y H Q ∨ (∃ i j, x = .str i ∧ y = .str j ∧ i.length + j.length ≤ sizeLine ∧ Q (.str (i ++ j)) H)) gAdd := by
  intro x y F H dx dy Q Q' rx ry _ g k
  unfold gAdd at g
  split at g
  · cases rx; cases ry; exact .inl ⟨_, _, rfl, rfl, k _ _ (.int _) g⟩
  · cases rx; cases ry; exact .inr ⟨_, _, rfl, rfl, g.1, k _ _ (.str _) g.2⟩
  · exact g.elim
theorem z0x : Op2 K (rI0 (fun i j => .int (i - j))) gSub := by
  intro x y F H dx dy Q Q' rx ry _ g k
  unfold gSub at g
  split at g
  · cases rx; cases ry; exact ⟨_, _, rfl, rfl, k _ _ (.int _) g⟩
  · exact g.elim
theorem z0y : Op2 K (rI CM (fun i j => .int (i * j))) gMul := by
  intro x y F H dx dy Q Q' rx ry _ g k
  unfold gMul at g
  split at g
  · cases rx; cases ry; exact ⟨_, _, rfl, rfl, g.1, k _ _ (.int _) g.2⟩
  · exact g.elim
theorem z0z : Op2 K (rI CDiv (fun i j => .int (i / j))) gDiv := by
  intro x y F H dx dy Q Q' rx ry _ g k
  unfold gDiv at g
  split at g
  · cases rx; cases ry; exact ⟨_, _, rfl, rfl, g.1, k _ _ (.int _) g.2⟩
  · exact g.elim
theorem z00 : Op2 K (rI (fun _ j => 0 < j) (fun i j => .int (i % j))) gMod := by
  intro x y F H dx dy Q Q' rx ry _ g k
  unfold gMod at g
  split at g
  · cases rx; cases ry; exact ⟨_, _, rfl, rfl, g.1, k _ _ (.int _) g.2⟩
  · exact g.elim
theorem z01 : Op2 K (rI CPw (fun i j => .int (i ^ j.toNat))) gPow := by
  intro x y F H dx dy Q Q' rx ry _ g k
  unfold gPow at g
  split at g
  · cases rx; cases ry; exact ⟨_, _, rfl, rfl, g.1, k _ _ (.int _) g.2⟩
  · exact g.elim
theorem uk (ha : PE X a (upE K ta)) (hb : PE X b (upE K tb)) : PE X (.BinOp a .Add b pos) (upE K (d2 gAdd ta tb)) := zjq (op_add.or op_add_str) z0w ha hb
theorem zbc (ha : PE X a (upE K ta)) (hb : PE X b (upE K tb)) : PE X (.BinOp a .Sub b pos) (upE K (d2 gSub ta tb)) := zjq op_sub z0x ha hb
theorem zej (ha : PE X a (upE K ta)) (hb : PE X b (upE K tb)) : PE X (.BinOp a .Mult b pos) (upE K (d2 gMul ta tb)) := zjq zy0 z0y ha hb
theorem zve (ha : PE X a (upE K ta)) (hb : PE X b (upE K tb)) : PE X (.BinOp a .FloorDiv b pos) (upE K (d2 gDiv ta tb)) := zjq op_fdiv z0z ha hb
theorem zfz (ha : PE X a (upE K ta)) (hb : PE X b (upE K tb)) : PE X (.BinOp a .Mod b pos) (upE K (d2 gMod ta tb)) := zjq op_mod z00 ha hb
theorem zf0 (ha : PE X a (upE K ta)) (hb : PE X b (upE K tb)) : PE X (.BinOp a .Pow b pos) (upE K (d2 gPow ta tb)) := zjq zy1 z01 ha hb
def gLt : D → D → (D → Prop) → Prop
  | .int i, .int j, Q => Q (.bl (decide (i < j)))
  | .str i, .str j, Q => Q (.bl (decide (i.cps.toList < j.cps.toList)))
  | _, _, _ => False
def gGt : D → D → (D → Prop) → Prop
  | .int i, .int j, Q => Q (.bl (decide (j < i)))
  | .str i, .str j, Q => Q (.bl (decide (j.cps.toList < i.cps.toList)))
  | _, _, _ => False
def gGe : D → D → (D → Prop) → Prop
  | .int i, .int j, Q => Q (.bl (decide (j ≤ i)))
  | .str i, .str j, Q => Q (.bl (!decide (i.cps.toList < j.cps.toList)))
  | _, _, _ => False
def eqF : D → D → Option Bool
  | .non, .non => some true | .non, .int _ => some false | .int _, .non => some false | .non, .bl _ => some false | .bl _, .non => some false | .non, .str _ => some false | .str _, .non => some false
  | .int i, .int j => some (decide (i = j)) | .bl i, .bl j => some (decide (i = j)) | .str i, .str j => some (decide (i = j))
  | .int _, .str _ => some false | .str _, .int _ => some false | .bl _, .str _ => some false | .str _, .bl _ => some false
  | _, _ => none
def D.isNon : D → Bool
  | .non => true
  | _ => false
def gIsN : D → D → (D → Prop) → Prop
  | x, .non, Q => Q (.bl x.isNon)
  | _, _, _ => False
def zgv : D → D → (D → Prop) → Prop
  | x, .non, Q => Q (.bl (!x.isNon))
  | _, _, _ => False
theorem z02 {op : CmpOp} {r : R2} {g : D → D → (D → Prop) → Prop} (hr : OpR X (compareOp op) r) (ho : Op2 K r g) (ha : PE X a (upE K ta)) (hb : PE X b (upE K tb)) (hm : behindInMarks op b = false) : PE X (.Compare a [op] [b] pos) (upE K (d2 g ta tb)) :=
  pimp (pe_cmpR hr ha hb hm) fun _ _ _ h => up2 ho h
theorem z2i : Op2 K (fun x y H Q => rI0 (fun i j => .bl (decide (i < j))) x y H Q ∨ (∃ i j, x = .str i ∧ y = .str j ∧ Q (.bl (decide (i.cps.toList < j.cps.toList))) H)) gLt := by
  intro x y F H dx dy Q Q' rx ry _ g k
  unfold gLt at g
  split at g
  · cases rx; cases ry; exact .inl ⟨_, _, rfl, rfl, k _ _ (.bl _) g⟩
  · cases rx; cases ry; exact .inr ⟨_, _, rfl, rfl, k _ _ (.bl _) g⟩
  · exact g.elim
theorem z2j : Op2 K (fun x y H Q => rI0 (fun i j => .bl (decide (j < i))) x y H Q ∨ (∃ i j, x = .str i ∧ y = .str j ∧ Q (.bl (decide (j.cps.toList < i.cps.toList))) H)) gGt := by
  intro x y F H dx dy Q Q' rx ry _ g k
  unfold gGt at g
  split at g
  · cases rx; cases ry; exact .inl ⟨_, _, rfl, rfl, k _ _ (.bl _) g⟩
  · cases rx; cases ry; exact .inr ⟨_, _, rfl, rfl, k _ _ (.bl _) g⟩
  · exact g.elim
theorem z2k : Op2 K (fun x y H Q => rI0 (fun i j => .bl (decide (j ≤ i))) x y H Q ∨ (∃ i j, x = .str i ∧ y = .str j ∧ Q (.bl (!decide (i.cps.toList < j.cps.toList))) H)) gGe := by
  intro x y F H dx dy Q Q' rx ry _ g k
  unfold gGe at g
  split at g
  · cases rx; cases ry; exact .inl ⟨_, _, rfl, rfl, k _ _ (.bl _) g⟩
  · cases rx; cases ry; exact .inr ⟨_, _, rfl, rfl, k _ _ (.bl _) g⟩
  · exact g.elim
theorem zvf {F : Hp} {x y : V} {dx dy : D} {b : Bool} (rx : Rep K F x dx) (ry : Rep K F y dy) (h : eqF dx dy = some b) : scal x y = true ∧ decide (x = y) = b := by
  unfold eqF at h
  split at h <;> cases h <;> (cases rx; cases ry; exact ⟨rfl, by simp⟩)
theorem zs0 {F : Hp} {x : V} {d : D} (r : Rep K F x d) : decide (x = .non) = d.isNon := by
  cases r <;> simp [D.isNon]
theorem z03 : Op2 K (fun x y H Q => y = .non ∧ Q (.bl (decide (x = .non))) H) gIsN := by
  intro x y F H dx dy Q Q' rx ry _ g k
  unfold gIsN at g
  split at g
  · cases ry; exact ⟨rfl, by rw [zs0 rx]; exact k _ _ (.bl _) g⟩
  · exact g.elim
theorem zs1 : Op2 K (fun x y H Q => y = .non ∧ Q (.bl (!decide (x = .non))) H) zgv := by
  intro x y F H dx dy Q Q' rx ry _ g k
  unfold zgv at g
  split at g
  · cases ry
    exact ⟨rfl, by rw [zs0 rx]; exact k _ _ (.bl _) g⟩
  · exact g.elim
theorem zy2 (ha : PE X a (upE K ta)) (hb : PE X b (upE K tb)) : PE X (.Compare a [.IsNot] [b] pos) (upE K (d2 zgv ta tb)) := z02 op_notN zs1 ha hb (nomark _)
def dNeg (ta : DE) : DE := fun δ Q => ta δ fun δ1 x => ∃ i, x = .int i ∧ Q δ1 (.int (-i))
theorem z04 (ha : PE X a (upE K ta)) : PE X (.UnaryOp .USub a pos) (upE K (dNeg ta)) := pimp (pe_un un_neg ha) fun σ H Q ⟨F0, H0, P, δ, F, Q', R, ht, k⟩ => by
  refine ⟨F0, H0, P, δ, F, _, R, ht, fun δ1 F1 H1 x dx R1 e1 rx ⟨i, e, ht⟩ => ?_⟩
  subst e
  cases rx
  exact ⟨i, rfl, k δ1 F1 H1 _ _ R1 e1 (.int _) ht⟩
variable {tA tB : DT} {rest : List Expr}
def dTst (ta : DE) : DT := fun δ Q => ta δ fun δ1 x => ∃ k, x = .bl k ∧ Q δ1 k
theorem qt (h : PE X e (upE K ta)) (he : ∀ whole, isTrue e X.env whole = (do let v ← whole; standAt e.pos; holding [v] (truthy v)) := by intro _; rfl) : PT X e (upT K (dTst ta)) := zlf (pt_val h he) fun σ H Q ⟨F0, H0, P, δ, F, Q', R, ht, k⟩ => by
  refine ⟨F0, H0, P, δ, F, _, R, ht, fun δ1 F1 H1 x dx R1 e1 rx ⟨b, e, ht⟩ => ?_⟩
  subst e
  cases rx
  exact ⟨b, rfl, k δ1 F1 H1 _ R1 e1 ht⟩
theorem zf1 {op : CmpOp} {r : R2} {g : D → D → (D → Prop) → Prop} (hr : OpR X (compareOp op) r) (ho : Op2 K r g) (ha : PE X a (upE K ta)) (hb : PE X b (upE K tb)) (hm : behindInMarks op b = false) : PT X (.Compare a [op] [b] pos) (upT K (dTst (d2 g ta tb))) :=
  zlf (pt_cmpR hr ha hb hm) fun σ H Q ⟨F0, H0, P, δ, F, Q', R, ht, k⟩ => by
    refine ⟨F0, H0, P, δ, F, _, R, ht, fun δ1 F1 H1 x dx R1 e1 rx ht => ?_⟩
    refine ⟨F0, H0, P, δ1, F1, _, R1, ht, fun δ2 F2 H2 y dy R2 e2 ry ht => ?_⟩
    refine ho x y F2 H2 dx dy _ _ (rx.mono e2) ry R2.e3 ht fun v d rv ⟨q, e, ht⟩ => ?_
    subst e
    cases rv
    exact ⟨q, rfl, k δ2 F2 H2 _ R2 (e1.trans e2) ht⟩
theorem z2l (ha : PE X a (upE K ta)) (hb : PE X b (upE K tb)) : PT X (.Compare a [.Lt] [b] pos) (upT K (dTst (d2 gLt ta tb))) := zf1 (op_lt.or op_lt_str) z2i ha hb (nomark _)
theorem zjr (ha : PE X a (upE K ta)) (hb : PE X b (upE K tb)) : PT X (.Compare a [.Gt] [b] pos) (upT K (dTst (d2 gGt ta tb))) := zf1 (op_gt.or op_gt_str) z2j ha hb (nomark _)
theorem zyj (ha : PE X a (upE K ta)) (hb : PE X b (upE K tb)) : PT X (.Compare a [.GtE] [b] pos) (upT K (dTst (d2 gGe ta tb))) := zf1 (op_ge.or op_ge_str) z2k ha hb (nomark _)
theorem z05 (ha : PE X a (upE K ta)) (hb : PE X b (upE K tb)) : PT X (.Compare a [.Is] [b] pos) (upT K (dTst (d2 gIsN ta tb))) := zf1 op_isN z03 ha hb (nomark _)
theorem zy3 (ha : PE X a (upE K ta)) (hb : PE X b (upE K tb)) : PT X (.Compare a [.IsNot] [b] pos) (upT K (dTst (d2 zgv ta tb))) := zf1 op_notN zs1 ha hb (nomark _)
def dAnd (t u : DT) : DT := fun δ Q => t δ fun δ1 c => if c = true then u δ1 Q else Q δ1 false
def dNot (t : DT) : DT := fun δ Q => t δ fun δ1 c => Q δ1 (!c)
theorem zf2 (ha : PT X a (upT K tA)) : PW X (.BoolOp .And [a] pos) (upT K tA) := pw_and1 ha
theorem zij (ha : PT X a (upT K tA)) (hb : PW X (.BoolOp .And (b :: rest) pos) (upT K tB)) : PW X (.BoolOp .And (a :: b :: rest) pos) (upT K (dAnd tA tB)) := z2g (pw_and ha hb) fun σ H Q ⟨F0, H0, P, δ, F, Q', R, ht, k⟩ => by
  refine ⟨F0, H0, P, δ, F, _, R, ht, fun δ1 F1 H1 c R1 e1 ht => ?_⟩
  cases c with
  | true =>
    rw [if_pos rfl] at ht ⊢
    exact ⟨F0, H0, P, δ1, F1, _, R1, ht, fun δ2 F2 H2 b R2 e2 q => k δ2 F2 H2 b R2 (e1.trans e2) q⟩
  | false =>
    rw [if_neg (by decide)] at ht ⊢
    exact k δ1 F1 H1 _ R1 e1 ht
theorem z06 (ha : PT X a (upT K tA)) : PT X (.UnaryOp .Not a pos) (upT K (dNot tA)) := zlf (pt_not ha) fun σ H Q ⟨F0, H0, P, δ, F, Q', R, ht, k⟩ =>
  ⟨F0, H0, P, δ, F, _, R, ht, fun δ1 F1 H1 c R1 e1 ht => k δ1 F1 H1 _ R1 e1 ht⟩
def zpl (ta tb : DE) : DE := fun δ Q => ta δ fun δ1 x => ∃ c, x = .bl c ∧ if c = true then tb δ1 Q else Q δ1 (.bl false)
theorem z07 {op : BoolOp} (ha : PE X a (upE K ta)) : PE X (.BoolOp op [a] pos) (upE K ta) := pe_one ha
theorem zvg (ha : PE X a (upE K ta)) (hb : PE X (.BoolOp .And (b :: rest) pos) (upE K tb)) : PE X (.BoolOp .And (a :: b :: rest) pos) (upE K (zpl ta tb)) := pimp (pe_and ha hb) fun σ H Q ⟨F0, H0, P, δ, F, Q', R, ht, k⟩ => by
  refine ⟨F0, H0, P, δ, F, _, R, ht, fun δ1 F1 H1 x dx R1 e1 rx ⟨c, e, ht⟩ => ?_⟩
  subst e
  cases rx
  refine ⟨c, rfl, ?_⟩
  cases c with
  | true =>
    rw [if_pos rfl] at ht ⊢
    exact ⟨F0, H0, P, δ1, F1, _, R1, ht, fun δ2 F2 H2 v d R2 e2 r q => k δ2 F2 H2 v d R2 (e1.trans e2) r q⟩
  | false =>
    rw [if_neg (by decide)] at ht ⊢
    exact k δ1 F1 H1 _ _ R1 e1 (.bl _) ht
def dIf (t : DT) (ta tb : DE) : DE := fun δ Q => t δ fun δ1 c => if c = true then ta δ1 Q else tb δ1 Q
theorem z2m {c : Expr} (hc : PT X c (upT K tA)) (ha : PE X a (upE K ta)) (hb : PE X b (upE K tb)) : PE X (.IfExp c a b pos) (upE K (dIf tA ta tb)) := pimp (pe_ifExp hc ha hb) fun σ H Q ⟨F0, H0, P, δ, F, Q', R, ht, k⟩ => by
  refine ⟨F0, H0, P, δ, F, _, R, ht, fun δ1 F1 H1 c R1 e1 ht => ?_⟩
  cases c with
  | false =>
    rw [if_neg (by decide)] at ht ⊢
    exact ⟨F0, H0, P, δ1, F1, _, R1, ht, fun δ2 F2 H2 v d R2 e2 r q => k δ2 F2 H2 v d R2 (e1.trans e2) r q⟩
  | true =>
    rw [if_pos rfl] at ht ⊢
    exact ⟨F0, H0, P, δ1, F1, _, R1, ht, fun δ2 F2 H2 v d R2 e2 r q => k δ2 F2 H2 v d R2 (e1.trans e2) r q⟩
end
end Mv
namespace Mv
open PySem PySem.Spec PyProof.Rows L2
section
variable {κ α : Type} [DecidableEq κ]
def valG (kvs : List (κ × α)) (k : κ) : Option α := (kvs.find? fun kv => decide (kv.1 = k)).map (·.2)
def putG (kvs : List (κ × α)) (k : κ) (v : α) : List (κ × α) :=
  if (kvs.any fun kv => decide (kv.1 = k)) = true then kvs.map fun kv => if kv.1 = k then (kv.1, v) else kv else kvs ++ [(k, v)]
def vz (kvs : List (κ × α)) (k : κ) : List (κ × α) := kvs.filter fun kv => decide (kv.1 ≠ k)
end
def keyD : Key → D
  | .inl i => .int i
  | .inr s => .str s
def dkey : D → Option Key
  | .int i => some (.inl i)
  | .str s => some (.inr s)
  | _ => none
def ze6 : List D → Option (List Key)
  | [] => some []
  | d :: ds => match dkey d, ze6 ds with
    | some k, some ks => some (k :: ks)
    | _, _ => none
def tkey : D → Option (List Key)
  | .tup ds => ze6 ds
  | _ => none
section
variable {K : PySem.W.Frag} {F : Hp}
theorem zax {v : V} {d : D} {k : Key} (r : Rep K F v d) (h : dkey d = some k) : v = kV k := by
  cases r <;> simp [dkey] at h <;> subst h <;> rfl
theorem zkg : ∀ {vs : List V} {ds : List D} {ks : List Key}, RepL K F vs ds → ze6 ds = some ks → vs = ks.map kV
  | _, _, ks, .nil, h => by simp [ze6] at h; subst h; rfl
  | _, _, ks, .cons (d := d) (ds := ds) r t, h => by
    unfold ze6 at h
    split at h
    · rename_i k ks' e1 e2
      cases h
      rw [zax r e1, zkg t e2]; rfl
    · cases h
theorem zmq : ∀ k : Key, Rep K F (kV k) (keyD k)
  | .inl i => .int i
  | .inr s => .str s
theorem zbw : ∀ ks : List Key, RepL K F (ks.map kV) (ks.map keyD)
  | [] => .nil
  | k :: ks => .cons (zmq k) (zbw ks)
inductive RepG (K : PySem.W.Frag) (F : Hp) {κ : Type} : List (κ × V) → List (κ × D) → Prop
  | nil : RepG K F [] []
  | cons {k : κ} {v : V} {vs : List (κ × V)} {d : D} {ds : List (κ × D)} : Rep K F v d → RepG K F vs ds → RepG K F ((k, v) :: vs) ((k, d) :: ds)
theorem RepK.g : ∀ {ws : List (Key × V)} {kvs : List (Key × D)}, RepK K F ws kvs → RepG K F ws kvs
  | _, _, .nil => .nil
  | _, _, .cons r t => .cons r (RepK.g t)
theorem RepT.g : ∀ {ws : List (List Key × V)} {kvs : List (List Key × D)}, RepT K F ws kvs → RepG K F ws kvs
  | _, _, .nil => .nil
  | _, _, .cons r t => .cons r (RepT.g t)
theorem RepG.k : ∀ {ws : List (Key × V)} {kvs : List (Key × D)}, RepG K F ws kvs → RepK K F ws kvs
  | _, _, .nil => .nil
  | _, _, .cons r t => .cons r (RepG.k t)
theorem RepG.t : ∀ {ws : List (List Key × V)} {kvs : List (List Key × D)}, RepG K F ws kvs → RepT K F ws kvs
  | _, _, .nil => .nil
  | _, _, .cons r t => .cons r (RepG.t t)
variable {κ : Type} [DecidableEq κ]
theorem RepG.length {ws : List (κ × V)} {kvs : List (κ × D)} (h : RepG K F ws kvs) : ws.length = kvs.length := by
  induction h with
  | nil => rfl
  | cons _ _ ih => simp [ih]
theorem RepG.keys {ws : List (κ × V)} {kvs : List (κ × D)} (h : RepG K F ws kvs) : ws.map (·.1) = kvs.map (·.1) := by
  induction h with
  | nil => rfl
  | cons _ _ ih => simp [ih]
theorem RepG.val {ws : List (κ × V)} {kvs : List (κ × D)} (h : RepG K F ws kvs) (k : κ) : (∃ v d, valV ws k = some v ∧ valG kvs k = some d ∧ Rep K F v d) ∨ (valV ws k = none ∧ valG kvs k = none) := by
  induction h with
  | nil => exact .inr ⟨rfl, rfl⟩
  | @cons k' v vs d ds r t ih =>
    by_cases e : k' = k
    · exact .inl ⟨v, d, by simp [valV, e], by simp [valG, e], r⟩
    · have e1 : valV ((k', v) :: vs) k = valV vs k := by simp [valV, e]
      have e2 : valG ((k', d) :: ds) k = valG ds k := by simp [valG, e]
      rw [e1, e2]; exact ih
theorem RepG.any {ws : List (κ × V)} {kvs : List (κ × D)} (h : RepG K F ws kvs) (k : κ) : (ws.any fun kv => decide (kv.1 = k)) = (kvs.any fun kv => decide (kv.1 = k)) := by
  induction h with
  | nil => rfl
  | cons _ _ ih => simp [ih]
theorem RepG.app {ws us : List (κ × V)} {kvs es : List (κ × D)} (h : RepG K F ws kvs) (g : RepG K F us es) : RepG K F (ws ++ us) (kvs ++ es) := by
  induction h with
  | nil => exact g
  | cons r _ ih => exact .cons r ih
theorem RepG.put {ws : List (κ × V)} {kvs : List (κ × D)} (h : RepG K F ws kvs) (k : κ) {v : V} {d : D} (r : Rep K F v d) : RepG K F (putK ws k v) (putG kvs k d) := by
  unfold putK putG
  rw [h.any k]
  split
  · rename_i hx
    clear hx
    induction h with
    | nil => exact .nil
    | @cons k' v' vs d' ds r' t ih =>
      show RepG K F ((if k' = k then (k', v) else (k', v')) :: _) ((if k' = k then (k', d) else (k', d')) :: _)
      split
      · exact .cons r ih
      · exact .cons r' ih
  · exact h.app (.cons r .nil)
theorem RepG.drop {ws : List (κ × V)} {kvs : List (κ × D)} (h : RepG K F ws kvs) (k : κ) : RepG K F (dropK ws k) (vz kvs k) := by
  unfold dropK vz
  induction h with
  | nil => exact .nil
  | @cons k' v vs d ds r t ih =>
    by_cases e : k' = k
    · simpa [e] using ih
    · simp only [List.filter_cons, ne_eq, e, not_false_eq_true, decide_true, if_true]
      exact .cons r ih
theorem RepG.get {ws : List (κ × V)} {kvs : List (κ × D)} (h : RepG K F ws kvs) : ∀ {i : Nat} {k : κ} {d : D}, kvs[i]? = some (k, d) → ∃ v, ws[i]? = some (k, v) ∧ Rep K F v d := by
  induction h with
  | nil => intro i k d e; simp at e
  | cons r t ih =>
    intro i k d e
    cases i with
    | zero => simp at e; obtain ⟨rfl, rfl⟩ := e; exact ⟨_, rfl, r⟩
    | succ i => obtain ⟨v, q, r⟩ := ih (i := i) (by simpa using e); exact ⟨v, by simpa using q, r⟩
end
section
variable {X : Cx} {K : PySem.W.Frag} {e a b c : Expr} {es : List Expr} {ta tb tc te tk tv : DE} {tA tB : DT} {st : Stmt} {rest body : List Stmt} {t u : DS} {ts : DA} {pos : Pos}
def dNil : DA := fun δ Q => Q δ []
def zg (te : DE) (ts : DA) : DA := fun δ Q => te δ fun δ1 d => ts δ1 fun δ2 ds => Q δ2 (d :: ds)
theorem pdn : PA X [] (upA K dNil) := zgt pa_nil fun σ H Q ⟨F0, H0, P, δ, F, Q', R, ht, k⟩ => k δ F H _ _ R (Ex.refl F) .nil ht
theorem pdc (he : PE X e (upE K te)) (hr : PA X es (upA K ts)) (hs : starEach (e :: es) X.env = (false, eval e X.env) :: starEach es X.env := by rfl) : PA X (e :: es) (upA K (zg te ts)) := zgt (pa_cons he hr hs) fun σ H Q ⟨F0, H0, P, δ, F, Q', R, ht, k⟩ => by
  refine ⟨F0, H0, P, δ, F, _, R, ht, fun δ1 F1 H1 x dx R1 e1 rx ht => ?_⟩
  refine ⟨F0, H0, P, δ1, F1, _, R1, ht, fun δ2 F2 H2 vs ds R2 e2 rs ht => ?_⟩
  exact k δ2 F2 H2 _ _ R2 (e1.trans e2) (.cons (rx.mono e2) rs) ht
def dTup (ts : DA) : DE := fun δ Q => ts δ fun δ1 ds => ds.length ≤ sizeLine ∧ Q δ1 (.tup ds)
theorem zcf {x1} (h : PA X es (upA K ts)) : PE X (.Tuple es x1 pos) (upE K (dTup ts)) := pimp (pe_tup h) fun σ H Q ⟨F0, H0, P, δ, F, Q', R, ht, k⟩ => by
  refine ⟨F0, H0, P, δ, F, _, R, ht, fun δ1 F1 H1 vs ds R1 e1 rs ⟨hl, ht⟩ => ⟨by rw [rs.length]; exact hl, fun p hp => ?_⟩⟩
  have ex : Ex F1 (upd F1 p (.tup vs)) := Ex.new (R1.e3.nn hp)
  exact k δ1 _ _ _ _ (R1.newF hp) (e1.trans ex) (.tup upd_same (rs.mono ex)) ht
def dLst (ts : DA) : DOw := fun δ Q => ts δ fun δ1 ds => ds.length ≤ sizeLine ∧ Q δ1 (.lst ds)
theorem RepS.fresh {F0 H0 : Hp} {P : Pl} {δ : Dl} {σ : L2.St} {F H : Hp} (R : RepS K F0 H0 P δ σ F H) {p : Addr} (h : H p = none) : p ∉ pk P := fun hp => (R.rsv' hp).2.2 h
theorem uc (h : PA X es (upA K ts)) : PE X (.List es pos) (upO K (dLst ts)) := pimp (pe_lst h) fun σ H Q ⟨F0, H0, P, δ, F, Q', R, ht, k⟩ => by
  refine ⟨F0, H0, P, δ, F, _, R, ht, fun δ1 F1 H1 vs ds R1 e1 rs ⟨hl, ht⟩ => ⟨by rw [rs.length]; exact hl, fun p hp => ?_⟩⟩
  exact k δ1 F1 _ p _ _ (R1.newP hp) (R1.fresh hp) e1 (show OwnAt K F1 _ p (.lst ds) from ⟨vs, upd_same, rs⟩) ht
def zay : DOw := fun δ Q => Q δ (.dk [])
def zpm : DOw := fun δ Q => Q δ (.dt [])
theorem u8 : PE X (.Dict [] [] pos) (upO K zay) := pimp pe_dnewK fun σ H Q ⟨F0, H0, P, δ, F, Q', R, ht, k⟩ => fun p hp => k δ F _ p _ _ (R.newP hp) (R.fresh hp) (Ex.refl F) (show OwnAt K F _ p (.dk []) from ⟨[], upd_same, .nil⟩) ht
theorem zs2 : PE X (.Dict [] [] pos) (upO K zpm) := pimp pe_dnewT fun σ H Q ⟨F0, H0, P, δ, F, Q', R, ht, k⟩ => fun p hp => k δ F _ p _ _ (R.newP hp) (R.fresh hp) (Ex.refl F) (show OwnAt K F _ p (.dt []) from ⟨[], upd_same, .nil⟩) ht
def dFrz (t : DOw) : DE := fun δ Q => t δ fun δ1 o => Q δ1 o.d
theorem pfz {to : DOw} (h : PE X e (upO K to)) : PE X e (upE K (dFrz to)) := pimp (zgu h) fun σ H Q ⟨F0, H0, P, δ, F, Q', R, ht, k⟩ => by
  refine ⟨F0, H0, P, δ, F, _, R, ht, fun δ1 F1 H1 p hp0 o R1 hP e1 q ht => ?_⟩
  obtain ⟨ho, hh, mu, rp⟩ := q.rep (R1.rsv p hp0 (by simp)).2.1
  exact .inr ⟨p, ho, hh, mu, fun od => k δ1 _ _ _ _ (R1.frzP hP _) (e1.trans (Ex.new (R1.rsv p hp0 (by simp)).2.1)) (rp od) ht⟩
def uf : DS := fun D δ => D.nx δ
def dSeq (t u : DS) : DS := fun D δ => t { D with nx := u D } δ
theorem ud : PSs X [] (upS K uf) := zvd pss_nil fun D σ H ⟨F0, H0, δ, F, D', W⟩ => W.nx δ σ F H W.rep (Ex.refl F) W.t
theorem zh (h1 : PS X st (upS K t)) (h2 : PSs X rest (upS K u)) : PSs X (st :: rest) (upS K (dSeq t u)) := zvd (pss_cons h1 h2) fun D σ H ⟨F0, H0, δ, F, D', W⟩ =>
  ⟨F0, H0, δ, F, { D' with nx := u D' }, ⟨W.rep, W.t, fun δ' σ' F' H' R ex q => ⟨F0, H0, δ', F', D', ⟨R, q, fun a b c d r x y => W.nx a b c d r (ex.trans x) y, fun a b c d r x y => W.bk a b c d r (ex.trans x) y, fun a b c d r x y => W.ct a b c d r (ex.trans x) y, W.rt⟩⟩, W.bk, W.ct, W.rt⟩⟩
theorem zo (h1 : PS X st (upS K t)) : PSs X [st] (upS K t) := pss_one h1
def zt9 (te : DE) : DS := fun D δ => te δ fun δ1 _ => D.nx δ1
theorem zy4 (he : PE X e (upE K te)) (hs : swapsWith e none pos.line X.env = pure false := by rfl) : PS X (.Expr e pos) (upS K (zt9 te)) := vu (ps_expr he hs) fun D σ H ⟨F0, H0, δ, F, D', W⟩ =>
  ⟨F0, H0, [], δ, F, _, W.rep, W.t, fun δ1 F1 H1 x dx R1 e1 rx ht => W.nx δ1 σ F1 H1 R1 e1 ht⟩
def dRet (te : DE) : DS := fun D δ => te δ fun _ d => D.rt (.fz d)
theorem uv (he : PE X e (upE K te)) : PS X (.Return (some e) pos) (upS K (dRet te)) := vu (ps_ret he) fun D σ H ⟨F0, H0, δ, F, D', W⟩ =>
  ⟨F0, H0, [], δ, F, _, W.rep, W.t, fun δ1 F1 H1 x dx R1 e1 rx ht => W.rt F1 H1 x (.fz dx) R1.grown rx ht⟩
def zcg (to : DOw) : DS := fun D δ => to δ fun _ o => D.rt (.own o)
theorem zaz {to : DOw} (he : PE X e (upO K to)) : PS X (.Return (some e) pos) (upS K (zcg to)) := vu (ps_ret he) fun D σ H ⟨F0, H0, δ, F, D', W⟩ =>
  ⟨F0, H0, [], δ, F, _, W.rep, W.t, fun δ1 F1 H1 p hp0 o R1 hP e1 q ht => by
    have r := R1.rsv p hp0 (by simp)
    exact W.rt F1 H1 _ (.own o) R1.grown ⟨p, rfl, r.1, r.2.1, q⟩ ht⟩
def zbn (i : Nat) : DS := fun D δ => match δ[i]? with
  | some (some (.fz d)) => D.rt (.fz d)
  | some (some (.own o)) => D.rt (.own o)
  | _ => False
theorem zb7 {i : Nat} (h : PE X e (tVar i)) : PS X (.Return (some e) pos) (upS K (zbn i)) := vu (ps_ret h) fun D σ H ⟨F0, H0, δ, F, D', W⟩ => by
  have ht := W.t
  unfold zbn at ht
  split at ht
  · rename_i d e1
    obtain ⟨v, ev, r⟩ := W.rep.fz e1
    exact ⟨v, ev, W.rt F H v (.fz d) W.rep.grown r ht⟩
  · rename_i o e1
    obtain ⟨a, ev, q, n1, n2⟩ := W.rep.ownd e1
    exact ⟨_, ev, W.rt F H _ (.own o) W.rep.grown ⟨a, rfl, n2, n1, q⟩ ht⟩
  · exact ht.elim
def dIfS (c : DT) (t u : DS) : DS := fun D δ => c δ fun δ1 b => if b = true then t D δ1 else u D δ1
theorem yc {a b : List Stmt} (hc : PT X c (upT K tA)) (ha : PSs X a (upS K t)) (hb : PSs X b (upS K u)) : PS X (.If c a b pos) (upS K (dIfS tA t u)) := vu (ps_if hc ha hb) fun D σ H ⟨F0, H0, δ, F, D', W⟩ => by
  refine ⟨F0, H0, [], δ, F, _, W.rep, W.t, fun δ1 F1 H1 q R1 e1 ht => ?_⟩
  cases q with
  | true =>
    rw [if_pos rfl] at ht ⊢
    exact ⟨F0, H0, δ1, F1, D', W.at R1 e1 ht⟩
  | false =>
    rw [if_neg (by decide)] at ht ⊢
    exact ⟨F0, H0, δ1, F1, D', W.at R1 e1 ht⟩
abbrev DG := D → Dl → (Dl → Prop) → Prop
abbrev DGs := List D → Dl → (Dl → Prop) → Prop
def upG (K : PySem.W.Frag) (g : DG) : TG := fun v σ H Q => ∃ F0 H0 P δ F d Q', RepS K F0 H0 P δ σ F H ∧ Rep K F v d ∧ g d δ Q' ∧ ∀ δ' σ' F' H', RepS K F0 H0 P δ' σ' F' H' → Ex F F' → Q' δ' → Q σ' H'
def upGs (K : PySem.W.Frag) (g : DGs) : TGs := fun vs σ H Q => ∃ F0 H0 P δ F ds Q', RepS K F0 H0 P δ σ F H ∧ RepL K F vs ds ∧ g ds δ Q' ∧ ∀ δ' σ' F' H', RepS K F0 H0 P δ' σ' F' H' → Ex F F' → Q' δ' → Q σ' H'
theorem gimp {tg : Expr} {g g' : TG} (h : PG X tg g) (i : ∀ v σ H Q, g' v σ H Q → g v σ H Q) : PG X tg g' := ⟨fun pins s σ H v u Q I r q => h.run pins s σ H v u Q I r (i v σ H Q q)⟩
theorem zyk {tg : List Expr} {g g' : TGs} (h : PGs X tg g) (i : ∀ v σ H Q, g' v σ H Q → g v σ H Q) : PGs X tg g' := ⟨fun pins s σ H v u Q I r q => h.run pins s σ H v u Q I r (i v σ H Q q)⟩
def gN (i : Nat) : DG := fun d δ Q => Q (δ.set i (some (.fz d)))
theorem zy {i : Nat} {tg : Expr} (h : PG X tg (gName i)) : PG X tg (upG K (gN i)) := gimp h fun v σ H Q ⟨F0, H0, P, δ, F, d, Q', R, r, g, k⟩ => k _ _ F H (R.setF i r) (Ex.refl F) g
def jm : DGs := fun ds δ Q => ds = [] ∧ Q δ
def zw (t : DG) (u : DGs) : DGs := fun ds δ Q => ∃ d r, ds = d :: r ∧ t d δ fun δ' => u r δ' Q
theorem ug : PGs X [] (upGs K jm) := zyk pgs_nil fun v σ H Q ⟨F0, H0, P, δ, F, d, Q', R, r, ⟨e, g⟩, k⟩ => by
  subst e
  cases r
  exact ⟨rfl, k _ _ F H R (Ex.refl F) g⟩
theorem z6 {tg : Expr} {tgs : List Expr} {g : DG} {gs : DGs} (h1 : PG X tg (upG K g)) (h2 : PGs X tgs (upGs K gs)) (hs : (assignEach (tg :: tgs) X.env).map (·.2) = assign tg X.env :: (assignEach tgs X.env).map (·.2) := by rfl) : PGs X (tg :: tgs) (upGs K (zw g gs)) :=
  zyk (pgs_cons h1 h2 hs) fun v σ H Q ⟨F0, H0, P, δ, F, ds, Q', R, r, ⟨d, dr, e, g⟩, k⟩ => by
    subst e
    cases r with
    | cons r rr => exact ⟨_, _, rfl, F0, H0, P, δ, F, d, _, R, r, g, fun δ1 σ1 F1 H1 R1 e1 g1 => ⟨F0, H0, P, δ1, F1, dr, Q', R1, rr.mono e1, g1, fun δ2 σ2 F2 H2 R2 e2 q => k δ2 σ2 F2 H2 R2 (e1.trans e2) q⟩⟩
def gTp (n : Nat) (g : DGs) : DG := fun d δ Q => ∃ ds, d = .tup ds ∧ ds.length = n ∧ g ds δ Q
theorem ye {tgs : List Expr} {kk : Nat} {gs : DGs} {n : Nat} (hc : X.calm = true) (h : PGs X tgs (upGs K gs)) (hK : X.K = K := by rfl)
    (hn : (assignEach tgs X.env).length = n := by rfl) (hst : (assignEach tgs X.env).findIdx? (·.1) = none := by rfl) : PG X (.Tuple tgs kk pos) (upG K (gTp n gs)) :=
  gimp (pg_tup hc h hn hst) fun v σ H Q ⟨F0, H0, P, δ, F, d, Q', R, r, ⟨ds, e, hl, g⟩, k⟩ => by
    subst e
    cases r with
    | tup h1 rs => exact ⟨_, _, rfl, .inl (.inl (R.e3 _ _ h1)), by rw [rs.length]; exact hl, F0, H0, P, δ, F, ds, Q', R, rs, g, k⟩
def dAsg (te : DE) (g : DG) : DS := fun D δ => te δ fun δ1 d => g d δ1 D.nx
def yf (i : Nat) (to : DOw) : DS := fun D δ => to δ fun δ1 o => D.nx (δ1.set i (some (.own o)))
theorem jx {tg : Expr} {g : DG} (he : PE X e (upE K te)) (hg : PG X tg (upG K g)) (hs : swapsWithSole [tg] e pos.line X.env = pure false := by rfl) (hw : swappedStores [tg] e X.env = pure none := by rfl)
    (h1 : (assignEach [tg] X.env).map (·.2) = [assign tg X.env] := by rfl) : PS X (.Assign [tg] e pos) (upS K (dAsg te g)) := vu (ps_asg he hg hs hw h1) fun D σ H ⟨F0, H0, δ, F, D', W⟩ =>
  ⟨F0, H0, [], δ, F, _, W.rep, W.t, fun δ1 F1 H1 x dx R1 e1 rx ht => ⟨F0, H0, [], δ1, F1, dx, _, R1, rx, ht, fun δ2 σ2 F2 H2 R2 e2 q => W.nx δ2 σ2 F2 H2 R2 (e1.trans e2) q⟩⟩
theorem z7 {i : Nat} {x : Str} {e : Expr} {te : DE} {pos' : Pos} (hN : X.N.Nodup) (hi : X.N[i]? = some x) (hx : Loc X.env.scope x) (he : PE X e (upE K te)) (hs : swapsWith e (some (.Name x pos')) pos.line X.env = pure false := by rfl) (hf : X.fn x = true ∨ X.env.scope.names.lookup x = some .local := by first | exact .inl rfl | exact .inr rfl | assumption) :
    PS X (.Assign [.Name x pos'] e pos) (upS K (dAsg te (gN i))) := vu (ps_set hN hi hx he hs hf) fun D σ H ⟨F0, H0, δ, F, D', W⟩ =>
  ⟨F0, H0, [], δ, F, _, W.rep, W.t, fun δ1 F1 H1 x dx R1 e1 rx ht => W.nx _ _ F1 H1 (R1.setF i rx) e1 ht⟩
theorem zae {i : Nat} {x : Str} {e : Expr} {to : DOw} {pos' : Pos} (hN : X.N.Nodup) (hi : X.N[i]? = some x) (hx : Loc X.env.scope x) (he : PE X e (upO K to)) (hs : swapsWith e (some (.Name x pos')) pos.line X.env = pure false := by rfl) (hf : X.fn x = true ∨ X.env.scope.names.lookup x = some .local := by first | exact .inl rfl | exact .inr rfl | assumption) :
    PS X (.Assign [.Name x pos'] e pos) (upS K (yf i to)) := vu (ps_set hN hi hx he hs hf) fun D σ H ⟨F0, H0, δ, F, D', W⟩ =>
  ⟨F0, H0, [], δ, F, _, W.rep, W.t, fun δ1 F1 H1 p hp0 o R1 hP e1 q ht => W.nx _ _ F1 H1 (R1.setO hP i q) e1 ht⟩
def dApp (i : Nat) (te : DE) : DS := fun D δ => match δ[i]? with
  | some (some (.own (.lst _))) => te δ fun δ1 d => match δ1[i]? with
    | some (some (.own (.lst ds))) => ds.length < sizeLine ∧ D.nx (δ1.set i (some (.own (.lst (ds ++ [d])))))
    | _ => False
  | _ => False
theorem zp4 {o : Expr} {apos pos' : Pos} {i : Nat} (h : PE X (.Call (.Attribute o "append" apos) [e] [] pos) (tBM X.K "list" rAppend (tVar i) (tCons (upE K te) tNil))) (hs : swapsWith (.Call (.Attribute o "append" apos) [e] [] pos) none pos'.line X.env = pure false := by rfl) :
    PS X (.Expr (.Call (.Attribute o "append" apos) [e] [] pos) pos') (upS K (dApp i te)) := vu (ps_expr h hs) fun D σ H ⟨F0, H0, δ, F, D', W⟩ => by
  have ht := W.t
  unfold dApp at ht
  split at ht
  · rename_i ds0 e1
    obtain ⟨a, ea, ⟨vs, hv, rs⟩, n1, n2⟩ := W.rep.ownd e1
    refine ⟨_, ea, .inl ⟨rfl, vs, .inl (.inl hv)⟩, F0, H0, [], δ, F, _, W.rep, ht, fun δ1 F1 H1 x dx R1 ex1 rx ht => ?_⟩
    split at ht
    · rename_i ds e2
      obtain ⟨b, eb, ⟨ws, hw, rw⟩, n3, n4⟩ := R1.ownd e2
      rw [ea] at eb; cases eb
      refine ⟨a, ws, x, rfl, rfl, hw, by rw [rw.length]; exact ht.1, ?_⟩
      exact W.nx _ _ F1 _ (R1.write e2 ea (o' := .lst (ds ++ [dx])) (show OwnAt K F1 _ a (.lst (ds ++ [dx])) from ⟨_, upd_same, rw.app (.cons rx .nil)⟩)) ex1 ht.2
    · exact ht.elim
  · exact ht.elim
abbrev DI := Dl → (Dl → List D → Prop) → Prop
inductive YldD (K : PySem.W.Frag) (F H : Hp) : V → Hp → D → Prop
  | plain {x : V} {d : D} : Rep K F x d → YldD K F H x H d
  | pair {T : Addr} {vs : List V} {es : List D} : H T = none → RepL K F vs es → YldD K F H (.ref T) (upd H T (.tup vs)) (.tup es)
structure WalkD (K : PySem.W.Frag) (F : Hp) (J : It) (ds : List D) : Prop where
  go : ∀ i H, i < ds.length → Ex F H → J.go i H
  stop : ∀ H, Ex F H → J.stop ds.length H
  yld : ∀ i d F2 H x H', ds[i]? = some d → Ex F F2 → Ex F2 H → Tp F2 H → J.yld i H x H' → YldD K F2 H x H' d
def upI (K : PySem.W.Frag) (wi : DI) : TI := fun σ H R => ∃ F0 H0 P δ F Q', RepS K F0 H0 P δ σ F H ∧ wi δ Q' ∧ ∀ δ' F' H' J ds, RepS K F0 H0 P δ' σ F' H' → Ex F F' → WalkD K F' J ds → Q' δ' ds → R J H'
theorem iimp {tg it : Expr} {w w' : TI} (h : PI X tg it w) (i : ∀ σ H R, w' σ H R → w σ H R) : PI X tg it w' := ⟨fun pins s σ H R I q => h.run pins s σ H R I (i σ H R q)⟩
theorem YldD.rep {F0 H0 : Hp} {P : Pl} {δ : Dl} {σ : L2.St} {F H : Hp} {x : V} {H' : Hp} {d : D} (y : YldD K F H x H' d) (R : RepS K F0 H0 P δ σ F H) : ∃ F', RepS K F0 H0 P δ σ F' H' ∧ Ex F F' ∧ Rep K F' x d := by
  cases y with
  | plain r => exact ⟨F, R, Ex.refl F, r⟩
  | @pair T vs es hT rs =>
    have e : Ex F (upd F T (.tup vs)) := Ex.new (R.e3.nn hT)
    exact ⟨_, R.newF hT, e, .tup upd_same (rs.mono e)⟩
def dFor (wi : DI) (g : DG) (tb : DS) : DS := fun D δ => wi δ fun δ1 ds => ∃ I : Nat → Dl → Prop, I 0 δ1 ∧
  (∀ i d δ2, ds[i]? = some d → I i δ2 → g d δ2 fun δ3 => tb { D with nx := I (i + 1), ct := I (i + 1), bk := D.nx } δ3) ∧ ∀ δ2, I ds.length δ2 → D.nx δ2
theorem vh {tg iter : Expr} {wi : DI} {g : DG} {tb : DS} (hp : PassesOwn (model X.prog X.w) X.A X.env X.xe) (hc : X.calm = true) (hi : PI X tg iter (upI K wi)) (hg : PG X tg (upG K g)) (hb : PSs X body (upS K tb))
    (hs : ∀ x, foldedSetIterable iter X.env x = pure x := by intro _; rfl) : PS X (.For tg iter body [] pos) (upS K (dFor wi g tb)) := vu (ps_for hp hc hi hg hb hs) fun D σ H ⟨F0, H0, δ, F, D', W⟩ => by
  refine ⟨F0, H0, [], δ, F, _, W.rep, W.t, fun δ1 F1 H1 J ds R1 e1 wk ⟨I, i0, is, id⟩ => ?_⟩
  refine ⟨fun i m σ2 H2 => m = ds.length - i ∧ i ≤ ds.length ∧ ∃ δ2 F2, RepS K F0 H0 [] δ2 σ2 F2 H2 ∧ Ex F1 F2 ∧ I i δ2, ⟨_, rfl, Nat.zero_le _, δ1, F1, R1, Ex.refl F1, i0⟩, ?_⟩
  rintro i m σ2 H2 ⟨rfl, hi, δ2, F2, R2, e2, q2⟩
  by_cases hlt : i < ds.length
  · have hd : ds[i]? = some ds[i] := List.getElem?_eq_getElem hlt
    refine .inr ⟨wk.go i H2 hlt (e2.trans R2.e3), fun σ3 H3 => ∃ δ3 F3, RepS K F0 H0 [] δ3 σ3 F3 H3 ∧ Ex F1 F3 ∧ I (i + 1) δ3, fun σ3 H3 ⟨δ3, F3, R3, e3, q3⟩ => ⟨_, by omega, rfl, hlt, δ3, F3, R3, e3, q3⟩, fun x H3 y => ?_⟩
    obtain ⟨F3, R3, e3, rx⟩ := (wk.yld i _ F2 H2 x H3 hd e2 R2.e3 R2.tp y).rep R2
    refine ⟨F0, H0, [], δ2, F3, _, _, R3, rx, is i _ δ2 hd q2, fun δ4 σ4 F4 H4 R4 e4 q4 => ?_⟩
    exact ⟨F0, H0, δ4, F4, _, ⟨R4, q4, fun δ5 σ5 F5 H5 R5 e5 q5 => ⟨δ5, F5, R5, ((e2.trans e3).trans e4).trans e5, q5⟩, fun δ5 σ5 F5 H5 R5 e5 q5 => W.nx δ5 σ5 F5 H5 R5 ((((e1.trans e2).trans e3).trans e4).trans e5) q5, fun δ5 σ5 F5 H5 R5 e5 q5 => ⟨δ5, F5, R5, ((e2.trans e3).trans e4).trans e5, q5⟩, W.rt⟩⟩
  · have e : i = ds.length := by omega
    subst e
    exact .inl ⟨wk.stop H2 (e2.trans R2.e3), W.nx δ2 σ2 F2 H2 R2 (e1.trans e2) (id δ2 q2)⟩
end
end Mv
namespace Mv
open PySem PySem.Spec PyProof.Rows L2
inductive Vw where
  | inl (i : Nat) | inr (d : D) | cel (a : Addr)
def wlO (δ : Dl) : Wl := match δ.getLast? with
  | some (some (.wld W)) => W
  | _ => []
abbrev DV := Dl → (Dl → Vw → Prop) → Prop
def vwD (δ : Dl) : Vw → Option D
  | .inr d => some d
  | .inl i => match δ[i]? with
    | some (some (.own o)) => some o.d
    | _ => none
  | .cel a => (valG (wlO δ) a).map O.d
def VwOk (K : PySem.W.Frag) (σ : L2.St) (F : Hp) (v : V) : Vw → Prop
  | .inr d => Rep K F v d
  | .inl i => σ[i]? = some (some v)
  | .cel a => v = .ref a
def upV (K : PySem.W.Frag) (t : DV) : TE := fun σ H Q => ∃ F0 H0 P δ F Q', RepS K F0 H0 P δ σ F H ∧ t δ Q' ∧ ∀ δ' F' H' v x, RepS K F0 H0 P δ' σ F' H' → Ex F F' → VwOk K σ F' v x → Q' δ' x → Q v H'
inductive View (K : PySem.W.Frag) (F H : Hp) : V → D → Prop
  | flat {v d} : Rep K F v d → Ex F H → View K F H v d
  | lst {a vs ds} : H a = some (.lst vs) → RepL K F vs ds → View K F H (.ref a) (.lst ds)
  | dk {a ws kvs} : H a = some (.dK ws) → RepK K F ws kvs → View K F H (.ref a) (.dk kvs)
  | dt {a ws kvs} : H a = some (.dT ws) → RepT K F ws kvs → View K F H (.ref a) (.dt kvs)
  | ins {a C dx ws fs} : H a = some (.ins C dx ws) → RepF K F ws fs → View K F H (.ref a) (.ins C fs)
theorem OwnAt.view {K : PySem.W.Frag} {F H : Hp} {a : Addr} {o : O} (h : OwnAt K F H a o) : View K F H (.ref a) o.d := by
  cases o with
  | lst ds => obtain ⟨vs, h1, h2⟩ := h; exact .lst h1 h2
  | dk ds => obtain ⟨vs, h1, h2⟩ := h; exact .dk h1 h2
  | dt ds => obtain ⟨vs, h1, h2⟩ := h; exact .dt h1 h2
  | ins C fs => obtain ⟨vs, h1, h2⟩ := h; exact .ins h1 h2
theorem yy {κ α : Type} [DecidableEq κ] : ∀ {t : List (κ × α)} {k : κ} {v : α}, valG t k = some v → (k, v) ∈ t
  | q :: t, k, v, h => by
    by_cases e : q.1 = k
    · have : valG (q :: t) k = some q.2 := by simp [valG, e]
      rw [this] at h; cases h; subst e; exact List.mem_cons_self
    · have : valG (q :: t) k = valG t k := by simp [valG, e]
      rw [this] at h; exact List.mem_cons_of_mem _ (yy h)
theorem z08 {δ : Dl} {W : Wl} (h : wlO δ = W) (n : W ≠ []) : δ[δ.length - 1]? = some (some (.wld W)) := by
  unfold wlO at h
  rw [List.getLast?_eq_getElem?] at h
  split at h
  · rename_i e; rw [e, h]
  · exact absurd h.symm n
theorem RepS.wl {K : PySem.W.Frag} {F0 H0 F H : Hp} {P : Pl} {δ : Dl} {σ : L2.St} (R : RepS K F0 H0 P δ σ F H) {a : Addr} {o : O} (h : (a, o) ∈ wlO δ) : OwnAt K F H a o ∧ F a = none ∧ H0 a = none ∧ a ∉ pk P := by
  have e := z08 (δ := δ) rfl fun z => by rw [z] at h; exact nomatch h
  obtain ⟨w, h1, hw⟩ := R.own
  obtain ⟨v, ev, _, q, _⟩ := hw _ _ e
  obtain ⟨q1, q2⟩ := q _ h
  obtain ⟨a1, a2, a3, a4⟩ := h1 _ _ q1
  exact ⟨q2, a2, a1, a4⟩
section
variable {K : PySem.W.Frag} {F0 H0 F H F1 : Hp} {P : Pl} {δ : Dl} {σ : L2.St} {v : V} {x : Vw} {d : D}
theorem RepS.view (R : RepS K F0 H0 P δ σ F H) (ok : VwOk K σ F1 v x) (e : Ex F1 F) (h : vwD δ x = some d) : View K F H v d := by
  cases x with
  | inr d' => cases h; exact .flat (Rep.mono e ok) R.e3
  | inl i =>
    unfold vwD at h
    simp only at h
    split at h
    · rename_i o eo
      cases h
      obtain ⟨a, ea, q, _⟩ := R.ownd eo
      have ok' : σ[i]? = some (some v) := ok
      rw [ok'] at ea; cases ea
      exact q.view
    · cases h
  | cel a =>
    obtain rfl : v = .ref a := ok
    obtain ⟨o, e1, rfl⟩ := Option.map_eq_some_iff.mp h
    exact (R.wl (yy e1)).1.view
theorem View.lst' {ds : List D} (h : View K F H v (.lst ds)) : ∃ a vs, v = .ref a ∧ Rd H a (.lst vs) ∧ RepL K F vs ds := by
  cases h with
  | flat r e => cases r with | lst h r => exact ⟨_, _, rfl, .inr ⟨_, e _ _ h⟩, r⟩
  | lst h r => exact ⟨_, _, rfl, .inl h, r⟩
theorem View.scr' {ns : List Int} (h : View K F H v (.scr ns)) : ∃ a, v = .ref a ∧ SqL K H a (ns.map V.int) := by
  cases h with
  | flat r e => cases r with | scr h => exact ⟨_, rfl, e.sql h⟩
theorem View.tup' {ds : List D} (h : View K F H v (.tup ds)) : ∃ a vs, v = .ref a ∧ H a = some (.tup vs) ∧ RepL K F vs ds := by
  cases h with
  | flat r e => cases r with | tup h r => exact ⟨_, _, rfl, e _ _ h, r⟩
theorem View.dk' {kvs : List (Key × D)} (h : View K F H v (.dk kvs)) : ∃ a ws, v = .ref a ∧ Rd H a (.dK ws) ∧ RepG K F ws kvs := by
  cases h with
  | flat r e => cases r with | dk h r => exact ⟨_, _, rfl, .inr ⟨_, e _ _ h⟩, r.g⟩
  | dk h r => exact ⟨_, _, rfl, .inl h, r.g⟩
theorem View.dt' {kvs : List (List Key × D)} (h : View K F H v (.dt kvs)) : ∃ a ws, v = .ref a ∧ Rd H a (.dT ws) ∧ RepG K F ws kvs := by
  cases h with
  | flat r e => cases r with | dt h r => exact ⟨_, _, rfl, .inr ⟨_, e _ _ h⟩, r.g⟩
  | dt h r => exact ⟨_, _, rfl, .inl h, r.g⟩
theorem View.str' {z : Str} (h : View K F H v (.str z)) : v = .str z := by
  cases h with
  | flat r e => cases r; rfl
theorem zkh {F : Hp} {v : V} {d : D} {k : List Key} (r : Rep K F v d) (h : tkey d = some k) : ∃ b, v = .ref b ∧ F b = some (.tup (k.map kV)) := by
  cases r with
  | tup h1 rs => exact ⟨_, rfl, by rw [h1, zkg rs h]⟩
  | _ => simp [tkey] at h
inductive DLook : D → D → Option D → Prop
  | k {kvs kd k} : dkey kd = some k → DLook (.dk kvs) kd (valG kvs k)
  | t {kvs kd k} : tkey kd = some k → DLook (.dt kvs) kd (valG kvs k)
theorem View.dget {kd : D} {r : Option D} {y : V} (h : View K F H v d) (ry : Rep K F y kd) (e : Ex F H) (l : DLook d kd r) : ∃ a o, v = .ref a ∧ DGet H a y o ∧ (∀ x, r = some x → ∃ u, o = some u ∧ Rep K F u x) ∧ (r = none → o = none) := by
  cases l with
  | @k kvs _ k hk =>
    obtain ⟨a, ws, rfl, hd, rg⟩ := h.dk'
    refine ⟨a, _, rfl, .inl ⟨ws, k, hd, zax ry hk, rfl⟩, fun x hx => ?_, fun hx => ?_⟩
    · rcases rg.val k with ⟨u, d', e1, e2, r⟩ | ⟨e1, e2⟩
      · rw [hx] at e2; cases e2; exact ⟨u, e1, r⟩
      · rw [hx] at e2; cases e2
    · rcases rg.val k with ⟨u, d', e1, e2, r⟩ | ⟨e1, e2⟩
      · rw [hx] at e2; cases e2
      · exact e1
  | @t kvs _ k hk =>
    obtain ⟨a, ws, rfl, hd, rg⟩ := h.dt'
    obtain ⟨b, rfl, hb⟩ := zkh ry hk
    refine ⟨a, _, rfl, .inr ⟨ws, k, b, hd, rfl, e _ _ hb, rfl⟩, fun x hx => ?_, fun hx => ?_⟩
    · rcases rg.val k with ⟨u, d', e1, e2, r⟩ | ⟨e1, e2⟩
      · rw [hx] at e2; cases e2; exact ⟨u, e1, r⟩
      · rw [hx] at e2; cases e2
    · rcases rg.val k with ⟨u, d', e1, e2, r⟩ | ⟨e1, e2⟩
      · rw [hx] at e2; cases e2
      · exact e1
end
section
variable {X : Cx} {K : PySem.W.Frag} {e a b c o : Expr} {es : List Expr} {ta tb tc te tk tv : DE} {tw : DV} {st : Stmt} {rest body : List Stmt} {t u : DS} {ts : DA} {pos p apos cpos : Pos}
def dVV (i : Nat) : DV := fun δ Q => match δ[i]? with
  | some (some (.fz d)) => Q δ (.inr d)
  | some (some (.own _)) => Q δ (.inl i)
  | _ => False
theorem z09 {i : Nat} (h : PE X e (tVar i)) : PE X e (upV K (dVV i)) := pimp h fun σ H Q ⟨F0, H0, P, δ, F, Q', R, ht, k⟩ => by
  unfold dVV at ht
  split at ht
  · rename_i d e1
    obtain ⟨v, ev, r⟩ := R.fz e1
    exact ⟨v, ev, k δ F H v (.inr d) R (Ex.refl F) r ht⟩
  · rename_i o e1
    obtain ⟨a, ea, _⟩ := R.ownd e1
    exact ⟨_, ea, k δ F H _ (.inl i) R (Ex.refl F) ea ht⟩
  · exact ht.elim
theorem vdv (i : Nat) {x : Str} {pos : Pos} (hN : X.N[i]? = some x := by rfl) (hv : Vis X.env.scope x := by first | exact Or.inl rfl | exact Or.inr (Or.inl rfl) | exact Or.inr (Or.inr rfl)) (hd : (x == ("__debug__" : Str)) = false := by decide)
    (hcd : (x == ("__classdict__" : Str)) = false := by decide) : PE X (.Name x pos) (upV K (dVV i)) := z09 (pv i hN hv hd hcd)
def dVF (te : DE) : DV := fun δ Q => te δ fun δ1 d => Q δ1 (.inr d)
theorem vf (h : PE X e (upE K te)) : PE X e (upV K (dVF te)) := pimp h fun σ H Q ⟨F0, H0, P, δ, F, Q', R, ht, k⟩ =>
  ⟨F0, H0, P, δ, F, _, R, ht, fun δ1 F1 H1 v d R1 e1 r q => k δ1 F1 H1 v (.inr d) R1 e1 r q⟩
def d2V (g : D → D → (D → Prop) → Prop) (tw : DV) (tb : DE) : DE := fun δ Q => tw δ fun δ1 x => tb δ1 fun δ2 y => ∃ d, vwD δ2 x = some d ∧ g d y fun r => Q δ2 r
def Op2V (K : PySem.W.Frag) (r : R2) (g : D → D → (D → Prop) → Prop) : Prop :=
  ∀ (x y : V) (F H : Hp) (dx dy : D) (Q : VK) (Q' : D → Prop), View K F H x dx → Rep K F y dy → Ex F H → g dx dy Q' → (∀ v d, Rep K F v d → Q' d → Q v H) → r x y H Q
theorem up2V {r : R2} {g : D → D → (D → Prop) → Prop} (ho : Op2V K r g) {σ : L2.St} {H : Hp} {Q : VK} (h : upE K (d2V g tw tb) σ H Q) : tOp r (upV K tw) (upE K tb) σ H Q := by
  obtain ⟨F0, H0, P, δ, F, Q', R, ht, k⟩ := h
  refine ⟨F0, H0, P, δ, F, _, R, ht, fun δ1 F1 H1 x vx R1 e1 rx ht => ?_⟩
  refine ⟨F0, H0, P, δ1, F1, _, R1, ht, fun δ2 F2 H2 y dy R2 e2 ry ⟨d, hd, ht⟩ => ?_⟩
  exact ho x y F2 H2 d dy Q _ (R2.view rx e2 hd) ry R2.e3 ht fun v d rv q => k δ2 F2 H2 v d R2 (e1.trans e2) rv q
def d2W (g : D → D → (D → Prop) → Prop) (ta : DE) (tw : DV) : DE := fun δ Q => ta δ fun δ1 y => tw δ1 fun δ2 x => ∃ d, vwD δ2 x = some d ∧ g y d fun r => Q δ2 r
def Op2W (K : PySem.W.Frag) (r : R2) (g : D → D → (D → Prop) → Prop) : Prop :=
  ∀ (x y : V) (F H : Hp) (dx dy : D) (Q : VK) (Q' : D → Prop), Rep K F x dx → View K F H y dy → Ex F H → g dx dy Q' → (∀ v d, Rep K F v d → Q' d → Q v H) → r x y H Q
theorem up2W {r : R2} {g : D → D → (D → Prop) → Prop} (ho : Op2W K r g) {σ : L2.St} {H : Hp} {Q : VK} (h : upE K (d2W g ta tw) σ H Q) : tOp r (upE K ta) (upV K tw) σ H Q := by
  obtain ⟨F0, H0, P, δ, F, Q', R, ht, k⟩ := h
  refine ⟨F0, H0, P, δ, F, _, R, ht, fun δ1 F1 H1 x dx R1 e1 rx ht => ?_⟩
  refine ⟨F0, H0, P, δ1, F1, _, R1, ht, fun δ2 F2 H2 y vy R2 e2 ry ⟨d, hd, ht⟩ => ?_⟩
  exact ho x y F2 H2 dx d Q _ (rx.mono e2) (R2.view ry (Ex.refl F2) hd) R2.e3 ht fun v d rv q => k δ2 F2 H2 v d R2 (e1.trans e2) rv q
def gIx : D → D → (D → Prop) → Prop
  | .scr ns, .int i, Q => ∃ z, atI ns i = some z ∧ Q (.int z)
  | .lst ds, .int i, Q => ∃ d, atI ds i = some d ∧ Q d
  | .tup ds, .int i, Q => ∃ d, atI ds i = some d ∧ Q d
  | .str z, .int i, Q => ∃ c, z.length ≤ sizeLine ∧ atI z.cps.toList i = some c ∧ Q (.str ⟨#[c]⟩)
  | .dk kvs, kd, Q => ∃ k d, dkey kd = some k ∧ valG kvs k = some d ∧ Q d
  | .dt kvs, kd, Q => ∃ k d, tkey kd = some k ∧ valG kvs k = some d ∧ Q d
  | _, _, _ => False
def rIxD : R2 := fun x y H Q => ∃ a v, x = .ref a ∧ DGet H a y (some v) ∧ Q v H
theorem zs3 (hu : X.A.units + 1 < cLine) : IxR X rIxD := by
  intro value slice pins s σ H x y v u Q I rx ry ⟨a, z, e, g, q⟩ hs
  subst e
  cases rx
  exact tail_any (dict_typeIs I g) PySem.F.slot_dict_getitem.lookup (d_getItem hu I g ry fun w' s3 I3 rw' => ⟨z, H, I3, rw', q⟩) hs
theorem zs4 {F : Hp} {vs : List V} {ds : List D} {i : Int} {d : D} (r : RepL K F vs ds) (h : atI ds i = some d) : ∃ v, atI vs i = some v ∧ Rep K F v d := by
  unfold atI at h ⊢
  rw [r.length]
  cases e : ixN ds.length i with
  | none => rw [e] at h; cases h
  | some j => rw [e] at h; exact r.get h
theorem z2n : Op2V K (fun x y H Q => (rIxL K x y H Q ∨ rIxT K x y H Q ∨ rIxS x y H Q) ∨ rIxD x y H Q) gIx := by
  intro x y F H dx dy Q Q' rx ry ex g k
  unfold gIx at g
  split at g
  · obtain ⟨z, hz, g⟩ := g
    cases ry
    obtain ⟨a, rfl, hs⟩ := rx.scr'
    have hv : ∀ (ns : List Int) (i : Int), atI ns i = some z → atI (ns.map V.int) i = some (V.int z) := fun ns i h => by
      unfold atI at h ⊢
      rw [List.length_map]
      cases e : ixN ns.length i with
      | none => rw [e] at h; cases h
      | some j =>
        rw [e] at h
        have h' : ns[j]? = some z := h
        show (ns.map V.int)[j]? = _
        rw [List.getElem?_map, h']; rfl
    exact .inl (.inl ⟨_, _, _, _, rfl, rfl, hs, hv _ _ hz, k _ _ (.int _) g⟩)
  · obtain ⟨d, hd, g⟩ := g
    cases ry
    obtain ⟨a, vs, rfl, hs, rs⟩ := rx.lst'
    obtain ⟨v, hv, rv⟩ := zs4 rs hd
    exact .inl (.inl ⟨_, _, _, _, rfl, rfl, .inl hs, hv, k _ _ rv g⟩)
  · obtain ⟨d, hd, g⟩ := g
    cases ry
    obtain ⟨a, vs, rfl, hs, rs⟩ := rx.tup'
    obtain ⟨v, hv, rv⟩ := zs4 rs hd
    exact .inl (.inr (.inl ⟨_, _, _, _, rfl, rfl, .inl (.inl hs), hv, k _ _ rv g⟩))
  · obtain ⟨c, hl, hc, g⟩ := g
    cases ry
    cases rx.str'
    exact .inl (.inr (.inr ⟨_, _, _, rfl, rfl, hl, hc, k _ _ (.str _) g⟩))
  · obtain ⟨kk, d, hk, hd, g⟩ := g
    obtain ⟨a, o, rfl, dg, h1, _⟩ := rx.dget ry ex (.k hk)
    obtain ⟨u, rfl, ru⟩ := h1 d hd
    exact .inr ⟨_, _, rfl, dg, k _ _ ru g⟩
  · obtain ⟨kk, d, hk, hd, g⟩ := g
    obtain ⟨a, o, rfl, dg, h1, _⟩ := rx.dget ry ex (.t hk)
    obtain ⟨u, rfl, ru⟩ := h1 d hd
    exact .inr ⟨_, _, rfl, dg, k _ _ ru g⟩
  · exact g.elim
theorem z8 (hu : X.A.units + 1 < cLine) (ha : PE X a (upV K tw)) (hb : PE X b (upE K tb)) (hs : PlainIx b := by exact fun _ _ => rfl) (hK : X.K = K := by rfl) : PE X (.Subscript a b pos) (upE K (d2V gIx tw tb)) := by
  subst hK
  have h : IxR X (fun x y H Q => (rIxL X.K x y H Q ∨ rIxT X.K x y H Q ∨ rIxS x y H Q) ∨ rIxD x y H Q) := ix_seq.or (zs3 hu)
  exact pimp (pe_ix h ha hb hs) fun _ _ _ q => up2V z2n q
def zd0 : D → Option V
  | .non => some .non | .bl b => some (.bl b) | .int i => some (.int i) | .str s => some (.str s)
  | _ => none
def ym : List D → Option (List V)
  | [] => some []
  | d :: ds => match zd0 d, ym ds with
    | some v, some vs => some (v :: vs)
    | _, _ => none
theorem zek {F : Hp} {v u : V} {d : D} (r : Rep K F v d) (h : zd0 d = some u) : v = u ∧ flatV v = true := by
  cases r <;> simp [zd0] at h <;> subst h <;> exact ⟨rfl, rfl⟩
theorem ze7 {F : Hp} : ∀ {vs : List V} {ds : List D} {us : List V}, RepL K F vs ds → ym ds = some us → vs = us ∧ vs.all flatV = true
  | _, _, us, .nil, h => by simp [ym] at h; subst h; exact ⟨rfl, rfl⟩
  | _, _, us, .cons r t, h => by
    unfold ym at h
    split at h
    · rename_i v vs e1 e2
      cases h
      obtain ⟨h1, h2⟩ := zek r e1
      obtain ⟨h3, h4⟩ := ze7 t e2
      subst h1 h3
      exact ⟨rfl, by simp [h2, h4]⟩
    · cases h
def gInB (neg : Bool) : D → D → (D → Prop) → Prop
  | kd, .lst ds, Q => ∃ v vs, zd0 kd = some v ∧ ym ds = some vs ∧ Q (.bl (if neg then !inV v vs else inV v vs))
  | kd, .tup ds, Q => ∃ v vs, zd0 kd = some v ∧ ym ds = some vs ∧ Q (.bl (if neg then !inV v vs else inV v vs))
  | .str x, .str z, Q => ∃ c, x = ⟨#[c]⟩ ∧ Q (.bl (if neg then !decide (c ∈ z.cps.toList) else decide (c ∈ z.cps.toList)))
  | kd, .dk kvs, Q => ∃ k, dkey kd = some k ∧ Q (.bl (if neg then !(valG kvs k).isSome else (valG kvs k).isSome))
  | kd, .dt kvs, Q => ∃ k, tkey kd = some k ∧ Q (.bl (if neg then !(valG kvs k).isSome else (valG kvs k).isSome))
  | _, _, _ => False
def rDIn (neg : Bool) : R2 := fun y x H Q => ∃ a o, x = .ref a ∧ DGet H a y o ∧ Q (.bl (if neg then !o.isSome else o.isSome)) H
def rSgn (neg : Bool) : R2 := fun x y H Q => ∃ (c : Nat) (z : Str), x = .str ⟨#[c]⟩ ∧ y = .str z ∧ Q (.bl (if neg then !decide (c ∈ z.cps.toList) else decide (c ∈ z.cps.toList))) H
theorem zua (hu : X.A.units + 1 < cLine) : OpR X (compareOp .In) (rDIn false) := by
  intro pins s σ H x y v u Q I rx ry ⟨a, o, e, g, q⟩
  subst e
  cases ry
  exact d_in hu I g rx fun s3 I3 => ⟨.bl _, H, I3, rfl, q⟩
theorem zsl (hu : X.A.units + 1 < cLine) : OpR X (compareOp .NotIn) (rDIn true) := by
  intro pins s σ H x y v u Q I rx ry ⟨a, o, e, g, q⟩
  subst e
  cases ry
  exact d_notIn hu I g rx fun s3 I3 => ⟨.bl _, H, I3, rfl, q⟩
theorem zpn (neg : Bool) : Op2W K (fun x y H Q => rIn K neg x y H Q ∨ rSgn neg x y H Q ∨ rDIn neg x y H Q) (gInB neg) := by
  intro x y F H dx dy Q Q' rx ry ex g k
  unfold gInB at g
  split at g
  · obtain ⟨v, vs, h1, h2, g⟩ := g
    obtain ⟨a, ws, rfl, hs, rs⟩ := ry.lst'
    obtain ⟨e1, f1⟩ := zek rx h1
    obtain ⟨e2, f2⟩ := ze7 rs h2
    subst e1 e2
    exact .inl ⟨_, _, rfl, .inl (.inl hs), f1, f2, k _ _ (.bl _) g⟩
  · obtain ⟨v, vs, h1, h2, g⟩ := g
    obtain ⟨a, ws, rfl, hs, rs⟩ := ry.tup'
    obtain ⟨e1, f1⟩ := zek rx h1
    obtain ⟨e2, f2⟩ := ze7 rs h2
    subst e1 e2
    exact .inl ⟨_, _, rfl, .inr (.inl (.inl hs)), f1, f2, k _ _ (.bl _) g⟩
  · obtain ⟨c, h1, g⟩ := g
    subst h1
    cases rx
    cases ry.str'
    exact .inr (.inl ⟨c, _, rfl, rfl, k _ _ (.bl _) g⟩)
  · obtain ⟨kk, h1, g⟩ := g
    rename_i kvs
    obtain ⟨a, o, rfl, dg, q1, q2⟩ := ry.dget rx ex (.k h1)
    refine .inr (.inr ⟨a, o, rfl, dg, ?_⟩)
    have e : o.isSome = (valG kvs kk).isSome := by
      cases hv : valG kvs kk with
      | none => rw [q2 hv]; rfl
      | some z => obtain ⟨u, rfl, _⟩ := q1 z hv; rfl
    rw [e]
    exact k _ _ (.bl _) g
  · obtain ⟨kk, h1, g⟩ := g
    rename_i kvs
    obtain ⟨a, o, rfl, dg, q1, q2⟩ := ry.dget rx ex (.t h1)
    refine .inr (.inr ⟨a, o, rfl, dg, ?_⟩)
    have e : o.isSome = (valG kvs kk).isSome := by
      cases hv : valG kvs kk with
      | none => rw [q2 hv]; rfl
      | some z => obtain ⟨u, rfl, _⟩ := q1 z hv; rfl
    rw [e]
    exact k _ _ (.bl _) g
  · exact g.elim
theorem zp5 (hu : X.A.units + 1 < cLine) : OpR X (compareOp .In) (fun x y H Q => rIn X.K false x y H Q ∨ rSgn false x y H Q ∨ rDIn false x y H Q) :=
  op_in_seq.or (OpR.or (r := rSgn false) op_in_sign (zua hu))
theorem zs5 (hu : X.A.units + 1 < cLine) : OpR X (compareOp .NotIn) (fun x y H Q => rIn X.K true x y H Q ∨ rSgn true x y H Q ∨ rDIn true x y H Q) :=
  op_notIn_seq.or (OpR.or (r := rSgn true) op_notIn_sign (zsl hu))
theorem z2o (hu : X.A.units + 1 < cLine) (ha : PE X a (upE K ta)) (hb : PE X b (upV K tw)) (hm : behindInMarks .In b = false := by rfl) (hK : X.K = K := by rfl) : PE X (.Compare a [.In] [b] pos) (upE K (d2W (gInB false) ta tw)) := by
  subst hK
  exact pimp (pe_cmpR (zp5 hu) ha hb hm) fun _ _ _ q => up2W (zpn false) q
theorem qt_w {op : CmpOp} {r : R2} {g : D → D → (D → Prop) → Prop} (hr : OpR X (compareOp op) r) (ho : Op2W K r g) (ha : PE X a (upE K ta)) (hb : PE X b (upV K tw)) (hm : behindInMarks op b = false) : PT X (.Compare a [op] [b] pos) (upT K (dTst (d2W g ta tw))) :=
  zlf (pt_cmpR hr ha hb hm) fun σ H Q ⟨F0, H0, P, δ, F, Q', R, ht, k⟩ => by
    refine ⟨F0, H0, P, δ, F, _, R, ht, fun δ1 F1 H1 x dx R1 e1 rx ht => ?_⟩
    refine ⟨F0, H0, P, δ1, F1, _, R1, ht, fun δ2 F2 H2 y vy R2 e2 ry ⟨d, hd, ht⟩ => ?_⟩
    refine ho x y F2 H2 dx d _ _ (rx.mono e2) (R2.view ry (Ex.refl F2) hd) R2.e3 ht fun v d rv ⟨q, e, ht⟩ => ?_
    subst e
    cases rv
    exact ⟨q, rfl, k δ2 F2 H2 _ R2 (e1.trans e2) ht⟩
theorem zpo (hu : X.A.units + 1 < cLine) (ha : PE X a (upE K ta)) (hb : PE X b (upV K tw)) (hm : behindInMarks .In b = false := by rfl) (hK : X.K = K := by rfl) : PT X (.Compare a [.In] [b] pos) (upT K (dTst (d2W (gInB false) ta tw))) := by
  subst hK
  exact qt_w (zp5 hu) (zpn false) ha hb hm
def d1V (g : D → (D → Prop) → Prop) (tw : DV) : DE := fun δ Q => tw δ fun δ1 x => ∃ d, vwD δ1 x = some d ∧ g d fun r => Q δ1 r
def gLen : D → (D → Prop) → Prop := fun d Q => match d with
  | .lst ds => Q (.int ds.length)
  | .scr ns => Q (.int ns.length)
  | .tup ds => Q (.int ds.length)
  | .str z => z.length ≤ sizeLine ∧ Q (.int z.length)
  | .dk kvs => Q (.int kvs.length)
  | _ => False
theorem zub : CallR X (.builtin "len") (fun xs H Q => ∃ a kvs, xs = [V.ref a] ∧ Rd H a (.dK kvs) ∧ Q (.int kvs.length) H) := by
  intro pins s σ H xs us Q I r h
  obtain ⟨a, kvs, rfl, ha, q⟩ := h
  obtain ⟨u, rfl, ru⟩ := vals1 r
  cases ru
  exact d_len I ha fun t s' I' => ⟨.int kvs.length, H, I', ⟨t, rfl⟩, q⟩
theorem yp (hg : Gl X "len") (hm : X.mg "len" = none) (ha : PE X a (upV K tw)) (hK : X.K = K := by rfl) (hs : starEach [a] X.env = (false, eval a X.env) :: starEach [] X.env := by rfl) (hpl : (backTo pos (starEach [] X.env)).any (·.1) = false := by rfl) :
    PE X (.Call (.Name "len" p) [a] [] pos) (upE K (d1V gLen tw)) := by
  subst hK
  refine pimp (pe_callB ((call_len_seq).or (call_len_str.or zub)) hg hm PySem.boot_len (pa_cons ha pa_nil hs) (by decide) (by decide) hs hpl) fun σ H Q ⟨F0, H0, P, δ, F, Q', R, ht, k⟩ => ?_
  refine ⟨F0, H0, P, δ, F, _, R, ht, fun δ1 F1 H1 v x R1 e1 ok ⟨d, hd, g⟩ => ?_⟩
  have vw := R1.view ok (Ex.refl F1) hd
  unfold gLen at g
  split at g
  · obtain ⟨a, vs, rfl, hs, rs⟩ := vw.lst'
    exact .inl ⟨a, vs, rfl, .inl (.inl hs), k _ _ _ _ _ R1 e1 (by rw [rs.length]; exact .int _) g⟩
  · obtain ⟨a, rfl, hs⟩ := vw.scr'
    exact .inl ⟨a, _, rfl, .inl hs, k _ _ _ _ _ R1 e1 (by rw [List.length_map]; exact .int _) g⟩
  · obtain ⟨a, vs, rfl, hs, rs⟩ := vw.tup'
    exact .inl ⟨a, vs, rfl, .inr (.inl (.inl hs)), k _ _ _ _ _ R1 e1 (by rw [rs.length]; exact .int _) g⟩
  · cases vw.str'
    exact .inr (.inl ⟨_, rfl, g.1, k _ _ _ _ _ R1 e1 (.int _) g.2⟩)
  · obtain ⟨a, ws, rfl, hs, rs⟩ := vw.dk'
    exact .inr (.inr ⟨a, ws, rfl, hs, k _ _ _ _ _ R1 e1 (by rw [rs.length]; exact .int _) g⟩)
  · exact g.elim
abbrev DP := Dl → (Dl → Option Int → Prop) → Prop
end
end Mv
namespace Mv
open PySem PySem.Spec PyProof.Rows L2
section
variable {K : PySem.W.Frag} {F0 H0 F H F' H' : Hp} {P : Pl} {δ : Dl} {σ : L2.St} {p : Addr}
theorem RepS.growP (R : RepS K F0 H0 P δ σ F H) (G : Grown F H F' H') {ho : HO} (h1 : H p = none) (h2 : H' p = some ho) (h3 : F' p = none) : RepS K F0 H0 ((p, ho) :: P) δ σ F' H' ∧ p ∉ pk P := by
  have R1 := R.grow G.e1 G.e2 G.e3 G.fr G.tp
  have hP := R.fresh h1
  refine ⟨?_, hP⟩
  obtain ⟨w, a1, hw⟩ := R.own
  have keep : ∀ a, F a = none → H a ≠ none → F' a = none := fun a h1 h2 => by
    cases q : F' a with
    | none => rfl
    | some o =>
      rcases G.fr a o q with z | z
      · rw [h1] at z; cases z
      · exact absurd z h2
  refine ⟨R1.e1, R1.e2, R1.e3, R1.fr, R1.tp, R1.len, ⟨w, fun a i e => ?_, fun i s e => ?_⟩, R.low, fun q ho' hq => ?_⟩
  · obtain ⟨b1, b2, b3, b4⟩ := a1 a i e
    have ne : a ≠ p := fun z => b3 (z ▸ h1)
    exact ⟨b1, keep a b2 b3, G.e2.sm b3, by simpa [pk, ne] using b4⟩
  · obtain ⟨v, ev, q⟩ := hw i s e
    refine ⟨v, ev, q.keep G.e1 fun a ew => ⟨ew, fun nn => ?_⟩⟩
    cases hh : H a with
    | none => exact absurd hh nn
    | some ho => exact G.e2 _ _ hh
  · rcases List.mem_cons.mp hq with e | hq
    · cases e; exact ⟨R.e2.nn h1, h3, h2⟩
    · exact R1.rsv q ho' hq
end
abbrev DSp := List D → (S → Prop) → Prop
def spD (K : PySem.W.Frag) (n : Nat) (sp : DSp) : Sp := fun vs H Q _ => ∃ F ds Q', Ex F H ∧ Tp F H ∧ Low F ∧ RepL K F vs ds ∧ ds.length = n ∧ sp ds Q' ∧ ∀ F' H' v r, Grown F H F' H' → zt8 K H F' H' v r → Q' r → Q v H'
def zp (n : Nat) (ds : List D) : Dl := ds.map (fun d => some (S.fz d)) ++ List.replicate (n - ds.length) none
section
variable {P : Program} {w : World} {K : PySem.W.Frag} {mg : Str → Option Value} {base : Heap}
theorem zik {N : List Str} {vs : List V} {ds : List D} {F H : Hp} (e : Ex F H) (tp : Tp F H) (lo : Low F) (r : RepL K F vs ds) : RepS K F H [] (zp N.length ds) (L2.start N vs) F H := by
  refine ⟨Ex.refl F, Ex.refl H, e, fun a o h => .inl h, tp, ?_, ⟨fun _ => none, ⟨fun _ _ h => (nomatch h), fun i s h => ?_⟩⟩, lo, fun _ _ h => nomatch h⟩
  · simp [zp, L2.start, r.length]
  · unfold zp at h
    unfold L2.start
    by_cases hi : i < ds.length
    · rw [List.getElem?_append_left (by simpa using hi), List.getElem?_map] at h
      cases hd : ds[i]? with
      | none => rw [hd] at h; simp at h
      | some d =>
        rw [hd] at h
        simp at h
        subst h
        obtain ⟨v, hv, rv⟩ := r.get hd
        refine ⟨v, ?_, rv⟩
        rw [List.getElem?_append_left (by simp [r.length]; exact hi), List.getElem?_map, hv]; rfl
    · rw [List.getElem?_append_right (by simpa using hi)] at h
      have := List.mem_of_getElem? h
      simp at this
theorem okD {x qual : Str} {st : Stmt} {f : Addr} {fd : FuncData} {N ps : List Str} {k : Nat} {sp : DSp} (Fn : Fun K x qual st f fd) (S' : FnScope N ps (defScope st))
    (hbody : ∀ (cdv : Value) (A : Around) (outer : List Env) (s : Shared) (H : Hp) (E : XK), Room k (A.deeper (envOfC qual (defScope st) s.heap.objs.size f cdv)) →
      ∃ t, PSs (cxOf CX0 P w K mg base N qual (defScope st) f cdv A outer s H E).nox (defBody st) (upS K t) ∧ ∀ ds Q', ds.length = ps.length → sp ds Q' → t { nx := fun _ => Q' (.fz .non), rt := Q' } (zp N.length ds)) : FnOk P w K mg base CX0 (k + 1) f fd ps (spD K ps.length sp) := by
  refine Fn.ok S' (fun vs H Q E h => ?_) (fun cdv A outer s H vs Q E hr h => ?_)
  · obtain ⟨F, ds, Q', _, _, _, r, l, _⟩ := h
    rw [r.length, l]
  · obtain ⟨F, ds, Q', e, tp, lo, r, l, hs, k'⟩ := h
    obtain ⟨t, ht, hq⟩ := hbody cdv A outer s H E hr
    refine ⟨_, ht, F, H, zp N.length ds, F, _, ⟨zik e tp lo r, hq ds Q' l hs, fun δ' σ' F' H' R _ q => ?_, fun _ _ _ _ _ _ q => q.elim, fun _ _ _ _ _ _ q => q.elim, fun F' H' v r G ok q => k' F' H' v r G ok q⟩⟩
    exact k' F' H' .non (.fz .non) R.grown .non q
end
section
variable {X : Cx} {K : PySem.W.Frag} {e a b c o : Expr} {es : List Expr} {ta tb tc te tk tv : DE} {tw : DV} {st : Stmt} {rest body : List Stmt} {t u : DS} {ts : DA} {tA : DT} {pos p apos cpos : Pos}
def dCall (n : Nat) (sp : DSp) (ts : DA) : DE := fun δ Q => ts δ fun δ1 ds => ds.length = n ∧ sp ds fun r => Q δ1 r.d
def zil (n : Nat) (sp : DSp) (ts : DA) : DOw := fun δ Q => ts δ fun δ1 ds => ds.length = n ∧ sp ds fun r => ∃ o, r = .own o ∧ Q δ1 o
theorem qh {n : Nat} {sp : DSp} {E : XK} (h : PE X e (tCall (spD K n sp) [] E (upA K ts))) : PE X e (upE K (dCall n sp ts)) := pimp (zgu h) fun σ H Q ⟨F0, H0, P, δ, F, Q', R, ht, k⟩ => by
  refine ⟨F0, H0, P, δ, F, _, R, ht, fun δ1 F1 H1 vs ds R1 e1 rs ⟨hn, ht⟩ => ?_⟩
  show spD K n sp (vs ++ []) H1 _ E
  rw [List.append_nil]
  refine ⟨F1, ds, _, R1.e3, R1.tp, R1.low.mono R1.e1, rs, hn, ht, fun F2 H2 v r G ok q => ?_⟩
  induction r with
  | nk _ => exact ok.elim
  | nt _ => exact ok.elim
  | wld _ => exact ok.elim
  | rw s W ih => exact ih ok.1 q
  | fz d => exact .inl (k δ1 F2 H2 v d (R1.grow G.e1 G.e2 G.e3 G.fr G.tp) (e1.trans G.e1) ok q)
  | own o =>
    obtain ⟨a, rfl, h1, h3, oa⟩ := ok
    obtain ⟨ho, hh, mu, rp⟩ := oa.rep h3
    obtain ⟨R2, hP⟩ := R1.growP G h1 hh h3
    exact .inr ⟨a, ho, hh, mu, fun od => k δ1 _ _ _ _ (R2.frzP hP _) ((e1.trans G.e1).trans (Ex.new h3)) (rp od) q⟩
theorem zp6 {n : Nat} {sp : DSp} {E : XK} (h : PE X e (tCall (spD K n sp) [] E (upA K ts))) : PE X e (upO K (zil n sp ts)) := pimp h fun σ H Q ⟨F0, H0, P, δ, F, Q', R, ht, k⟩ => by
  refine ⟨F0, H0, P, δ, F, _, R, ht, fun δ1 F1 H1 vs ds R1 e1 rs ⟨hn, ht⟩ => ?_⟩
  show spD K n sp (vs ++ []) H1 _ E
  rw [List.append_nil]
  refine ⟨F1, ds, _, R1.e3, R1.tp, R1.low.mono R1.e1, rs, hn, ht, fun F2 H2 v r G ok ⟨o, er, q⟩ => ?_⟩
  subst er
  obtain ⟨a, rfl, h1, h3, oa⟩ := ok
  obtain ⟨ho, hh, mu, rp⟩ := oa.rep h3
  obtain ⟨R2, hP⟩ := R1.growP G h1 hh h3
  exact k δ1 F2 H2 a ho o R2 hP (e1.trans G.e1) oa q
def zc5 (c : DT) (tb : DS) : DS := fun D δ => ∃ W : Nat → Dl → Prop, (∃ m, W m δ) ∧ ∀ m δ1, W m δ1 → c δ1 fun δ2 b => if b = true then tb { D with nx := fun δ' => ∃ m', m' < m ∧ W m' δ', ct := fun δ' => ∃ m', m' < m ∧ W m' δ', bk := D.nx } δ2 else D.nx δ2
theorem zki {tb : DS} (hp : PassesOwn (model X.prog X.w) X.A X.env X.xe) (hc : PT X c (upT K tA)) (hb : PSs X body (upS K tb)) : PS X (.While c body [] pos) (upS K (zc5 tA tb)) := vu (ps_while hp hc hb) fun D σ H ⟨F0, H0, δ, F, D', W⟩ => by
  obtain ⟨Wd, ⟨m0, w0⟩, turn⟩ := W.t
  refine ⟨fun m σ2 H2 => ∃ δ2 F2, RepS K F0 H0 [] δ2 σ2 F2 H2 ∧ Ex F F2 ∧ Wd m δ2, ⟨m0, δ, F, W.rep, Ex.refl F, w0⟩, ?_⟩
  rintro m σ2 H2 ⟨δ2, F2, R2, e2, w2⟩
  refine ⟨F0, H0, [], δ2, F2, _, R2, turn m δ2 w2, fun δ3 F3 H3 b R3 e3 ht => ?_⟩
  cases b with
  | true =>
    rw [if_pos rfl] at ht ⊢
    refine ⟨fun σ4 H4 => ∃ m', m' < m ∧ ∃ δ4 F4, RepS K F0 H0 [] δ4 σ4 F4 H4 ∧ Ex F F4 ∧ Wd m' δ4, fun σ4 H4 q => q, F0, H0, δ3, F3, _, ⟨R3, ht, fun δ5 σ5 F5 H5 R5 e5 ⟨m', hm, q⟩ => ⟨m', hm, δ5, F5, R5, (e2.trans e3).trans e5, q⟩, fun δ5 σ5 F5 H5 R5 e5 q => W.nx δ5 σ5 F5 H5 R5 ((e2.trans e3).trans e5) q, fun δ5 σ5 F5 H5 R5 e5 ⟨m', hm, q⟩ => ⟨m', hm, δ5, F5, R5, (e2.trans e3).trans e5, q⟩, W.rt⟩⟩
  | false =>
    rw [if_neg (by decide)] at ht ⊢
    exact W.nx δ3 σ2 F3 H3 R3 (e2.trans e3) ht
def gIL : D → (List D → Prop) → Prop
  | .lst ds, Q => Q ds
  | .scr ns, Q => Q (ns.map D.int)
  | _, _ => False
def dIL (te : DE) : DI := fun δ Q => te δ fun δ1 d => gIL d (Q δ1)
def dIT (te : DE) : DI := fun δ Q => te δ fun δ1 d => ∃ ds, d = .tup ds ∧ Q δ1 ds
theorem zs6 {K : PySem.W.Frag} {F : Hp} {a : Addr} {vs : List V} {ds : List D} (hs : SqL K F a vs) (rs : RepL K F vs ds) : WalkD K F (Itl K a) ds := by
  refine ⟨fun i H hi ex => ?_, fun H ex => ⟨vs, ex.sql hs, by rw [rs.length]; exact Nat.le_refl _⟩, fun i d F2 H x H' hd x1 x2 _ ⟨eH, hx⟩ => ?_⟩
  · obtain ⟨v, hv, _⟩ := rs.get (List.getElem?_eq_getElem hi)
    exact ⟨vs, v, ex.sql hs, hv⟩
  · subst eH
    obtain ⟨v, hv, rv⟩ := rs.get hd
    have := hx vs ((x1.trans x2).sql hs)
    rw [hv] at this; cases this
    exact .plain (rv.mono x1)
theorem za0 {tg : Expr} (hl : PE X e (upE K te)) (hK : X.K = K := by rfl) : PI X tg e (upI K (dIL te)) := by
  subst hK
  refine iimp (pi_list hl) fun σ H R ⟨F0, H0, P, δ, F, Q', Rp, ht, k⟩ => ?_
  refine ⟨F0, H0, P, δ, F, _, Rp, ht, fun δ1 F1 H1 v d R1 e1 r q => ?_⟩
  unfold gIL at q
  split at q
  · cases r with
    | @lst a od vs _ hs rs =>
      have hs : SqL X.K F1 a vs := .inl (.inr ⟨_, hs⟩)
      exact ⟨a, rfl, ⟨vs, R1.e3.sql hs⟩, k δ1 F1 H1 _ _ R1 e1 (zs6 hs rs) q⟩
  · cases r with
    | @scr a ns hs => exact ⟨a, rfl, ⟨_, R1.e3.sql hs⟩, k δ1 F1 H1 _ _ R1 e1 (zs6 hs (RepL.ints _)) q⟩
  · exact q.elim
theorem zlh {tg : Expr} (hl : PE X e (upE K te)) (hK : X.K = K := by rfl) : PI X tg e (upI K (dIT te)) := by
  subst hK
  refine iimp (pi_tup hl) fun σ H R ⟨F0, H0, P, δ, F, Q', Rp, ht, k⟩ => ?_
  refine ⟨F0, H0, P, δ, F, _, Rp, ht, fun δ1 F1 H1 v d R1 e1 r ⟨ds, ed, q⟩ => ?_⟩
  subst ed
  cases r with
  | @tup a vs _ hs rs =>
    have sq : ∀ {H}, Ex F1 H → SqT X.K H a vs := fun ex => .inl (.inl (ex _ _ hs))
    refine ⟨a, rfl, ⟨vs, sq R1.e3⟩, k δ1 F1 H1 _ ds R1 e1 ?_ q⟩
    refine ⟨fun i H hi ex => ?_, fun H ex => ⟨vs, sq ex, by rw [rs.length]; exact Nat.le_refl _⟩, fun i d F2 H x H' hd x1 x2 _ ⟨eH, hx⟩ => ?_⟩
    · obtain ⟨v, hv, _⟩ := rs.get (List.getElem?_eq_getElem hi)
      exact ⟨vs, v, sq ex, hv⟩
    · subst eH
      obtain ⟨v, hv, rv⟩ := rs.get hd
      have := hx vs (sq (x1.trans x2))
      rw [hv] at this; cases this
      exact .plain (rv.mono x1)
def rngD (lo hi : Int) : List D := (List.range (hi - lo).toNat).map fun (i : Nat) => D.int (lo + (i : Int))
theorem zp7 {F : Hp} {lo : Int} {n : Nat} : WalkD K F (Itr lo n) ((List.range n).map fun (i : Nat) => D.int (lo + (i : Int))) where
  go := fun i H hi _ => by show i < n; simpa using hi
  stop := fun H _ => by show n ≤ _; simp
  yld := fun i d F2 H x H' hd _ _ _ ⟨eH, ex⟩ => by
    subst eH ex
    simp only [List.getElem?_map] at hd
    by_cases h : i < n
    · rw [List.getElem?_range h] at hd
      simp at hd; subst hd
      exact .plain (.int _)
    · rw [List.getElem?_eq_none (by simpa using h)] at hd
      simp at hd
def dIR1 (ts : DA) : DI := fun δ Q => ts δ fun δ1 ds => ∃ n : Int, ds = [.int n] ∧ (-(2 ^ 62) ≤ n ∧ n < 2 ^ 62) ∧ Q δ1 (rngD 0 n)
def dIR2 (ts : DA) : DI := fun δ Q => ts δ fun δ1 ds => ∃ lo n : Int, ds = [.int lo, .int n] ∧ (-(2 ^ 62) ≤ lo ∧ lo < 2 ^ 62 ∧ -(2 ^ 62) ≤ n ∧ n < 2 ^ 62) ∧ Q δ1 (rngD lo n)
theorem zf3 {tg : Expr} (hg : Gl X "range") (hm : X.mg "range" = none) (ha : PA X [a] (upA K ts)) (hs : starEach [a] X.env = [(false, eval a X.env)] := by rfl) : PI X tg (.Call (.Name "range" p) [a] [] pos) (upI K (dIR1 ts)) := by
  refine iimp (pi_range1 hg hm ha hs) fun σ H R ⟨F0, H0, P, δ, F, Q', Rp, ht, k⟩ => ?_
  refine ⟨F0, H0, P, δ, F, _, Rp, ht, fun δ1 F1 H1 vs ds R1 e1 rs ⟨n, ed, hn, q⟩ => ?_⟩
  subst ed
  cases rs with
  | cons r t =>
    cases t
    cases r
    have e : rngD 0 n = (List.range n.toNat).map fun (i : Nat) => D.int (0 + (i : Int)) := by simp [rngD]
    exact ⟨n, rfl, hn.1, hn.2, k δ1 F1 H1 _ _ R1 e1 (by rw [e]; exact zp7) q⟩
theorem zy5 {tg : Expr} (hg : Gl X "range") (hm : X.mg "range" = none) (ha : PA X [a, b] (upA K ts)) (hs : starEach [a, b] X.env = [(false, eval a X.env), (false, eval b X.env)] := by rfl) (hs2 : starEach [b] X.env = [(false, eval b X.env)] := by rfl) : PI X tg (.Call (.Name "range" p) [a, b] [] pos) (upI K (dIR2 ts)) := by
  refine iimp (pi_range2 hg hm ha hs hs2) fun σ H R ⟨F0, H0, P, δ, F, Q', Rp, ht, k⟩ => ?_
  refine ⟨F0, H0, P, δ, F, _, Rp, ht, fun δ1 F1 H1 vs ds R1 e1 rs ⟨lo, n, ed, hn, q⟩ => ?_⟩
  subst ed
  cases rs with
  | cons r t =>
    cases t with
    | cons r2 t =>
      cases t
      cases r; cases r2
      exact ⟨lo, n, rfl, hn, k δ1 F1 H1 _ _ R1 e1 zp7 q⟩
def dIKs (te : DE) : DI := fun δ Q => te δ fun δ1 d => match d with
  | .dk kvs => Q δ1 (kvs.map fun kv => keyD kv.1)
  | .dt kvs => Q δ1 (kvs.map fun kv => D.tup (kv.1.map keyD))
  | _ => False
theorem zcw {tg : Expr} (hl : PE X e (upE K te)) : PI X tg e (upI K (dIKs te)) := by
  refine iimp (pi_keys hl) fun σ H R ⟨F0, H0, P, δ, F, Q', Rp, ht, k⟩ => ?_
  refine ⟨F0, H0, P, δ, F, _, Rp, ht, fun δ1 F1 H1 v d R1 e1 r q => ?_⟩
  cases r <;> try exact q.elim
  · rename_i a od ws kvs h rg
    · skip
      have rg := rg.g
      refine ⟨a, od, rfl, .inl ⟨ws, R1.e3 _ _ h, k δ1 F1 H1 _ _ R1 e1 ⟨fun i H hi ex => ⟨ex _ _ h, by rw [rg.length]; simpa using hi⟩, fun H ex => ⟨ex _ _ h, by rw [rg.length]; simp⟩, fun i d F2 H x H' hd _ _ _ ⟨eH, kk, vv, hk, ex⟩ => ?_⟩ q⟩⟩
      subst eH ex
      have hks := rg.keys
      have : (ws.map (·.1))[i]? = some kk := by rw [List.getElem?_map, hk]; rfl
      rw [hks, List.getElem?_map] at this
      rw [List.getElem?_map] at hd
      cases hz : kvs[i]? with
      | none => rw [hz] at hd; simp at hd
      | some z =>
        rw [hz] at hd this
        simp at hd this
        subst this hd
        exact .plain (zmq _)
  · rename_i a od ws kvs h rg
    · skip
      have rg := rg.g
      refine ⟨a, od, rfl, .inr ⟨ws, R1.e3 _ _ h, k δ1 F1 H1 _ _ R1 e1 ⟨fun i H hi ex => ⟨ex _ _ h, by rw [rg.length]; simpa using hi⟩, fun H ex => ⟨ex _ _ h, by rw [rg.length]; simp⟩, fun i d F2 H x H' hd _ _ tp ⟨eH, kk, vv, q, hk, ex, hq⟩ => ?_⟩ q⟩⟩
      subst eH ex
      have hks := rg.keys
      have : (ws.map (·.1))[i]? = some kk := by rw [List.getElem?_map, hk]; rfl
      rw [hks, List.getElem?_map] at this
      rw [List.getElem?_map] at hd
      cases hz : kvs[i]? with
      | none => rw [hz] at hd; simp at hd
      | some z =>
        rw [hz] at hd this
        simp at hd this
        subst this hd
        exact .plain (.tup (tp _ _ hq) (zbw _))
def dIIt (te : DE) : DI := fun δ Q => te δ fun δ1 d => ∃ kvs, d = .dk kvs ∧ Q δ1 (kvs.map fun kv => D.tup [keyD kv.1, kv.2])
theorem zbx {elts : List Expr} {kk : Nat} {tpos : Pos} (hl : PE X e (upE K te)) (hbase : attributeBase e "items" X.env (eval e X.env) = eval e X.env := by rfl) (hline : (apos.endLine == cpos.line) = true := by rfl) :
    PI X (.Tuple elts kk tpos) (.Call (.Attribute e "items" apos) [] [] cpos) (upI K (dIIt te)) := by
  refine iimp (pi_items hl hbase hline) fun σ H R ⟨F0, H0, P, δ, F, Q', Rp, ht, k⟩ => ?_
  refine ⟨F0, H0, P, δ, F, _, Rp, ht, fun δ1 F1 H1 v d R1 e1 r ⟨kvs, ed, q⟩ => ?_⟩
  subst ed
  cases r with
  | @dk a od ws _ h rg =>
    have rg := rg.g
    refine ⟨a, od, ws, rfl, R1.e3 _ _ h, k δ1 F1 H1 _ _ R1 e1 ⟨fun i H hi ex => ⟨ex _ _ h, by rw [rg.length]; simpa using hi⟩, fun H ex => ⟨ex _ _ h, by rw [rg.length]; simp⟩, fun i d F2 H x H' hd x1 _ _ ⟨T, kk, vv, hk, ex, hT, eH⟩ => ?_⟩ q⟩
    subst eH ex
    rw [List.getElem?_map] at hd
    cases hz : kvs[i]? with
    | none => rw [hz] at hd; simp at hd
    | some z =>
      obtain ⟨zk, zd⟩ := z
      rw [hz] at hd
      simp at hd
      subst hd
      obtain ⟨v, hv, rv⟩ := rg.get hz
      rw [hk] at hv; cases hv
      exact .pair hT (.cons (zmq _) (.cons (rv.mono x1) .nil))
def dIEn (ts : DA) : DI := fun δ Q => ts δ fun δ1 ds => ∃ xs, ds = [.lst xs] ∧ Q δ1 ((List.range xs.length).zip xs |>.map fun ix => D.tup [.int (ix.1 : Nat), ix.2])
theorem zmr {elts : List Expr} {kk : Nat} {tpos : Pos} (hg : Gl X "enumerate") (hm : X.mg "enumerate" = none) (ha : PA X [e] (upA K ts)) (hs : starEach [e] X.env = [(false, eval e X.env)] := by rfl) (hK : X.K = K := by rfl) :
    PI X (.Tuple elts kk tpos) (.Call (.Name "enumerate" p) [e] [] pos) (upI K (dIEn ts)) := by
  subst hK
  refine iimp (pi_enum hg hm ha hs) fun σ H R ⟨F0, H0, P, δ, F, Q', Rp, ht, k⟩ => ?_
  refine ⟨F0, H0, P, δ, F, _, Rp, ht, fun δ1 F1 H1 vs ds R1 e1 rs ⟨xs, ed, q⟩ => ?_⟩
  subst ed
  cases rs with
  | cons r t =>
    cases t
    cases r with
    | @lst a od vs _ hs rs =>
      have hs : SqL X.K F1 a vs := .inl (.inr ⟨_, hs⟩)
      refine ⟨a, vs, rfl, R1.e3.sql hs, k δ1 F1 H1 _ _ R1 e1 ⟨fun i H hi ex => ?_, fun H ex => ⟨vs, ex.sql hs, by rw [rs.length]; simp⟩, fun i d F2 H x H' hd x1 x2 _ ⟨T, y, ex, hT, eH, hx⟩ => ?_⟩ q⟩
      · have hi : i < xs.length := by simpa using hi
        obtain ⟨v, hv, _⟩ := rs.get (List.getElem?_eq_getElem hi)
        exact ⟨vs, v, ex.sql hs, hv⟩
      · subst eH ex
        have e := hx vs ((x1.trans x2).sql hs)
        obtain ⟨z, hz, rz⟩ := rs.getV e
        have hi : i < xs.length := (List.getElem?_eq_some_iff.mp hz).1
        have : ((List.range xs.length).zip xs)[i]? = some (i, z) := by
          rw [List.getElem?_zip_eq_some]
          exact ⟨List.getElem?_range hi, hz⟩
        rw [List.getElem?_map, this] at hd
        simp at hd
        subst hd
        exact .pair hT (.cons (.int _) (.cons (rz.mono x1) .nil))
def zjs (tw : DV) (tk : DE) : DE := fun δ Q => tw δ fun δ1 x => (∃ d, vwD δ1 x = some d ∧ ((∃ kvs, d = .dk kvs) ∨ ∃ kvs, d = .dt kvs)) ∧ tk δ1 fun δ2 kd => ∃ d r, vwD δ2 x = some d ∧ DLook d kd r ∧ Q δ2 (r.getD .non)
def zuc (tw : DV) (tk tx : DE) : DE := fun δ Q => tw δ fun δ1 x => (∃ d, vwD δ1 x = some d ∧ ((∃ kvs, d = .dk kvs) ∨ ∃ kvs, d = .dt kvs)) ∧ tk δ1 fun δ2 kd => tx δ2 fun δ3 xd => ∃ d r, vwD δ3 x = some d ∧ DLook d kd r ∧ Q δ3 (r.getD xd)
theorem View.isD {F H : Hp} {v : V} {d : D} (h : View K F H v d) (q : (∃ kvs, d = .dk kvs) ∨ ∃ kvs, d = .dt kvs) : ∃ a, v = .ref a ∧ IsD H a := by
  rcases q with ⟨kvs, rfl⟩ | ⟨kvs, rfl⟩
  · obtain ⟨a, ws, rfl, hd, _⟩ := h.dk'
    exact ⟨a, rfl, .inl ⟨ws, hd⟩⟩
  · obtain ⟨a, ws, rfl, hd, _⟩ := h.dt'
    exact ⟨a, rfl, .inr ⟨ws, hd⟩⟩
theorem zjt (hu : X.A.units + 1 < cLine) (ho : PE X o (upV K tw)) (he : PE X e (upE K tk)) (m : M1 X o "get" apos e cpos := by exact ⟨rfl, rfl, rfl, rfl⟩) : PE X (.Call (.Attribute o "get" apos) [e] [] cpos) (upE K (zjs tw tk)) := by
  refine pimp (pe_dget1 hu ho he m) fun σ H Q ⟨F0, H0, P, δ, F, Q', R, ht, k⟩ => ?_
  refine ⟨F0, H0, P, δ, F, _, R, ht, fun δ1 F1 H1 v x R1 e1 ok ⟨⟨d, hd, q⟩, ht⟩ => ?_⟩
  obtain ⟨a, rfl, isd⟩ := (R1.view ok (Ex.refl F1) hd).isD q
  refine ⟨a, rfl, isd, F0, H0, P, δ1, F1, _, R1, ht, fun δ2 F2 H2 y yd R2 e2 ry ⟨d, r, hd, lk, q⟩ => ?_⟩
  obtain ⟨b, o', eb, dg, q1, q2⟩ := (R2.view ok e2 hd).dget ry R2.e3 lk
  cases eb
  refine ⟨o', dg, ?_⟩
  cases r with
  | none => rw [q2 rfl]; exact k δ2 F2 H2 _ _ R2 (e1.trans e2) .non q
  | some z => obtain ⟨u, rfl, ru⟩ := q1 z rfl; exact k δ2 F2 H2 _ _ R2 (e1.trans e2) ru q
theorem zy6 {f : Expr} {tx : DE} (hu : X.A.units + 1 < cLine) (ho : PE X o (upV K tw)) (he : PE X e (upE K tk)) (hf : PE X f (upE K tx)) (m : M2 X o "get" apos e f cpos := by exact ⟨rfl, rfl, rfl, rfl⟩) : PE X (.Call (.Attribute o "get" apos) [e, f] [] cpos) (upE K (zuc tw tk tx)) := by
  refine pimp (pe_dget2 hu ho he hf m) fun σ H Q ⟨F0, H0, P, δ, F, Q', R, ht, k⟩ => ?_
  refine ⟨F0, H0, P, δ, F, _, R, ht, fun δ1 F1 H1 v x R1 e1 ok ⟨⟨d, hd, q⟩, ht⟩ => ?_⟩
  obtain ⟨a, rfl, isd⟩ := (R1.view ok (Ex.refl F1) hd).isD q
  refine ⟨a, rfl, isd, F0, H0, P, δ1, F1, _, R1, ht, fun δ2 F2 H2 y yd R2 e2 ry ht => ?_⟩
  refine ⟨F0, H0, P, δ2, F2, _, R2, ht, fun δ3 F3 H3 z zd R3 e3 rz ⟨d, r, hd, lk, q⟩ => ?_⟩
  obtain ⟨b, o', eb, dg, q1, q2⟩ := (R3.view ok (e2.trans e3) hd).dget (ry.mono e3) R3.e3 lk
  cases eb
  refine ⟨o', dg, ?_⟩
  cases r with
  | none => rw [q2 rfl]; exact k δ3 F3 H3 _ _ R3 ((e1.trans e2).trans e3) rz q
  | some x => obtain ⟨u, rfl, ru⟩ := q1 x rfl; exact k δ3 F3 H3 _ _ R3 ((e1.trans e2).trans e3) ru q
def zf4 (i : Nat) (tk : DE) : DE := fun δ Q => match δ[i]? with
  | some (some (.own (.lst _))) => tk δ fun δ1 kd => match δ1[i]? with
    | some (some (.own (.lst ds))) => ∃ (z : Int) (k : Nat) (d : D), kd = .int z ∧ -(2 ^ 63) ≤ z ∧ z < 2 ^ 63 ∧ seqIndex? z ds.length = some k ∧ ds[k]? = some d ∧ Q (δ1.set i (some (.own (.lst (ds.eraseIdx k))))) d
    | _ => False
  | _ => False
theorem zw6 {i : Nat} (h : PE X (.Call (.Attribute o "pop" apos) [e] [] pos) (tBM X.K "list" rPopAt (tVar i) (tCons (upE K tk) tNil))) : PE X (.Call (.Attribute o "pop" apos) [e] [] pos) (upE K (zf4 i tk)) := pimp h fun σ H Q ⟨F0, H0, P, δ, F, Q', R, ht, k⟩ => by
  unfold zf4 at ht
  split at ht
  · rename_i ds0 e1
    obtain ⟨a, ea, ⟨vs, hv, rs⟩, n1, n2⟩ := R.ownd e1
    refine ⟨_, ea, .inl ⟨rfl, vs, .inl (.inl hv)⟩, F0, H0, P, δ, F, _, R, ht, fun δ1 F1 H1 x dx R1 ex1 rx ht => ?_⟩
    split at ht
    · rename_i ds e2
      obtain ⟨z, kk, d, ez, z1, z2, hk, hd, q⟩ := ht
      subst ez
      cases rx
      obtain ⟨b, eb, ⟨ws, hw, rw⟩, n3, n4⟩ := R1.ownd e2
      rw [ea] at eb; cases eb
      obtain ⟨v, hv2, rv⟩ := rw.get hd
      refine ⟨a, ws, z, kk, v, rfl, rfl, hw, z1, z2, by rw [rw.length]; exact hk, hv2, ?_⟩
      exact k _ F1 _ v d (R1.write e2 ea (o' := .lst (ds.eraseIdx kk)) (show OwnAt K F1 _ a (.lst _) from ⟨_, upd_same, rw.eraseIdx kk⟩)) ex1 rv q
    · exact ht.elim
  · exact ht.elim
def gSet (i : Nat) (tk : DE) : DG := fun d δ Q => (∃ o, δ[i]? = some (some (.own o))) ∧ tk δ fun δ1 kd => match δ1[i]? with
  | some (some (.own (.lst ds))) => ∃ (z : Int) (k : Nat), kd = .int z ∧ ixN ds.length z = some k ∧ Q (δ1.set i (some (.own (.lst (ds.set k d)))))
  | some (some (.own (.dk kvs))) => ∃ k, dkey kd = some k ∧ kvs.length < sizeLine ∧ Q (δ1.set i (some (.own (.dk (putG kvs k d)))))
  | some (some (.own (.dt kvs))) => ∃ k, tkey kd = some k ∧ kvs.length < sizeLine ∧ Q (δ1.set i (some (.own (.dt (putG kvs k d)))))
  | _ => False
def rSetD : V → V → V → Hp → (Hp → Prop) → Prop := fun o i v H Q => ∃ a H', o = .ref a ∧ DPut H a i v H' ∧ Q H'
theorem set_dict (hu : X.A.units + 1 < cLine) : PSet X rSetD := by
  intro pins s σ H o i v ov iv u Q I ro ri rv ⟨a, H', e, g, q⟩
  subst e
  cases ro
  exact d_setItem hu I g ri rv fun s4 I4 => ⟨H', I4, q⟩
theorem PSet.or' {r r' : TSet} (h : PSet X r) (h' : PSet X r') : PSet X (fun o i v H Q => r o i v H Q ∨ r' o i v H Q) := by
  intro pins s σ H o i v ov iv u Q I ro ri rv q
  rcases q with q | q
  · exact h pins s σ H o i v ov iv u Q I ro ri rv q
  · exact h' pins s σ H o i v ov iv u Q I ro ri rv q
theorem uw {i : Nat} (hu : X.A.units + 1 < cLine) (ho : PE X o (tVar i)) (hi : PE X e (upE K tk)) (ha : ∀ v, assign (.Subscript o e pos) X.env v = (do
      let ov ← holding [v] (eval o X.env)
      let iv ← holding [v, ov] (eval e X.env)
      standAt pos
      holding [v, ov, iv] (setItem ov iv v)
      release [v, ov, iv] []) := by intro _; rfl) : PG X (.Subscript o e pos) (upG K (gSet i tk)) := by
  refine gimp (pg_sub ho hi (PSet.or' set_list (set_dict hu)) ha) fun v σ H Q ⟨F0, H0, P, δ, F, d, Q', R, r, ⟨⟨o0, eo⟩, g⟩, k⟩ => ?_
  obtain ⟨a, ea, _⟩ := R.ownd eo
  refine ⟨_, ea, F0, H0, P, δ, F, _, R, g, fun δ1 F1 H1 y yd R1 e1 ry g => ?_⟩
  split at g
  · rename_i ds e2
    obtain ⟨z, kk, ez, hk, q⟩ := g
    subst ez
    cases ry
    obtain ⟨b, eb, ⟨ws, hw, rw⟩, _⟩ := R1.ownd e2
    rw [ea] at eb; cases eb
    exact .inl ⟨a, ws, z, kk, rfl, rfl, hw, by rw [rw.length]; exact hk, k _ _ F1 _ (R1.write e2 ea (o' := .lst (ds.set kk d)) (show OwnAt K F1 _ a (.lst _) from ⟨_, upd_same, rw.set (r.mono e1) kk⟩)) e1 q⟩
  · rename_i kvs e2
    obtain ⟨kk, hk, hl, q⟩ := g
    obtain ⟨b, eb, ⟨ws, hw, rw⟩, _⟩ := R1.ownd e2
    rw [ea] at eb; cases eb
    exact .inr ⟨a, _, rfl, .inl ⟨ws, kk, hw, zax ry hk, by rw [rw.g.length]; exact hl, rfl⟩, k _ _ F1 _ (R1.write e2 ea (o' := .dk (putG kvs kk d)) (show OwnAt K F1 _ a (.dk _) from ⟨_, upd_same, (rw.g.put kk (r.mono e1)).k⟩)) e1 q⟩
  · rename_i kvs e2
    obtain ⟨kk, hk, hl, q⟩ := g
    obtain ⟨b, eb, ⟨ws, hw, rw⟩, _⟩ := R1.ownd e2
    rw [ea] at eb; cases eb
    obtain ⟨c, rfl, hc⟩ := zkh ry hk
    exact .inr ⟨a, _, rfl, .inr ⟨ws, kk, c, hw, rfl, R1.e3 _ _ hc, by rw [rw.g.length]; exact hl, rfl⟩, k _ _ F1 _ (R1.write e2 ea (o' := .dt (putG kvs kk d)) (show OwnAt K F1 _ a (.dt _) from ⟨_, upd_same, (rw.g.put kk (r.mono e1)).t⟩)) e1 q⟩
  · exact g.elim
end
end Mv
namespace Mv
open PySem PySem.Spec PyProof.Rows L2
def zu (δ : Dl) : List Nat → Dl
  | [] => δ
  | v :: vs => (zu δ vs).set v none
def zud : Option (Option S) → Option S
  | some (some (.fz d)) => some (.fz d)
  | _ => none
def za1 (z : Option S) : Option S := zud (some z)
def za2 (δ0 : Dl) (δ : Dl) : List Nat → Dl
  | [] => δ
  | v :: vs => (za2 δ0 δ vs).set v (zud δ0[v]?)
section
variable {K : PySem.W.Frag} {F0 H0 F H F' H' : Hp} {P : Pl} {δ δ0 : Dl} {σ : L2.St}
theorem RepS.wipe (R : RepS K F0 H0 P δ σ F H) : ∀ vs : List Nat, RepS K F0 H0 P (zu δ vs) (wipe σ vs) F H
  | [] => R
  | v :: vs => (RepS.wipe R vs).unset v none
theorem zli : ∀ {vs : List Nat} {i : Nat} {s : S}, (zu δ vs)[i]? = some (some s) → i ∉ vs ∧ δ[i]? = some (some s)
  | [], i, s, h => ⟨by simp, h⟩
  | v :: vs, i, s, h => by
    unfold zu at h
    by_cases e : v = i
    · subst e
      by_cases hl : v < (zu δ vs).length
      · rw [List.getElem?_set_self hl] at h; cases h
      · rw [List.getElem?_eq_none (by simpa using hl)] at h; cases h
    · rw [List.getElem?_set_ne e] at h
      obtain ⟨h1, h2⟩ := zli h
      exact ⟨by simp [h1, Ne.symm e], h2⟩
theorem zkj : ∀ {vs : List Nat} {i : Nat}, i ∉ vs → (L2.wipe σ vs)[i]? = σ[i]?
  | [], _, _ => rfl
  | v :: vs, i, h => by
    unfold L2.wipe
    rw [List.getElem?_set_ne (by intro z; subst z; simp at h)]
    exact zkj (by intro z; exact h (by simp [z]))
theorem RepS.unwipe {vs : List Nat} (R : RepS K F0 H0 P (zu δ vs) (L2.wipe σ vs) F H) : RepS K F0 H0 P (zu δ vs) σ F H := by
  obtain ⟨w, h1, hw⟩ := R.own
  refine ⟨R.e1, R.e2, R.e3, R.fr, R.tp, by rw [R.len, L2.wipe_length], ⟨w, h1, fun i s e => ?_⟩, R.low, R.rsv⟩
  obtain ⟨v, ev, q⟩ := hw i s e
  rw [zkj (zli e).1] at ev
  exact ⟨v, ev, q⟩
theorem RepS.rest2 {P0 : Pl} {F1 H1 : Hp} (R0 : RepS K F0 H0 P0 δ0 σ F1 H1) (ex : Ex F1 F) : ∀ {vs : List Nat} {δ : Dl}, RepS K F0 H0 P δ σ F H → RepS K F0 H0 P (za2 δ0 δ vs) σ F H
  | [], δ, R => R
  | v :: vs, δ, R => by
    have ih := RepS.rest2 R0 ex (vs := vs) R
    unfold za2 zud
    split
    · rename_i d e
      obtain ⟨u, eu, r⟩ := R0.fz e
      have := ih.setF v (r.mono ex)
      have es : σ.set v (some u) = σ := by
        apply List.ext_getElem?
        intro i
        by_cases hi : v = i
        · subst hi
          have := (List.getElem?_eq_some_iff.mp eu).1
          rw [List.getElem?_set_self this, eu]
        · rw [List.getElem?_set_ne hi]
      rw [es] at this
      exact this
    · have hl : (za2 δ0 δ vs).length = (za2 δ0 δ vs).length := rfl
      refine ih.weak (by simp) fun i s e => ?_
      by_cases hi : v = i
      · subst hi
        by_cases hl : v < (za2 δ0 δ vs).length
        · rw [List.getElem?_set_self hl] at e; cases e
        · rw [List.getElem?_eq_none (by simpa using hl)] at e; cases e
      · rw [List.getElem?_set_ne hi] at e; exact e
end
section
variable {X : Cx} {K : PySem.W.Frag} {e a b c o : Expr} {es : List Expr} {ta tb tc te tk tv : DE} {tw : DV} {st : Stmt} {rest body : List Stmt} {t u : DS} {ts : DA} {tA tB : DT} {pos p apos cpos : Pos}
def dYes : DT := fun δ Q => Q δ true
theorem x7 : PTs X [] (upT K dYes) := ⟨fun pins s σ H Q I h => pts_nil.run pins s σ H Q I (by
  obtain ⟨F0, H0, P, δ, F, Q', R, ht, k⟩ := h
  exact k δ F H true R (Ex.refl F) ht)⟩
theorem ze8 (h : PT X c (upT K tA)) : PTs X [c] (upT K tA) := pts_one h
def dLc (wi : DI) (g : DG) (tt : DT) (te : DE) (vs : List Nat) : DOw := fun δ Q => wi δ fun δ1 ds => ds.length ≤ sizeLine ∧ ∃ I : Nat → Dl → List D → Prop, I 0 (zu δ1 vs) [] ∧
  (∀ i d δ2 acc, ds[i]? = some d → I i δ2 acc → g d δ2 fun δ3 => tt δ3 fun δ4 b => if b = true then te δ4 fun δ5 y => I (i + 1) (zu δ5 vs) (acc ++ [y]) else I (i + 1) (zu δ4 vs) acc) ∧
  ∀ δ2 acc, I ds.length δ2 acc → Q (za2 δ1 (zu δ2 vs) vs) (.lst acc)
def CT (K : PySem.W.Frag) (vs : List Nat) (g0 : TG) (g : DG) : Prop := ∀ (F0 H0 : Hp) (P : Pl) (δ : Dl) (σ : L2.St) (F H : Hp) (x : V) (d : D) (Q' : Dl → Prop) (Q : L2.St → Hp → Prop),
  RepS K F0 H0 P δ σ F H → Rep K F x d → g d δ Q' → (∀ δ' σ', RepS K F0 H0 P δ' σ' F H → L2.wipe σ' vs = L2.wipe σ vs → Q' δ' → Q σ' H) → g0 x σ H Q
def CTs (K : PySem.W.Frag) (vs : List Nat) (g0 : TGs) (g : DGs) : Prop := ∀ (F0 H0 : Hp) (P : Pl) (δ : Dl) (σ : L2.St) (F H : Hp) (x : List V) (d : List D) (Q' : Dl → Prop) (Q : L2.St → Hp → Prop),
  RepS K F0 H0 P δ σ F H → RepL K F x d → g d δ Q' → (∀ δ' σ', RepS K F0 H0 P δ' σ' F H → L2.wipe σ' vs = L2.wipe σ vs → Q' δ' → Q σ' H) → g0 x σ H Q
theorem zak {σ : L2.St} {j : Nat} : ∀ {vs : List Nat}, (L2.wipe σ vs)[j]? = if j ∈ vs ∧ j < σ.length then some none else σ[j]?
  | [] => by simp [L2.wipe]
  | v :: vs => by
    unfold L2.wipe
    by_cases e : v = j
    · subst e
      rw [List.getElem?_set]
      by_cases hl : v < σ.length
      · simp [L2.wipe_length, hl]
      · simp [L2.wipe_length, hl]
    · rw [List.getElem?_set_ne e, zak (vs := vs)]
      simp [Ne.symm e]
theorem zw7 {σ : L2.St} {x : Option V} {vs : List Nat} {i : Nat} (h : i ∈ vs) : L2.wipe (σ.set i x) vs = L2.wipe σ vs := by
  apply List.ext_getElem?
  intro j
  rw [zak, zak]
  simp only [List.length_set]
  by_cases e : i = j
  · subst e
    by_cases hl : i < σ.length
    · simp [h, hl]
    · simp [hl]
  · rw [List.getElem?_set_ne e]
theorem zb8 {σ : L2.St} {vs : List Nat} : L2.wipe (L2.wipe σ vs) vs = L2.wipe σ vs := by
  apply List.ext_getElem?
  intro j
  rw [zak, zak, L2.wipe_length]
  split <;> rfl
theorem qk {vs : List Nat} {i : Nat} (h : i ∈ vs := by decide) : CT K vs (gName i) (gN i) := fun F0 H0 P δ σ F H x d Q' Q R r g k => k _ _ (R.setF i r) (zw7 h) g
theorem zb9 {vs : List Nat} : CTs K vs gNil jm := fun F0 H0 P δ σ F H x d Q' Q R r ⟨e, g⟩ k => by
  subst e
  cases r
  exact ⟨rfl, k δ σ R rfl g⟩
theorem jj {vs : List Nat} {g0 : TG} {g : DG} {gs0 : TGs} {gs : DGs} (h1 : CT K vs g0 g) (h2 : CTs K vs gs0 gs) : CTs K vs (gCons g0 gs0) (zw g gs) := fun F0 H0 P δ σ F H x d Q' Q R r ⟨d1, dr, e, g⟩ k => by
  subst e
  cases r with
  | cons r rr => exact ⟨_, _, rfl, h1 F0 H0 P δ σ F H _ d1 _ _ R r g fun δ1 σ1 R1 w1 g1 => h2 F0 H0 P δ1 σ1 F H _ dr _ _ R1 rr g1 fun δ2 σ2 R2 w2 q => k δ2 σ2 R2 (w2.trans w1) q⟩
theorem zc6 {vs : List Nat} {gs0 : TGs} {gs : DGs} {n : Nat} (h : CTs K vs gs0 gs) : CT K vs (gTup K n gs0) (gTp n gs) := fun F0 H0 P δ σ F H x d Q' Q R r ⟨ds, e, hl, g⟩ k => by
  subst e
  cases r with
  | tup h1 rs => exact ⟨_, _, rfl, .inl (.inl (R.e3 _ _ h1)), by rw [rs.length]; exact hl, h F0 H0 P δ σ F H _ ds _ _ R rs g k⟩
theorem zyl {wi : DI} {g0 : TG} {g : DG} {tt : DT} {vs : List Nat} {σ : L2.St} {H : Hp} {Q : VK} (gk : CT K vs g0 g) (h : upO K (dLc wi g tt te vs) σ H Q) :
    tLc (upI K wi) g0 (upT K tt) (upE K te) vs σ H Q := by
  obtain ⟨F0, H0, P, δ, F, Q', R, ht, k⟩ := h
  refine ⟨F0, H0, P, δ, F, _, R, ht, fun δ1 F1 H1 J ds R1 e1 wk ⟨hsz, I, i0, is, id⟩ D hD => ?_⟩
  have hDP := R1.fresh hD
  have RD : RepS K F0 H0 ((D, .lst []) :: P) (zu δ1 vs) (L2.wipe σ vs) F1 (upd H1 D (.lst [])) := (R1.newP hD).wipe vs
  refine ⟨fun i m H2 => m = ds.length - i ∧ i ≤ ds.length ∧ ∃ δ2 F2 acc ws, RepS K F0 H0 ((D, .lst ws) :: P) δ2 (L2.wipe σ vs) F2 H2 ∧ Ex F1 F2 ∧ RepL K F2 ws acc ∧ acc.length ≤ i ∧ I i δ2 acc, ⟨_, rfl, Nat.zero_le _, _, F1, [], [], RD, Ex.refl F1, .nil, Nat.le_refl _, i0⟩, ?_⟩
  rintro i m H2 ⟨rfl, hi, δ2, F2, acc, ws, R2, e2, ra, hacc, q2⟩
  by_cases hlt : i < ds.length
  · have hd : ds[i]? = some ds[i] := List.getElem?_eq_getElem hlt
    refine .inr ⟨wk.go i H2 hlt (e2.trans R2.e3), fun H3 => ∃ δ3 F3 acc ws, RepS K F0 H0 ((D, .lst ws) :: P) δ3 (L2.wipe σ vs) F3 H3 ∧ Ex F1 F3 ∧ RepL K F3 ws acc ∧ acc.length ≤ i + 1 ∧ I (i + 1) δ3 acc,
      fun H3 ⟨δ3, F3, acc, ws, a1, a2, a4, a5, a6⟩ => ⟨_, by omega, rfl, hlt, δ3, F3, acc, ws, a1, a2, a4, a5, a6⟩, fun x H3 y => ?_⟩
    have y' := wk.yld i _ F2 H2 x H3 hd e2 R2.e3 R2.tp y
    obtain ⟨F3, R3, e3, rx⟩ := y'.rep R2
    refine gk F0 H0 _ _ _ F3 H3 x _ _ _ R3 rx (is i _ _ acc hd q2) fun δ4 σ4 R4 w4 q4 => ⟨w4.trans zb8, ?_⟩
    have w5 : L2.wipe σ4 vs = L2.wipe σ vs := w4.trans zb8
    refine ⟨F0, H0, _, δ4, F3, _, R4, q4, fun δ5 F5 H5 b R5 e5 q5 => ?_⟩
    cases b with
    | true =>
      rw [if_pos rfl] at q5 ⊢
      refine ⟨F0, H0, _, δ5, F5, _, R5, q5, fun δ6 F6 H6 z zd R6 e6 rz q6 => ⟨ws, (R6.rsv D _ (by simp)).2.2, ?_, ?_⟩⟩
      · rw [ra.length]; exact Nat.lt_of_le_of_lt hacc (Nat.lt_of_lt_of_le hlt hsz)
      · have e36 : Ex F2 F6 := (e3.trans e5).trans e6
        exact ⟨_, F6, _, _, w5 ▸ ((R6.wrP hDP _).wipe vs), e2.trans e36, (ra.mono e36).app (.cons rz .nil), by simp; exact hacc, q6⟩
    | false =>
      rw [if_neg (by decide)] at q5 ⊢
      have e36 : Ex F2 F5 := e3.trans e5
      exact ⟨_, F5, _, _, w5 ▸ (R5.wipe vs), e2.trans e36, ra.mono e36, Nat.le_succ_of_le hacc, q5⟩
  · have e : i = ds.length := by omega
    subst e
    refine .inl ⟨wk.stop H2 (e2.trans R2.e3), ?_⟩
    have R3 : RepS K F0 H0 ((D, .lst ws) :: P) (zu δ2 vs) σ F2 H2 := by
      refine RepS.unwipe (vs := vs) ?_
      have := R2.wipe vs
      rwa [zb8] at this
    have R4 : RepS K F0 H0 ((D, .lst ws) :: P) (za2 δ1 (zu δ2 vs) vs) σ F2 H2 := RepS.rest2 R1 e2 R3
    exact k _ F2 H2 D _ _ R4 hDP (e1.trans e2) (show OwnAt K F2 H2 D (.lst acc) from ⟨ws, (R2.rsv D _ (by simp)).2.2, ra⟩) (id _ acc q2)
end
end Mv
namespace Mv
open PySem PySem.Spec PyProof.Rows L2
def keyP : Key → PyData
  | .inl i => .int i
  | .inr s => .str s
mutual
def toP : D → Option PyData
  | .non => some .none
  | .bl b => some (.bool b)
  | .int i => some (.int i)
  | .str s => some (.str s)
  | .tup xs => (toPs xs).map .tuple
  | .lst xs => (toPs xs).map .list
  | .dk kvs => (toPk kvs).map .dict
  | .dt kvs => (toPt kvs).map .dict
  | _ => none
def toPs : List D → Option (List PyData)
  | [] => some []
  | d :: ds => (toP d).bind fun p => (toPs ds).map (p :: ·)
def toPk : List (Key × D) → Option (List (PyData × PyData))
  | [] => some []
  | (k, d) :: ds => (toP d).bind fun p => (toPk ds).map ((keyP k, p) :: ·)
def toPt : List (List Key × D) → Option (List (PyData × PyData))
  | [] => some []
  | (k, d) :: ds => (toP d).bind fun p => (toPt ds).map ((.tuple (k.map keyP), p) :: ·)
end
theorem zim {h : Heap} {P : Program} {w : World} {H : Hp} (ok : HOk P w H h) {a : Addr} {vs : List V} (e : H a = some (.tup vs)) : ∃ (its : List Value) (o : Obj) (n : Nat), Vals vs its ∧ h.get? a = some o ∧ o.cls = .type "tuple" ∧ o.data = .seq its.toArray n := by
  obtain ⟨_, its, r, o, h1, h2, n, h3⟩ := ok a _ e
  exact ⟨its, o, n, r, h1, h2, h3⟩
theorem zgw {h : Heap} : ∀ {ks : List Key} {us : List Value}, Vals (ks.map kV) us → ReadsAll h us (ks.map keyP) []
  | [], _, .nil => .nil
  | .inl i :: ks, _, .cons r t => by
    obtain ⟨tk, rfl⟩ := r
    exact .cons (as := []) (bs := []) (.int i tk) (zgw t)
  | .inr z :: ks, _, .cons r t => by
    obtain ⟨tk, rfl⟩ := r
    exact .cons (as := []) (bs := []) (.str z tk) (zgw t)
theorem zsm {h : Heap} {k : Key} {v : Value} (e : keyIs k v = true) : Reads h v (keyP k) [] := by
  rcases keyIs_shape e with ⟨i, t, rfl, rfl⟩ | ⟨x, t, rfl, rfl⟩
  · exact .int i t
  · exact .str x t
section
variable {K : PySem.W.Frag} {F H : Hp} {h : Heap} {P : Program} {w : World}
def Rds (h : Heap) (u : Value) (p : PyData) : Prop := ∃ as, Reads h u p as ∧ sysModules ∉ as
def RdsAll (h : Heap) (u : List Value) (p : List PyData) : Prop := ∃ as, ReadsAll h u p as ∧ sysModules ∉ as
theorem RdsAll.cons {u : Value} {us : List Value} {p : PyData} {ps : List PyData} (a : Rds h u p) (b : RdsAll h us ps) : RdsAll h (u :: us) (p :: ps) := by
  obtain ⟨as, r, n⟩ := a
  obtain ⟨bs, r2, n2⟩ := b
  exact ⟨_, .cons r r2, by simp [n, n2]⟩
theorem zs7 {a : Addr} {o : HO} {vs : List V} (ok : HOk P w H h) (e : Rd H a (.lst vs)) (na : a ≠ sysModules) {ps : List PyData} (q : ∀ us, Vals vs us → RdsAll h us ps) : Rds h (.ref a) (.list ps) := by
  obtain ⟨_, its, n, r, ho⟩ := e.ok ok
  obtain ⟨as, ra, nn⟩ := q _ r
  exact ⟨_, .list ho rfl rfl (by simpa using ra), by simp [nn, Ne.symm na]⟩
theorem zy7 {a : Addr} {vs : List V} (ok : HOk P w H h) (e : H a = some (.tup vs)) {ps : List PyData} (q : ∀ us, Vals vs us → RdsAll h us ps) : Rds h (.ref a) (.tuple ps) := by
  obtain ⟨its, o, n, r, h1, h2, h3⟩ := zim ok e
  obtain ⟨as, ra, nn⟩ := q _ r
  exact ⟨_, .tuple h1 h2 h3 (by simpa using ra), nn⟩
theorem znh {P : Program} {w : World} : ∀ {es : List DictEntry} {vs : List (Key × Value)}, Pairs (mixKind P w) es vs → ReadsAll h (es.map (·.key)) ((vs.map (·.1)).map keyP) [] ∧ es.map (·.val) = vs.map (·.2)
  | _, _, .nil => ⟨.nil, rfl⟩
  | _, _, .cons h1 h2 t => by
    obtain ⟨a, b⟩ := znh t
    exact ⟨.cons (as := []) (bs := []) (zsm h1) a, by simp [h2, b]⟩
theorem paired_keys {κ : Type} : ∀ {ws : List (κ × V)} {vs : List (κ × Value)}, KV ws vs → ws.map (·.1) = vs.map (·.1) ∧ Vals (ws.map (·.2)) (vs.map (·.2))
  | _, _, .nil => ⟨rfl, .nil⟩
  | _, _, .cons ⟨e, r⟩ t => by
    obtain ⟨a, b⟩ := paired_keys t
    exact ⟨by simp [e, a], .cons r b⟩
theorem zvh {a : Addr} {ws : List (Key × V)} (ok : HOk P w H h) (e : Rd H a (.dK ws)) {ps : List PyData} (q : ∀ us, Vals (ws.map (·.2)) us → RdsAll h us ps) : Rds h (.ref a) (.dict (((ws.map (·.1)).map keyP).zip ps)) := by
  obtain ⟨_, na, vs, kv, o, es, ep, ho, hx, hd, _, hp, _⟩ := e.ok ok
  obtain ⟨k1, k2⟩ := paired_keys kv
  obtain ⟨r1, r2⟩ := znh (h := h) hp
  obtain ⟨bs, rb, nb⟩ := q _ k2
  have hl : ps.length = ws.length := by
    have e1 : ∀ {us : List Value} {ps : List PyData} {as : List Addr}, ReadsAll h us ps as → us.length = ps.length := by
      intro us ps as r
      induction us generalizing ps as with
      | nil => cases r; rfl
      | cons u us ih => cases r with | cons a b => simp [ih b]
    have := e1 rb
    have e2 := congrArg List.length k1
    simp at this e2
    omega
  refine ⟨_, .dict (as := []) (bs := bs) ho hx.1 hd ?_ ?_, ?_⟩
  · rw [List.map_fst_zip (by simp [hl]), k1]; exact r1
  · rw [List.map_snd_zip (by simp [hl]), r2]; exact rb
  · have : a ≠ sysModules := by simpa using na
    simp [nb, Ne.symm this]
theorem zs8 (ok : HOk P w H h) : ∀ {ws : List (List Key × V)} {xs : List (List Key × Addr × Value)}, Paired (fun (p : List Key × V) (q : List Key × Addr × Value) => p.1 = q.1 ∧ H q.2.1 = some (.tup (p.1.map kV)) ∧ RelV p.2 q.2.2) ws xs →
    ReadsAll h ((xs.map (entryOfKey (tupleKind (mixKind P w)))).map (·.key)) ((ws.map (·.1)).map fun k => .tuple (k.map keyP)) [] ∧ Vals (ws.map (·.2)) ((xs.map (entryOfKey (tupleKind (mixKind P w)))).map (·.val))
  | _, _, .nil => ⟨.nil, .nil⟩
  | _, _, .cons ⟨e, ht, r⟩ t => by
    obtain ⟨a, b⟩ := zs8 ok t
    obtain ⟨its, o, n, rv, h1, h2, h3⟩ := zim ok ht
    exact ⟨.cons (as := []) (bs := []) (.tuple h1 h2 h3 (by simpa using zgw rv)) a, .cons r b⟩
theorem zvi {a : Addr} {ws : List (List Key × V)} (ok : HOk P w H h) (e : Rd H a (.dT ws)) {ps : List PyData} (q : ∀ us, Vals (ws.map (·.2)) us → RdsAll h us ps) : Rds h (.ref a) (.dict (((ws.map (·.1)).map fun k => .tuple (k.map keyP)).zip ps)) := by
  obtain ⟨_, na, xs, kt, o, es, ep, ho, hx, hd, he, _⟩ := e.ok ok
  obtain ⟨r1, k2⟩ := zs8 ok kt
  obtain ⟨bs, rb, nb⟩ := q _ k2
  have hl : ps.length = ws.length := by
    have e1 : ∀ {us : List Value} {ps : List PyData} {as : List Addr}, ReadsAll h us ps as → us.length = ps.length := by
      intro us ps as r
      induction us generalizing ps as with
      | nil => cases r; rfl
      | cons u us ih => cases r with | cons a b => simp [ih b]
    have := e1 rb
    have e2 := k2.length
    simp at this e2
    omega
  refine ⟨_, .dict (as := []) (bs := bs) ho hx.1 hd ?_ ?_, ?_⟩
  · rw [List.map_fst_zip (by simp [hl]), he]; exact r1
  · rw [List.map_snd_zip (by simp [hl]), he]; exact rb
  · have : a ≠ sysModules := by simpa using na
    simp [nb, Ne.symm this]
theorem Low.ne {a : Addr} {o : Obj} {u : HO} (lo : Low F) (e : F a = some (.frz o u)) (nx : ∀ φ, u ≠ .ext φ) : a ≠ sysModules := fun z => by
  subst z
  obtain ⟨o', h⟩ := lo
  rw [e] at h; cases h
  exact nx _ rfl
mutual
theorem Rep.reads (ok : HOk P w H h) (ex : Ex F H) (lo : Low F) : ∀ {v : V} {d : D} {p : PyData} {u : Value}, Rep K F v d → toP d = some p → RelV v u → Rds h u p
  | _, _, _, _, .non, e, r => by cases r; cases e; exact ⟨_, .none, by simp⟩
  | _, _, _, _, .bl b, e, r => by cases r; cases e; exact ⟨_, .bool b, by simp⟩
  | _, _, _, _, .int i, e, r => by obtain ⟨t, rfl⟩ := r; cases e; exact ⟨_, .int i t, by simp⟩
  | _, _, _, _, .str x, e, r => by obtain ⟨t, rfl⟩ := r; cases e; exact ⟨_, .str x t, by simp⟩
  | _, _, _, _, .tup h1 rs, e, r => by
    cases r
    simp only [toP, Option.map_eq_some_iff] at e
    obtain ⟨ps, e, rfl⟩ := e
    exact zy7 ok (ex _ _ h1) fun us rv => RepL.reads ok ex lo rs e rv
  | _, _, _, _, .lst h1 rs, e, r => by
    cases r
    simp only [toP, Option.map_eq_some_iff] at e
    obtain ⟨ps, e, rfl⟩ := e
    exact zs7 (o := .lst []) ok (.inr ⟨_, ex _ _ h1⟩) (lo.ne h1 (fun φ z => nomatch z)) fun us rv => RepL.reads ok ex lo rs e rv
  | _, _, _, _, .dk (ws := ws) (kvs := kvs) h1 rs, e, r => by
    cases r
    simp only [toP, Option.map_eq_some_iff] at e
    obtain ⟨ps, e, rfl⟩ := e
    obtain ⟨qs, eq, q⟩ := RepK.reads ok ex lo rs e
    subst eq
    exact zvh ok (.inr ⟨_, ex _ _ h1⟩) q
  | _, _, _, _, .dt (ws := ws) (kvs := kvs) h1 rs, e, r => by
    cases r
    simp only [toP, Option.map_eq_some_iff] at e
    obtain ⟨ps, e, rfl⟩ := e
    obtain ⟨qs, eq, q⟩ := RepT.reads ok ex lo rs e
    subst eq
    exact zvi ok (.inr ⟨_, ex _ _ h1⟩) q
  | _, _, _, _, .scr _, e, r => by simp [toP] at e
  | _, _, _, _, .obj _ _, e, r => by simp [toP] at e
  | _, _, _, _, .emp _, e, r => by simp [toP] at e
  | _, _, _, _, .cel _, e, r => by simp [toP] at e
  | _, _, _, _, .ins _ _, e, r => by simp [toP] at e
theorem RepL.reads (ok : HOk P w H h) (ex : Ex F H) (lo : Low F) : ∀ {vs : List V} {ds : List D} {ps : List PyData} {us : List Value}, RepL K F vs ds → toPs ds = some ps → Vals vs us → RdsAll h us ps
  | _, _, _, _, .nil, e, r => by cases r; cases e; exact ⟨_, .nil, by simp⟩
  | _, _, _, _, .cons r1 rs, e, r => by
    cases r with
    | cons a b =>
      simp only [toPs, Option.bind_eq_some_iff, Option.map_eq_some_iff] at e
      obtain ⟨p, e1, ps, e2, rfl⟩ := e
      exact RdsAll.cons (Rep.reads ok ex lo r1 e1 a) (RepL.reads ok ex lo rs e2 b)
theorem RepK.reads (ok : HOk P w H h) (ex : Ex F H) (lo : Low F) : ∀ {ws : List (Key × V)} {kvs : List (Key × D)} {ps : List (PyData × PyData)}, RepK K F ws kvs → toPk kvs = some ps → ∃ qs, ps = ((ws.map (·.1)).map keyP).zip qs ∧ ∀ us, Vals (ws.map (·.2)) us → RdsAll h us qs
  | _, _, _, .nil, e => by cases e; exact ⟨[], rfl, fun us r => by cases r; exact ⟨_, .nil, by simp⟩⟩
  | _, _, _, .cons r1 rs, e => by
    simp only [toPk, Option.bind_eq_some_iff, Option.map_eq_some_iff] at e
    obtain ⟨p, e1, ps, e2, rfl⟩ := e
    obtain ⟨qs, rfl, q⟩ := RepK.reads ok ex lo rs e2
    refine ⟨p :: qs, rfl, fun us r => ?_⟩
    cases r with
    | cons a b => exact RdsAll.cons (Rep.reads ok ex lo r1 e1 a) (q _ b)
theorem RepT.reads (ok : HOk P w H h) (ex : Ex F H) (lo : Low F) : ∀ {ws : List (List Key × V)} {kvs : List (List Key × D)} {ps : List (PyData × PyData)}, RepT K F ws kvs → toPt kvs = some ps → ∃ qs, ps = ((ws.map (·.1)).map fun k => PyData.tuple (k.map keyP)).zip qs ∧ ∀ us, Vals (ws.map (·.2)) us → RdsAll h us qs
  | _, _, _, .nil, e => by cases e; exact ⟨[], rfl, fun us r => by cases r; exact ⟨_, .nil, by simp⟩⟩
  | _, _, _, .cons r1 rs, e => by
    simp only [toPt, Option.bind_eq_some_iff, Option.map_eq_some_iff] at e
    obtain ⟨p, e1, ps, e2, rfl⟩ := e
    obtain ⟨qs, rfl, q⟩ := RepT.reads ok ex lo rs e2
    refine ⟨p :: qs, rfl, fun us r => ?_⟩
    cases r with
    | cons a b => exact RdsAll.cons (Rep.reads ok ex lo r1 e1 a) (q _ b)
end
end
end Mv
namespace Mv
open PySem PySem.Spec PyProof.Rows L2
def EqIn (prog : Program) (w : World) (A : Around) (s : Shared) (y x : Value) (b : Bool) : Prop :=
  ∀ (E : Value → Shared → Prop) (Q : Bool → Shared → Prop), Q b s → wpAny (model prog w) A (eqBool y x) Q E s
section
variable {prog : Program} {w : World} {A : Around} {E : Value → Shared → Prop} {s : Shared}
def Hits (prog : Program) (w : World) (A : Around) (s : Shared) (b : Addr) (es es' : Array DictEntry) (f : Nat → Option Nat) (e : Nat → Bool) : Prop :=
  ∀ i (h : i < es.size), (∀ (E : Value → Shared → Prop) (Q : Option Nat → Shared → Prop), Q (f i) s → wpAny (model prog w) A (dictFind b es[i].key es[i].hash) Q E s) ∧
    ∀ j, f i = some j → ∃ h' : j < es'.size, EqIn prog w A s es[i].val es'[j].val (e i)
theorem zlj {nm : String} {a b : Addr} {oa ob : Obj} {es es' : Array DictEntry} {ep ep' : Nat} {f : Nat → Option Nat} {e : Nat → Bool} {Q : Bool → Shared → Prop} (ha : (a == sysModules) = false) (hb : (b == sysModules) = false)
    (hoa : s.heap.get? a = some oa) (hda : oa.data = .dict es ep) (hob : s.heap.get? b = some ob) (hdb : ob.data = .dict es' ep') (hits : es.size = es'.size → Hits prog w A s b es es' f e)
    (h : Q (es.size == es'.size && (List.range' 0 es.size).all fun k => (f k).isSome && e k) s) : wpAny (model prog w) A (Builtin.Dict.samePairs nm a b) Q E s := by
  unfold Builtin.Dict.samePairs Builtin.Dict.showsAll
  rw [if_neg (show ¬ (a == sysModules) = true by rw [ha]; exact Bool.false_ne_true), if_neg (show ¬ (b == sysModules) = true by rw [hb]; exact Bool.false_ne_true)]
  refine wpAny_bind (wpAny_pure (wpAny_bind (wpAny_pure ?_)))
  refine wpAny_bind (wpAny_dictEntries hoa hda ?_)
  dsimp only
  refine wpAny_bind (wpAny_dictEntries hob hdb ?_)
  by_cases hsz : es.size = es'.size
  case neg =>
    rw [if_pos (by simpa using hsz)]
    have hbf : (es.size == es'.size) = false := by simpa using hsz
    rw [hbf, Bool.false_and] at h
    exact wpAny_bind (wpAny_rule (wpAny_pure h))
  case pos =>
    have h' : Q ((List.range' 0 es.size).all fun k => (f k).isSome && e k) s := by simpa [hsz] using h
    have hits' := hits hsz
    rw [if_neg (by rw [hsz]; simp)]
    refine wpAny_bind (wpAny_dictEpoch hoa hda ?_)
    refine wpAny_bind ?_
    rw [Std.Legacy.Range.forIn_eq_forIn_range']
    simp only [Std.Legacy.Range.size, Nat.sub_zero, Nat.add_sub_cancel, Nat.div_one]
    refine wpAny_forIn_list _ (fun rest q s' => s' = s ∧ q = (none, ()) ∧ ∃ i, rest = List.range' i (es.size - i) ∧ i ≤ es.size ∧ ((List.range' 0 es.size).all fun k => (f k).isSome && e k) = ((List.range' i (es.size - i)).all fun k => (f k).isSome && e k))
      _ ?_ ?_ _ _ ⟨rfl, rfl, 0, by simp, Nat.zero_le _, rfl⟩
    · rintro x rest q s' ⟨rfl, rfl, i, hr, hi, hpre⟩
      have hlt : i < es.size := by
        rcases Nat.lt_or_ge i es.size with h | h
        · exact h
        · rw [Nat.sub_eq_zero_of_le h] at hr; simp at hr
      have e1 : es.size - i = (es.size - (i + 1)) + 1 := by omega
      rw [e1, List.range'_succ] at hr hpre
      injection hr with h1 h2
      subst h1 h2
      rw [List.all_cons] at hpre
      obtain ⟨look, cmp⟩ := hits' x hlt
      refine wpAny_bind (wpAny_dictEntries hoa hda ?_)
      rw [Array.getElem?_eq_getElem hlt]
      show wpAny _ _ (holding [es[x].key, es[x].val] _ >>= _) _ _ _
      refine wpAny_bind (wpAny_holding (wpAny_bind (look _ _ ?_)))
      cases hj : f x with
      | none =>
        rw [hpre, hj] at h'
        refine wpAny_pure ?_
        show wpAny _ _ (if (!false) = true then _ else _) _ _ _
        rw [if_pos (by decide)]
        exact wpAny_pure (wpAny_pure (by simpa using h'))
      | some j =>
        obtain ⟨hjlt, he⟩ := cmp j hj
        refine wpAny_bind (wpAny_dictEntries hob hdb ?_)
        rw [Array.getElem?_eq_getElem hjlt]
        refine wpAny_holding (he _ _ ?_)
        cases hv : e x with
        | false =>
          rw [hpre, hj, hv] at h'
          show wpAny _ _ (if (!false) = true then _ else _) _ _ _
          rw [if_pos (by decide)]
          exact wpAny_pure (wpAny_pure (by simpa using h'))
        | true =>
          rw [hj, hv] at hpre
          show wpAny _ _ (if (!true) = true then _ else _) _ _ _
          rw [if_neg (by decide)]
          refine wpAny_bind (wpAny_dictEpoch hoa hda ?_)
          rw [if_neg (by simp)]
          exact wpAny_pure ⟨rfl, rfl, x + 1, rfl, hlt, by simpa using hpre⟩
    · rintro q s' ⟨rfl, rfl, i, hr, hi, hpre⟩
      have hin : i = es.size := by
        rcases Nat.lt_or_ge i es.size with h | h
        · have e : es.size - i = (es.size - (i + 1)) + 1 := by omega
          rw [e, List.range'_succ] at hr; exact nomatch hr
        · exact Nat.le_antisymm hi h
      subst hin
      refine wpAny_pure ?_
      rw [hpre] at h'
      simpa using h'
theorem zp8 {a b : Addr} {oa ob : Obj} {es es' : Array DictEntry} {ep ep' : Nat} {f : Nat → Option Nat} {e : Nat → Bool} {Q : Value → Shared → Prop} (ha : (a == sysModules) = false) (hb : (b == sysModules) = false)
    (hoa : s.heap.get? a = some oa) (xa : oa.ExactDict) (hda : oa.data = .dict es ep) (hob : s.heap.get? b = some ob) (xb : ob.ExactDict) (hdb : ob.data = .dict es' ep') (hu : A.units < cLine) (hits : es.size = es'.size → Hits prog w A.in1 s b es es' f e)
    (h : Q (.bool (es.size == es'.size && (List.range' 0 es.size).all fun k => (f k).isSome && e k)) s) : wpAny (model prog w) A (compareOp .Eq (.ref a) (.ref b)) Q E s := by
  have ta : s.TypeIs (.ref a) "dict" := ⟨_, hoa, xa.1⟩
  have tb : s.TypeIs (.ref b) "dict" := ⟨_, hob, xb.1⟩
  refine wpAny_richCompare_same_room (op := .Eq) ta tb PySem.F.slot_dict_eq (wpAny_call_entry PySem.F.slot_dict_eq ta PySem.F.entry_dict_eq ?_ (PySem.F.args_dict_eq_2 _ _)) hu
  show wpAny _ _ (Builtin.Dict.dictSlotArgs "__eq__" ⟨[.ref a, .ref b], []⟩ >>= _) _ _ s
  refine wpAny_bind ?_
  unfold Builtin.Dict.dictSlotArgs
  refine wpAny_bind (wpAny_notOrdered_dict ta ?_)
  show wpAny _ _ (pure (Value.ref a, Value.ref b)) _ _ s
  refine wpAny_pure ?_
  refine wpAny_bind (wpAny_isInstance (T := "dict") tb PySem.F.sub_dict_dict ?_)
  simp only [Bool.not_true, Bool.false_eq_true, if_false]
  refine wpAny_bind (wpAny_pure (wpAny_bind (wpAny_pure ?_)))
  refine wpAny_bind (zlj ha hb hoa hda hob hdb hits ?_)
  refine wpAny_pure ⟨_, rfl, ?_, ?_⟩
  · exact fun x => nomatch x
  · simpa using h
theorem zni {a b : Addr} {oa ob : Obj} {es es' : Array DictEntry} {ep ep' : Nat} {f : Nat → Option Nat} {e : Nat → Bool} {Q : Value → Shared → Prop} (ha : (a == sysModules) = false) (hb : (b == sysModules) = false)
    (hoa : s.heap.get? a = some oa) (xa : oa.ExactDict) (hda : oa.data = .dict es ep) (hob : s.heap.get? b = some ob) (xb : ob.ExactDict) (hdb : ob.data = .dict es' ep') (hu : A.units < cLine) (hits : es.size = es'.size → Hits prog w A.in1 s b es es' f e)
    (h : Q (.bool (!(es.size == es'.size && (List.range' 0 es.size).all fun k => (f k).isSome && e k))) s) : wpAny (model prog w) A (compareOp .NotEq (.ref a) (.ref b)) Q E s := by
  have ta : s.TypeIs (.ref a) "dict" := ⟨_, hoa, xa.1⟩
  have tb : s.TypeIs (.ref b) "dict" := ⟨_, hob, xb.1⟩
  refine wpAny_richCompare_same_room (op := .NotEq) ta tb PySem.F.slot_dict_ne (wpAny_call_entry PySem.F.slot_dict_ne ta PySem.F.entry_dict_ne ?_ (PySem.F.args_dict_ne_2 _ _)) hu
  show wpAny _ _ (Builtin.Dict.dictSlotArgs "__ne__" ⟨[.ref a, .ref b], []⟩ >>= _) _ _ s
  refine wpAny_bind ?_
  unfold Builtin.Dict.dictSlotArgs
  refine wpAny_bind (wpAny_notOrdered_dict ta ?_)
  show wpAny _ _ (pure (Value.ref a, Value.ref b)) _ _ s
  refine wpAny_pure ?_
  refine wpAny_bind (wpAny_isInstance (T := "dict") tb PySem.F.sub_dict_dict ?_)
  simp only [Bool.not_true, Bool.false_eq_true, if_false]
  refine wpAny_bind (wpAny_pure (wpAny_bind (wpAny_pure ?_)))
  refine wpAny_bind (zlj ha hb hoa hda hob hdb hits ?_)
  refine wpAny_pure ⟨_, rfl, ?_, ?_⟩
  · exact fun x => nomatch x
  · simpa using h
end
end Mv
namespace Mv
open PySem PySem.Spec PyProof.Rows L2
def eqvD (x y : D) : Bool := match toP x, toP y with
  | some p, some q => PyData.eqv p q
  | _, _ => false
def Pure (x : D) : Prop := ∃ p, toP x = some p ∧ SeqAt.shaped p = true
section
variable {κ : Type} [DecidableEq κ]
def eqG (kvs lvs : List (κ × D)) : Bool := kvs.length == lvs.length && kvs.all fun kv => match valG lvs kv.1 with
  | some d => eqvD kv.2 d
  | none => false
theorem zju {lvs : List (κ × D)} {k : κ} : (∀ j, lvs.findIdx? (fun q => decide (q.1 = k)) = some j → ∃ d, lvs[j]? = some (k, d) ∧ valG lvs k = some d) ∧ (lvs.findIdx? (fun q => decide (q.1 = k)) = none → valG lvs k = none) := by
  induction lvs with
  | nil => exact ⟨fun j h => by simp at h, fun _ => rfl⟩
  | cons q r ih =>
    by_cases e : q.1 = k
    · refine ⟨fun j h => ?_, fun h => ?_⟩
      · rw [List.findIdx?_cons] at h
        simp [e] at h
        subst h
        exact ⟨q.2, by simp [← e], by simp [valG, e]⟩
      · rw [List.findIdx?_cons] at h
        simp [e] at h
    · refine ⟨fun j h => ?_, fun h => ?_⟩
      · rw [List.findIdx?_cons] at h
        simp only [e, decide_false, Bool.false_eq_true, if_false, Option.map_eq_some_iff] at h
        obtain ⟨j', h, rfl⟩ := h
        obtain ⟨d, h1, h2⟩ := ih.1 j' h
        exact ⟨d, by simpa using h1, by simpa [valG, e] using h2⟩
      · rw [List.findIdx?_cons] at h
        simp only [e, decide_false, Bool.false_eq_true, if_false, Option.map_eq_none_iff] at h
        simpa [valG, e] using ih.2 h
def fG (kvs lvs : List (κ × D)) (i : Nat) : Option Nat := (kvs[i]?).bind fun kv => lvs.findIdx? fun q => decide (q.1 = kv.1)
def eG (kvs lvs : List (κ × D)) (i : Nat) : Bool := match kvs[i]? with
  | some kv => (match valG lvs kv.1 with
    | some d => eqvD kv.2 d
    | none => false)
  | none => false
theorem all_range {α : Type} (g : Nat → Bool) (p : α → Bool) : ∀ (xs : List α) (s : Nat), (∀ i x, xs[i]? = some x → g (s + i) = p x) → (List.range' s xs.length).all g = xs.all p
  | [], _, _ => rfl
  | x :: xs, s, h => by
    rw [List.length_cons, List.range'_succ, List.all_cons, List.all_cons, all_range g p xs (s + 1) fun i y e => by rw [Nat.add_assoc, Nat.add_comm 1 i]; exact h (i + 1) y (by simpa using e)]
    have := h 0 x rfl
    rw [Nat.add_zero] at this
    rw [this]
theorem zvj (kvs lvs : List (κ × D)) : (kvs.length == lvs.length && (List.range' 0 kvs.length).all fun k => (fG kvs lvs k).isSome && eG kvs lvs k) = eqG kvs lvs := by
  unfold eqG
  congr 1
  refine all_range _ _ kvs 0 fun i x e => ?_
  rw [Nat.zero_add]
  unfold fG eG
  rw [e]
  show ((lvs.findIdx? fun q => decide (q.1 = x.1)).isSome && _) = _
  cases h : lvs.findIdx? fun q => decide (q.1 = x.1) with
  | none => rw [zju.2 h]; rfl
  | some j =>
    obtain ⟨d, _, h2⟩ := zju.1 j h
    simp [h2]
end
section
variable {P : Program} {w : World} {A : Around} {s : Shared} {K : PySem.W.Frag} {F H : Hp}
theorem pure_eq (ok : HOk P w H s.heap) (ex : Ex F H) (lo : Low F) (hu : A.units + 64 < cLine) {x y : V} {u v : Value} {d e : D} (r1 : Rep K F x d) (r2 : Rep K F y e) (q1 : RelV x u) (q2 : RelV y v) (p1 : Pure d) (p2 : Pure e) : EqIn P w A s u v (eqvD d e) := by
  obtain ⟨p, e1, s1⟩ := p1
  obtain ⟨q, e2, s2⟩ := p2
  obtain ⟨as, ra, _⟩ := r1.reads ok ex lo e1 q1
  obtain ⟨bs, rb, _⟩ := r2.reads ok ex lo e2 q2
  have : eqvD d e = PyData.eqv p q := by unfold eqvD; rw [e1, e2]
  rw [this]
  exact fun E Q h => SeqAt.eqAt_reads p q A s u v as bs ra rb (SeqAt.canLay_of_shaped s1) (SeqAt.canLay_of_shaped s2) (SeqAt.room_of_shaped s1 hu) P w E Q h
theorem zy8 (es : Array DictEntry) (p : DictEntry → Bool) : es.findIdx? p = es.toList.findIdx? p := by
  cases es; simp
theorem znj {k : Key} : ∀ {es : List DictEntry} {vs : List (Key × Value)}, Pairs (mixKind P w) es vs → es.findIdx? (fun e => (mixKind P w).is k e.key) = vs.findIdx? fun q => decide (q.1 = k)
  | _, _, .nil => rfl
  | _, _, .cons (e := e) (kv := kv) h1 h2 t => by
    rw [List.findIdx?_cons, List.findIdx?_cons, znj t]
    have : (mixKind P w).is k e.key = decide (kv.1 = k) := by
      by_cases q : kv.1 = k
      · subst q; simp [h1]
      · cases z : (mixKind P w).is k e.key with
        | false => simp [q]
        | true => exact absurd ((mixKind P w).inj _ _ _ h1 z) q
    rw [this]
theorem zgx {κ α β : Type} [DecidableEq κ] {xs : List (κ × α)} {ys : List (κ × β)} (h : xs.map (·.1) = ys.map (·.1)) (k : κ) : (xs.findIdx? fun q => decide (q.1 = k)) = ys.findIdx? fun q => decide (q.1 = k) := by
  have e1 : (xs.findIdx? fun q => decide (q.1 = k)) = (xs.map (·.1)).findIdx? fun q => decide (q = k) := by rw [List.findIdx?_map]; rfl
  have e2 : (ys.findIdx? fun q => decide (q.1 = k)) = (ys.map (·.1)).findIdx? fun q => decide (q = k) := by rw [List.findIdx?_map]; rfl
  rw [e1, e2, h]
theorem Pairs.at {es : List DictEntry} {vs : List (Key × Value)} (h : Pairs (mixKind P w) es vs) : ∀ {i : Nat} {e : DictEntry} {q : Key × Value}, es[i]? = some e → vs[i]? = some q → (mixKind P w).is q.1 e.key = true ∧ e.val = q.2 := by
  induction h with
  | nil => intro i e q h; simp at h
  | cons h1 h2 t ih =>
    intro i e q a b
    cases i with
    | zero => simp at a b; subst a b; exact ⟨h1, h2⟩
    | succ i => exact ih (i := i) (by simpa using a) (by simpa using b)
theorem KV.at {κ : Type} {ws : List (κ × V)} {vs : List (κ × Value)} (h : KV ws vs) : ∀ {i : Nat} {p : κ × V} {q : κ × Value}, ws[i]? = some p → vs[i]? = some q → p.1 = q.1 ∧ RelV p.2 q.2 := by
  induction h with
  | nil => intro i p q h; simp at h
  | cons h1 t ih =>
    intro i p q a b
    cases i with
    | zero => simp at a b; subst a b; exact h1
    | succ i => exact ih (i := i) (by simpa using a) (by simpa using b)
theorem zy9 (ok : HOk P w H s.heap) (ex : Ex F H) (lo : Low F) (hu : A.units + 64 < cLine) {a b : Addr} {wa wb : List (Key × V)} {ka kb : List (Key × D)} {ob : Obj} {va vb : List (Key × Value)} {es es' : Array DictEntry} {ep' : Nat}
    (ra : RepG K F wa ka) (rb : RepG K F wb kb) (xa : KV wa va) (xb : KV wb vb) (ha : KeysOf (mixKind P w) es) (pa : Pairs (mixKind P w) es.toList va) (hob : s.heap.get? b = some ob) (hdb : ob.data = .dict es' ep') (hb : KeysOf (mixKind P w) es') (pb : Pairs (mixKind P w) es'.toList vb)
    (pu : ∀ q ∈ ka, Pure q.2) (pv : ∀ q ∈ kb, Pure q.2) : Hits P w A s b es es' (fG ka kb) (eG ka kb) := by
  intro i hi
  have la : es.toList.length = va.length := pa.length
  have lb : es'.toList.length = vb.length := pb.length
  have lka : wa.length = ka.length := ra.length
  have lkb : wb.length = kb.length := rb.length
  have kva := (paired_keys xa).1
  have kvb := (paired_keys xb).1
  have lwa : wa.length = va.length := by simpa using congrArg List.length kva
  have lwb : wb.length = vb.length := by simpa using congrArg List.length kvb
  have hiv : i < va.length := by rw [← la]; simpa using hi
  have hik : i < ka.length := by omega
  obtain ⟨⟨k, d⟩, hk⟩ : ∃ q, ka[i]? = some q := ⟨_, List.getElem?_eq_getElem hik⟩
  obtain ⟨v, hw, rv⟩ := ra.get hk
  obtain ⟨⟨k2, u⟩, hv⟩ : ∃ q, va[i]? = some q := ⟨_, List.getElem?_eq_getElem hiv⟩
  obtain ⟨ek, ru⟩ := KV.at xa hw hv
  simp only at ek ru
  subst ek
  have hes : es.toList[i]? = some es[i] := by rw [Array.getElem?_toList]; exact Array.getElem?_eq_getElem hi
  obtain ⟨hkey, hval⟩ := Pairs.at pa hes hv
  obtain ⟨k', hk', hh⟩ := ha es[i] (Array.getElem_mem hi)
  have ekk : k' = k := (mixKind P w).inj _ _ _ hk' hkey
  subst ekk
  have ef : fG ka kb i = es'.findIdx? fun e => (mixKind P w).is k' e.key := by
    unfold fG
    rw [hk]
    show (kb.findIdx? fun q => decide (q.1 = k')) = _
    rw [← zgx (rb.keys) k', zgx kvb k', ← znj pb, zy8]
  refine ⟨fun E Q h => ?_, fun j hj => ?_⟩
  · rw [hh]
    exact wpAny_dictFind_of hkey hob hdb hb (by rw [← ef]; exact h)
  · have hj' : (kb.findIdx? fun q => decide (q.1 = k')) = some j := by
      have := hj; unfold fG at this; rw [hk] at this; exact this
    obtain ⟨d', hd', hv'⟩ := zju.1 j hj'
    obtain ⟨v', hw', rv'⟩ := rb.get hd'
    have hjlt : j < kb.length := (List.getElem?_eq_some_iff.mp hd').1
    have hjv : j < vb.length := by omega
    have hjes : j < es'.size := by have : es'.toList.length = es'.size := Array.length_toList; omega
    obtain ⟨⟨k3, u'⟩, hv3⟩ : ∃ q, vb[j]? = some q := ⟨_, List.getElem?_eq_getElem hjv⟩
    obtain ⟨_, ru'⟩ := KV.at xb hw' hv3
    have hes' : es'.toList[j]? = some es'[j] := by rw [Array.getElem?_toList]; exact Array.getElem?_eq_getElem hjes
    obtain ⟨_, hval'⟩ := Pairs.at pb hes' hv3
    refine ⟨hjes, ?_⟩
    have ee : eG ka kb i = eqvD d d' := by unfold eG; rw [hk]; simp [hv']
    rw [ee, hval, hval']
    exact pure_eq ok ex lo hu rv rv' ru ru' (pu _ (List.mem_of_getElem? hk)) (pv _ (List.mem_of_getElem? hd'))
theorem KT.at {ws : List (List Key × V)} {xs : List (List Key × Addr × Value)} (h : KT H ws xs) : ∀ {i : Nat} {p : List Key × V} {q : List Key × Addr × Value}, ws[i]? = some p → xs[i]? = some q → p.1 = q.1 ∧ H q.2.1 = some (.tup (p.1.map kV)) ∧ RelV p.2 q.2.2 := by
  induction h with
  | nil => intro i p q h; simp at h
  | cons h1 t ih =>
    intro i p q a b
    cases i with
    | zero => simp at a b; subst a b; exact h1
    | succ i => exact ih (i := i) (by simpa using a) (by simpa using b)
theorem zza (ok : HOk P w H s.heap) (ex : Ex F H) (lo : Low F) (hu : A.units + 64 < cLine) {a b : Addr} {wa wb : List (List Key × V)} {ka kb : List (List Key × D)} {ob : Obj} {xa xb : List (List Key × Addr × Value)} {es es' : Array DictEntry} {ep' : Nat}
    (ra : RepG K F wa ka) (rb : RepG K F wb kb) (qa : KT H wa xa) (qb : KT H wb xb) (ha : es.toList = xa.map (entryOfKey (tupleKind (mixKind P w)))) (hob : s.heap.get? b = some ob) (hdb : ob.data = .dict es' ep') (hb : es'.toList = xb.map (entryOfKey (tupleKind (mixKind P w)))) (nb : (xb.map (·.1)).Nodup)
    (pu : ∀ q ∈ ka, Pure q.2) (pv : ∀ q ∈ kb, Pure q.2) : Hits P w A s b es es' (fG ka kb) (eG ka kb) := by
  intro i hi
  have kof : ∀ {wz : List (List Key × V)} {xz : List (List Key × Addr × Value)}, KT H wz xz → wz.map (·.1) = xz.map (·.1) := by
    intro wz xz h
    induction h with
    | nil => rfl
    | cons h1 t ih => simp [h1.1, ih]
  have lka : wa.length = ka.length := ra.length
  have lkb : wb.length = kb.length := rb.length
  have lwa : wa.length = xa.length := by simpa using congrArg List.length (kof qa)
  have lwb : wb.length = xb.length := by simpa using congrArg List.length (kof qb)
  have se : es.size = xa.length := size_of_entries ha
  have sb : es'.size = xb.length := size_of_entries hb
  have hik : i < ka.length := by omega
  obtain ⟨⟨k, d⟩, hk⟩ : ∃ q, ka[i]? = some q := ⟨_, List.getElem?_eq_getElem hik⟩
  obtain ⟨v, hw, rv⟩ := ra.get hk
  obtain ⟨⟨k2, ad, u⟩, hv⟩ : ∃ q, xa[i]? = some q := ⟨_, List.getElem?_eq_getElem (by omega)⟩
  obtain ⟨ek, hT, ru⟩ := KT.at qa hw hv
  simp only at ek hT ru
  subst ek
  have hes : es[i] = entryOfKey (tupleKind (mixKind P w)) (k, ad, u) := by
    have := entry_at ha i
    rw [Array.getElem?_eq_getElem hi, hv] at this
    exact Option.some.inj this
  have his : ∀ x ∈ xb, (tupleKind (mixKind P w)).is s.heap x.1 x.2.1 := fun x hx => by
    obtain ⟨j, hj⟩ := List.getElem?_of_mem hx
    have hjl : j < wb.length := by have := (List.getElem?_eq_some_iff.mp hj).1; omega
    obtain ⟨p, hp⟩ : ∃ p, wb[j]? = some p := ⟨_, List.getElem?_eq_getElem hjl⟩
    obtain ⟨e1, e2, _⟩ := KT.at qb hp hj
    rw [← e1]
    exact key_of ok e2
  have keysB : xb.map (·.1) = kb.map (·.1) := (kof qb).symm.trans rb.keys
  have ef : fG ka kb i = kb.findIdx? fun q => decide (q.1 = k) := by unfold fG; rw [hk]; rfl
  have room : (tupleKind (mixKind P w)).room A := Nat.lt_of_le_of_lt (Nat.le_add_right A.units 64) hu
  have kis := key_of ok hT
  refine ⟨fun E Q h => ?_, fun j hj => ?_⟩
  · rw [hes]
    show wpAny _ _ (dictFind b (.ref ad) ((tupleKind (mixKind P w)).hash k)) _ _ _
    refine wpAny_dictFind_heap (knd := tupleKind (mixKind P w)) (k := k) room kis hob hdb hb his nb (fun hn => ?_) (fun j p hj => ?_)
    · have e0 : (kb.findIdx? fun q => decide (q.1 = k)) = none := by
        rw [← zgx keysB k]
        rw [List.findIdx?_eq_none_iff]
        intro x hx
        obtain ⟨j, hj⟩ := List.getElem?_of_mem hx
        by_cases z : x.1 = k
        · exact absurd (by rw [hj, ← z]) (hn j x.2)
        · simp [z]
      rw [ef, e0] at h
      exact h
    · have e0 : (kb.findIdx? fun q => decide (q.1 = k)) = some j := by
        rw [← zgx keysB k]
        rw [List.findIdx?_eq_some_iff_getElem]
        have hjl := (List.getElem?_eq_some_iff.mp hj)
        obtain ⟨hl, hje⟩ := hjl
        refine ⟨hl, by simp [hje], fun m hm z => ?_⟩
        have hml : m < xb.length := by omega
        have z := of_decide_eq_true z
        have hm2 : xb[m]? = some (k, xb[m].2) := by rw [List.getElem?_eq_getElem hml, ← z]
        have := idxH_unique nb hm2 hj
        omega
      rw [ef, e0] at h
      exact h
  · rw [ef] at hj
    obtain ⟨d', hd', hv'⟩ := zju.1 j hj
    obtain ⟨v', hw', rv'⟩ := rb.get hd'
    have hjlt : j < kb.length := (List.getElem?_eq_some_iff.mp hd').1
    have hjes : j < es'.size := by omega
    obtain ⟨⟨k3, ad', u'⟩, hv3⟩ : ∃ q, xb[j]? = some q := ⟨_, List.getElem?_eq_getElem (by omega)⟩
    obtain ⟨_, _, ru'⟩ := KT.at qb hw' hv3
    have hes' : es'[j] = entryOfKey (tupleKind (mixKind P w)) (k3, ad', u') := by
      have := entry_at hb j
      rw [Array.getElem?_eq_getElem hjes, hv3] at this
      exact Option.some.inj this
    refine ⟨hjes, ?_⟩
    have ee : eG ka kb i = eqvD d d' := by unfold eG; rw [hk]; simp [hv']
    rw [ee, hes, hes']
    exact pure_eq ok ex lo hu rv rv' ru ru' (pu _ (List.mem_of_getElem? hk)) (pv _ (List.mem_of_getElem? hd'))
end
end Mv
namespace Mv
open PySem PySem.Spec PyProof.Rows L2
structure Std (F H : Hp) : Prop where
  ex : Ex F H
  tp : Tp F H
  lo : Low F
theorem RepS.std {K : PySem.W.Frag} {F0 H0 : Hp} {P : Pl} {δ : Dl} {σ : L2.St} {F H : Hp} (R : RepS K F0 H0 P δ σ F H) : Std F H := ⟨R.e3, R.tp, R.low.mono R.e1⟩
theorem Std.low {F H : Hp} (s : Std F H) : ∃ o, H sysModules = some (.frz o (.ext fun _ => True)) := let ⟨o, h⟩ := s.lo; ⟨o, s.ex _ _ h⟩
theorem Std.ne {F H : Hp} (s : Std F H) {a : Addr} {u : HO} (e : H a = some u) (nx : ∀ o φ, u ≠ .frz o (.ext φ)) : a ≠ sysModules := fun z => by
  subst z
  obtain ⟨o', h⟩ := s.low
  rw [e] at h; cases h
  exact nx _ _ rfl
theorem Grown.refl {F H : Hp} (s : Std F H) : Grown F H F H := ⟨Ex.refl F, Ex.refl H, s.ex, fun a o h => .inl h, s.tp⟩
theorem Grown.newF {F H : Hp} (s : Std F H) {p : Addr} {o : HO} (h : H p = none) : Grown F H (upd F p o) (upd H p o) :=
  ⟨Ex.new (s.ex.nn h), Ex.new h, s.ex.both, fun a u q => by
    by_cases z : a = p
    · subst z; exact .inr h
    · rw [upd_ne z] at q; exact .inl q, s.tp.both⟩
theorem Grown.newO {F H : Hp} (s : Std F H) {p : Addr} {o : HO} (h : H p = none) (no : ∀ vs, o ≠ .tup vs := by exact fun _ z => nomatch z) : Grown F H F (upd H p o) :=
  ⟨Ex.refl F, Ex.new h, s.ex.trans (Ex.new h), fun a u q => .inl q, s.tp.put no⟩
theorem View.reads {K : PySem.W.Frag} {F H : Hp} {h : Heap} {P : Program} {w : World} (ok : HOk P w H h) (s : Std F H) {v : V} {d : D} {p : PyData} {u : Value} (vw : View K F H v d) (e : toP d = some p) (r : RelV v u) : Rds h u p := by
  cases vw with
  | flat rp ex => exact rp.reads ok ex s.lo e r
  | lst h1 rs =>
    cases r
    simp only [toP, Option.map_eq_some_iff] at e
    obtain ⟨ps, e, rfl⟩ := e
    exact zs7 (o := .lst []) ok (.inl h1) (s.ne h1 fun _ _ z => nomatch z) fun us rv => rs.reads ok s.ex s.lo e rv
  | dk h1 rs =>
    cases r
    simp only [toP, Option.map_eq_some_iff] at e
    obtain ⟨ps, e, rfl⟩ := e
    obtain ⟨qs, eq, q⟩ := rs.reads ok s.ex s.lo e
    subst eq
    exact zvh ok (.inl h1) q
  | dt h1 rs =>
    cases r
    simp only [toP, Option.map_eq_some_iff] at e
    obtain ⟨ps, e, rfl⟩ := e
    obtain ⟨qs, eq, q⟩ := rs.reads ok s.ex s.lo e
    subst eq
    exact zvi ok (.inl h1) q
  | ins _ _ => simp [toP] at e
abbrev G2 := D → D → (D → Prop) → Prop
abbrev G2O := D → D → (O → Prop) → Prop
def rN (K : PySem.W.Frag) (g : G2) : R2 := fun x y H Q => ∃ F dx dy Q', Std F H ∧ View K F H x dx ∧ View K F H y dy ∧ g dx dy Q' ∧ ∀ F' H' v d, Grown F H F' H' → Rep K F' v d → Q' d → Q v H'
def rNO (K : PySem.W.Frag) (g : G2O) : R2 := fun x y H Q => ∃ F dx dy Q', Std F H ∧ View K F H x dx ∧ View K F H y dy ∧ g dx dy Q' ∧ ∀ F' H' p ho o, Grown F H F' H' → H p = none → H' p = some ho → F' p = none → OwnAt K F' H' p o → Q' o → Q (.ref p) H'
def d2VV (g : G2) (tw tz : DV) : DE := fun δ Q => tw δ fun δ1 x => tz δ1 fun δ2 y => ∃ d e, vwD δ2 x = some d ∧ vwD δ2 y = some e ∧ g d e (Q δ2)
def d2VO (g : G2O) (tw tz : DV) : DOw := fun δ Q => tw δ fun δ1 x => tz δ1 fun δ2 y => ∃ d e, vwD δ2 x = some d ∧ vwD δ2 y = some e ∧ g d e (Q δ2)
theorem up2N {K : PySem.W.Frag} {g : G2} {tw tz : DV} {σ : L2.St} {H : Hp} {Q : VK} (h : upE K (d2VV g tw tz) σ H Q) : tOp (rN K g) (upV K tw) (upV K tz) σ H Q := by
  obtain ⟨F0, H0, P, δ, F, Q', R, ht, k⟩ := h
  refine ⟨F0, H0, P, δ, F, _, R, ht, fun δ1 F1 H1 x vx R1 e1 rx ht => ?_⟩
  refine ⟨F0, H0, P, δ1, F1, _, R1, ht, fun δ2 F2 H2 y vy R2 e2 ry ⟨d, e, hd, he, ht⟩ => ?_⟩
  exact ⟨F2, d, e, _, R2.std, R2.view rx e2 hd, R2.view ry (Ex.refl F2) he, ht, fun F' H' v d G r q => k δ2 F' H' v d (R2.grow G.e1 G.e2 G.e3 G.fr G.tp) ((e1.trans e2).trans G.e1) r q⟩
theorem up2O {K : PySem.W.Frag} {g : G2O} {tw tz : DV} {σ : L2.St} {H : Hp} {Q : VK} (h : upO K (d2VO g tw tz) σ H Q) : tOp (rNO K g) (upV K tw) (upV K tz) σ H Q := by
  obtain ⟨F0, H0, P, δ, F, Q', R, ht, k⟩ := h
  refine ⟨F0, H0, P, δ, F, _, R, ht, fun δ1 F1 H1 x vx R1 e1 rx ht => ?_⟩
  refine ⟨F0, H0, P, δ1, F1, _, R1, ht, fun δ2 F2 H2 y vy R2 e2 ry ⟨d, e, hd, he, ht⟩ => ?_⟩
  exact ⟨F2, d, e, _, R2.std, R2.view rx e2 hd, R2.view ry (Ex.refl F2) he, ht, fun F' H' p ho o G n1 n2 n3 r q =>
    let ⟨R3, hP⟩ := R2.growP G n1 n2 n3
    k δ2 F' H' p ho o R3 hP ((e1.trans e2).trans G.e1) r q⟩
abbrev DAV := Dl → (Dl → List Vw → Prop) → Prop
def zpp (K : PySem.W.Frag) (σ : L2.St) (F : Hp) : List V → List Vw → Prop
  | [], [] => True
  | v :: vs, x :: xs => VwOk K σ F v x ∧ zpp K σ F vs xs
  | _, _ => False
inductive ViewL (K : PySem.W.Frag) (F H : Hp) : List V → List D → Prop
  | nil : ViewL K F H [] []
  | cons {v vs d ds} : View K F H v d → ViewL K F H vs ds → ViewL K F H (v :: vs) (d :: ds)
def vwsD (δ : Dl) : List Vw → Option (List D)
  | [] => some []
  | x :: xs => (vwD δ x).bind fun d => (vwsD δ xs).map (d :: ·)
def upAV (K : PySem.W.Frag) (t : DAV) : TA := fun σ H Q => ∃ F0 H0 P δ F Q', RepS K F0 H0 P δ σ F H ∧ t δ Q' ∧ ∀ δ' F' H' vs xs, RepS K F0 H0 P δ' σ F' H' → Ex F F' → zpp K σ F' vs xs → Q' δ' xs → Q vs H'
theorem VwOk.mono {K : PySem.W.Frag} {σ : L2.St} {F F' : Hp} {v : V} {x : Vw} (h : VwOk K σ F v x) (e : Ex F F') : VwOk K σ F' v x := by
  cases x with
  | inl i => exact h
  | cel i => exact h
  | inr d => exact Rep.mono e h
theorem RepS.views {K : PySem.W.Frag} {F0 H0 F H F1 : Hp} {P : Pl} {δ : Dl} {σ : L2.St} (R : RepS K F0 H0 P δ σ F H) (e : Ex F1 F) : ∀ {vs : List V} {xs : List Vw} {ds : List D}, zpp K σ F1 vs xs → vwsD δ xs = some ds → ViewL K F H vs ds
  | [], [], ds, _, h => by cases h; exact .nil
  | v :: vs, x :: xs, ds, ⟨a, b⟩, h => by
    simp only [vwsD, Option.bind_eq_some_iff, Option.map_eq_some_iff] at h
    obtain ⟨d, h1, ds', h2, rfl⟩ := h
    exact .cons (R.view a e h1) (R.views e b h2)
  | [], _ :: _, _, h, _ => h.elim
  | _ :: _, [], _, h, _ => h.elim
def vNil : DAV := fun δ Q => Q δ []
def jn (tw : DV) (ts : DAV) : DAV := fun δ Q => tw δ fun δ1 x => ts δ1 fun δ2 xs => Q δ2 (x :: xs)
abbrev G1 := List D → (D → Prop) → Prop
abbrev G1O := List D → (O → Prop) → Prop
def cN (K : PySem.W.Frag) (g : G1) : List V → Hp → VK → Prop := fun vs H Q => ∃ F ds Q', Std F H ∧ ViewL K F H vs ds ∧ g ds Q' ∧ ∀ F' H' v d, Grown F H F' H' → Rep K F' v d → Q' d → Q v H'
def cNO (K : PySem.W.Frag) (g : G1O) : List V → Hp → VK → Prop := fun vs H Q => ∃ F ds Q', Std F H ∧ ViewL K F H vs ds ∧ g ds Q' ∧ ∀ F' H' p ho o, Grown F H F' H' → H p = none → H' p = some ho → F' p = none → OwnAt K F' H' p o → Q' o → Q (.ref p) H'
def d1 (g : G1) (ts : DAV) : DE := fun δ Q => ts δ fun δ1 xs => ∃ ds, vwsD δ1 xs = some ds ∧ g ds (Q δ1)
def d1O (g : G1O) (ts : DAV) : DOw := fun δ Q => ts δ fun δ1 xs => ∃ ds, vwsD δ1 xs = some ds ∧ g ds (Q δ1)
theorem up1N {K : PySem.W.Frag} {g : G1} {ts : DAV} {σ : L2.St} {H : Hp} {Q : VK} (h : upE K (d1 g ts) σ H Q) : upAV K ts σ H fun vs H1 => cN K g vs H1 Q := by
  obtain ⟨F0, H0, P, δ, F, Q', R, ht, k⟩ := h
  refine ⟨F0, H0, P, δ, F, _, R, ht, fun δ1 F1 H1 vs xs R1 e1 ok ⟨ds, hd, ht⟩ => ?_⟩
  exact ⟨F1, ds, _, R1.std, R1.views (Ex.refl F1) ok hd, ht, fun F' H' v d G r q => k δ1 F' H' v d (R1.grow G.e1 G.e2 G.e3 G.fr G.tp) (e1.trans G.e1) r q⟩
theorem up1O {K : PySem.W.Frag} {g : G1O} {ts : DAV} {σ : L2.St} {H : Hp} {Q : VK} (h : upO K (d1O g ts) σ H Q) : upAV K ts σ H fun vs H1 => cNO K g vs H1 Q := by
  obtain ⟨F0, H0, P, δ, F, Q', R, ht, k⟩ := h
  refine ⟨F0, H0, P, δ, F, _, R, ht, fun δ1 F1 H1 vs xs R1 e1 ok ⟨ds, hd, ht⟩ => ?_⟩
  exact ⟨F1, ds, _, R1.std, R1.views (Ex.refl F1) ok hd, ht, fun F' H' p ho o G n1 n2 n3 r q =>
    let ⟨R3, hP⟩ := R1.growP G n1 n2 n3
    k δ1 F' H' p ho o R3 hP (e1.trans G.e1) r q⟩
section
variable {X : Cx} {K : PySem.W.Frag} {e a b c o : Expr} {es : List Expr} {tw tz : DV} {ts : DAV} {pos p : Pos} {g : G2} {go : G2O} {g1 : G1} {g1o : G1O} {x : Str} {id T : String}
theorem vvn : PA X [] (upAV K vNil) := zgt pa_nil fun σ H Q ⟨F0, H0, P, δ, F, Q', R, ht, k⟩ => k δ F H [] [] R (Ex.refl F) trivial ht
theorem vvc (he : PE X e (upV K tw)) (hr : PA X es (upAV K ts)) (hs : starEach (e :: es) X.env = (false, eval e X.env) :: starEach es X.env := by rfl) : PA X (e :: es) (upAV K (jn tw ts)) := zgt (pa_cons he hr hs) fun σ H Q ⟨F0, H0, P, δ, F, Q', R, ht, k⟩ => by
  refine ⟨F0, H0, P, δ, F, _, R, ht, fun δ1 F1 H1 v x R1 e1 ok ht => ?_⟩
  refine ⟨F0, H0, P, δ1, F1, _, R1, ht, fun δ2 F2 H2 vs xs R2 e2 oks ht => ?_⟩
  exact k δ2 F2 H2 (v :: vs) (x :: xs) R2 (e1.trans e2) (show VwOk K σ F2 v x ∧ zpp K σ F2 vs xs from ⟨ok.mono e2, oks⟩) ht
theorem pb2O {op : Operator} (hr : OpR X (binaryOp op) (rNO K go)) (ha : PE X a (upV K tw)) (hb : PE X b (upV K tz)) : PE X (.BinOp a op b pos) (upO K (d2VO go tw tz)) := pimp (pe_op hr ha hb) fun _ _ _ h => up2O h
theorem pcm {op : CmpOp} (hr : OpR X (compareOp op) (rN K g)) (ha : PE X a (upV K tw)) (hb : PE X b (upV K tz)) (hm : behindInMarks op b = false) : PE X (.Compare a [op] [b] pos) (upE K (d2VV g tw tz)) := pimp (pe_cmpR hr ha hb hm) fun _ _ _ h => up2N h
theorem qcm {op : CmpOp} (hr : OpR X (compareOp op) (rN K g)) (ha : PE X a (upV K tw)) (hb : PE X b (upV K tz)) (hm : behindInMarks op b = false) : PT X (.Compare a [op] [b] pos) (upT K (dTst (d2VV g tw tz))) :=
  zlf (pt_cmpR hr ha hb hm) fun σ H Q ⟨F0, H0, P, δ, F, Q', R, ht, k⟩ => by
    refine up2N (K := K) ⟨F0, H0, P, δ, F, _, R, ht, fun δ' F' H' v d R' e' r ⟨q, ed, ht⟩ => ?_⟩
    subst ed
    cases r
    exact ⟨q, rfl, k δ' F' H' q R' e' ht⟩
theorem pcb (hc : CallR X (.builtin id) (cN K g1)) (hg : Gl X x) (hm : X.mg x = none) (hv : bootBuiltins x = some (.builtin id)) (ha : PA X (e :: es) (upAV K ts)) (hn : x ≠ "__name__" := by decide) (hdb : (x == ("__debug__" : Str)) = false := by decide)
    (he : starEach (e :: es) X.env = (false, eval e X.env) :: starEach es X.env := by rfl) (hpl : (backTo pos (starEach es X.env)).any (·.1) = false := by rfl) : PE X (.Call (.Name x p) (e :: es) [] pos) (upE K (d1 g1 ts)) := pimp (pe_callB hc hg hm hv ha hn hdb he hpl) fun _ _ _ h => up1N h
theorem pcbO (hc : CallR X (.builtin id) (cNO K g1o)) (hg : Gl X x) (hm : X.mg x = none) (hv : bootBuiltins x = some (.builtin id)) (ha : PA X (e :: es) (upAV K ts)) (hn : x ≠ "__name__" := by decide) (hdb : (x == ("__debug__" : Str)) = false := by decide)
    (he : starEach (e :: es) X.env = (false, eval e X.env) :: starEach es X.env := by rfl) (hpl : (backTo pos (starEach es X.env)).any (·.1) = false := by rfl) : PE X (.Call (.Name x p) (e :: es) [] pos) (upO K (d1O g1o ts)) := pimp (pe_callB hc hg hm hv ha hn hdb he hpl) fun _ _ _ h => up1O h
theorem pct (hc : CallR X (.type T) (cN K g1)) (hg : Gl X x) (hm : X.mg x = none) (hv : bootBuiltins x = some (.type T)) (ha : PA X (e :: es) (upAV K ts)) (hn : x ≠ "__name__" := by decide) (hdb : (x == ("__debug__" : Str)) = false := by decide)
    (he : starEach (e :: es) X.env = (false, eval e X.env) :: starEach es X.env := by rfl) (hpl : (backTo pos (starEach es X.env)).any (·.1) = false := by rfl) : PE X (.Call (.Name x p) (e :: es) [] pos) (upE K (d1 g1 ts)) := pimp (pe_callTy hc hg hm hv ha hn hdb he hpl) fun _ _ _ h => up1N h
theorem pctO (hc : CallR X (.type T) (cNO K g1o)) (hg : Gl X x) (hm : X.mg x = none) (hv : bootBuiltins x = some (.type T)) (ha : PA X (e :: es) (upAV K ts)) (hn : x ≠ "__name__" := by decide) (hdb : (x == ("__debug__" : Str)) = false := by decide)
    (he : starEach (e :: es) X.env = (false, eval e X.env) :: starEach es X.env := by rfl) (hpl : (backTo pos (starEach es X.env)).any (·.1) = false := by rfl) : PE X (.Call (.Name x p) (e :: es) [] pos) (upO K (d1O g1o ts)) := pimp (pe_callTy hc hg hm hv ha hn hdb he hpl) fun _ _ _ h => up1O h
end
end Mv
namespace Mv
open PySem PySem.Spec PyProof.Rows L2
section
variable {X : Cx} {K : PySem.W.Frag}
def gEqP (neg : Bool) : G2 := fun x y Q => (Pure x ∧ Pure y ∧ Q (.bl (if neg then !eqvD x y else eqvD x y))) ∨
  (∃ ka kb, x = .dk ka ∧ y = .dk kb ∧ (∀ q ∈ ka, Pure q.2) ∧ (∀ q ∈ kb, Pure q.2) ∧ Q (.bl (if neg then !eqG ka kb else eqG ka kb))) ∨
  (∃ ka kb, x = .dt ka ∧ y = .dt kb ∧ (∀ q ∈ ka, Pure q.2) ∧ (∀ q ∈ kb, Pure q.2) ∧ Q (.bl (if neg then !eqG ka kb else eqG ka kb)))
def gEqA (neg : Bool) : G2 := fun x y Q => gEqP neg x y Q ∨ ∃ b, eqF x y = some b ∧ Q (.bl (if neg then !b else b))
theorem zvk {A : Around} {E : Value → Shared → Prop} {P : Program} {w : World} {s : Shared} {F H : Hp} (ok : HOk P w H s.heap) (st : Std F H) (hu : A.units + 80 < cLine) (hi : A.in1.units ≤ A.units + 8) {x y : V} {u v : Value} {d e : D} {neg : Bool} {Q' : D → Prop} {Q : Value → Shared → Prop}
    (vx : View K F H x d) (vy : View K F H y e) (rx : RelV x u) (ry : RelV y v) (g : gEqP neg d e Q') (k : ∀ b, Q' (.bl b) → Q (.bool b) s) : wpAny (model P w) A (compareOp (if neg then .NotEq else .Eq) u v) Q E s := by
  rcases g with ⟨⟨p, e1, s1⟩, ⟨q, e2, s2⟩, g⟩ | ⟨ka, kb, rfl, rfl, pu, pv, g⟩ | ⟨ka, kb, rfl, rfl, pu, pv, g⟩
  · obtain ⟨as, ra, _⟩ := vx.reads ok st e1 rx
    obtain ⟨bs, rb, _⟩ := vy.reads ok st e2 ry
    have hd : eqvD d e = PyData.eqv p q := by unfold eqvD; rw [e1, e2]
    cases neg with
    | false => exact SeqAt.compareEq_shaped ra rb s1 s2 (by omega) (k _ (by rw [← hd]; exact g))
    | true => exact SeqAt.compareNe_shaped ra rb s1 s2 (by omega) (k _ (by rw [← hd]; exact g))
  · obtain ⟨a, wa, rfl, ha, ga⟩ := vx.dk'
    obtain ⟨b, wb, rfl, hb, gb⟩ := vy.dk'
    cases rx; cases ry
    obtain ⟨_, na, va, xa, oa, es, ep, hoa, cxa, hda, kka, pa, _⟩ := ha.ok ok
    obtain ⟨_, nb, vb, xb, ob, es', ep', hob, cxb, hdb, kkb, pb, _⟩ := hb.ok ok
    have hits := zy9 (A := A.in1) (a := a) (b := b) ok st.ex st.lo (by omega) ga gb xa xb kka pa hob hdb kkb pb pu pv
    have lw : es.size = ka.length := by
      have h1 := pa.length; have h2 := xa.length; have h3 := ga.length
      rw [Array.length_toList] at h1; omega
    have lw' : es'.size = kb.length := by
      have h1 := pb.length; have h2 := xb.length; have h3 := gb.length
      rw [Array.length_toList] at h1; omega
    have er : (es.size == es'.size && (List.range' 0 es.size).all fun k => (fG ka kb k).isSome && eG ka kb k) = eqG ka kb := by rw [lw, lw']; exact zvj ka kb
    cases neg with
    | false => exact zp8 na nb hoa cxa hda hob cxb hdb (by omega) (fun _ => hits) (by rw [er]; exact k _ g)
    | true => exact zni na nb hoa cxa hda hob cxb hdb (by omega) (fun _ => hits) (by rw [er]; exact k _ g)
  · obtain ⟨a, wa, rfl, ha, ga⟩ := vx.dt'
    obtain ⟨b, wb, rfl, hb, gb⟩ := vy.dt'
    cases rx; cases ry
    obtain ⟨_, na, xa, qa, oa, es, ep, hoa, cxa, hda, ea, _⟩ := ha.ok ok
    obtain ⟨_, nb, xb, qb, ob, es', ep', hob, cxb, hdb, eb, nd⟩ := hb.ok ok
    have hits := zza (A := A.in1) (a := a) (b := b) ok st.ex st.lo (by omega) ga gb qa qb ea hob hdb eb nd pu pv
    have lw : es.size = ka.length := by
      have h1 := size_of_entries ea; have h2 := qa.length; have h3 := ga.length
      omega
    have lw' : es'.size = kb.length := by
      have h1 := size_of_entries eb; have h2 := qb.length; have h3 := gb.length
      omega
    have er : (es.size == es'.size && (List.range' 0 es.size).all fun k => (fG ka kb k).isSome && eG ka kb k) = eqG ka kb := by rw [lw, lw']; exact zvj ka kb
    cases neg with
    | false => exact zp8 na nb hoa cxa hda hob cxb hdb (by omega) (fun _ => hits) (by rw [er]; exact k _ g)
    | true => exact zni na nb hoa cxa hda hob cxb hdb (by omega) (fun _ => hits) (by rw [er]; exact k _ g)
theorem zlk {F H : Hp} {x y : V} {d e : D} {b : Bool} (vx : View K F H x d) (vy : View K F H y e) (h : eqF d e = some b) : Rep K F x d ∧ Rep K F y e := by
  cases vx with
  | flat r _ =>
    cases vy with
    | flat r2 _ => exact ⟨r, r2⟩
    | _ => cases d <;> cases h
  | _ => cases h
theorem zp9 (hu : X.A.units + 80 < cLine) (hi : X.A.in1.units ≤ X.A.units + 8 := by exact Nat.add_le_add_left (show 1 ≤ 8 by decide) _) : OpR X (compareOp .Eq) (rN X.K (gEqA false)) := by
  intro pins s σ H x y v u Q I rx ry ⟨F, dx, dy, Q', st, vx, vy, g, k⟩
  rcases g with g | ⟨b, hb, g⟩
  · exact zvk (neg := false) I.hok st hu hi vx vy rx ry g fun b q => ⟨.bl b, H, I, rfl, k F H _ _ (Grown.refl st) (.bl b) q⟩
  · obtain ⟨rp1, rp2⟩ := zlk vx vy hb
    obtain ⟨e1, e2⟩ := zvf rp1 rp2 hb
    exact op_eq pins s σ H x y v u Q I rx ry ⟨e1, by rw [e2]; exact k F H _ _ (Grown.refl st) (.bl b) g⟩
theorem zc7 (hu : X.A.units + 80 < cLine) (hi : X.A.in1.units ≤ X.A.units + 8 := by exact Nat.add_le_add_left (show 1 ≤ 8 by decide) _) : OpR X (compareOp .NotEq) (rN X.K (gEqA true)) := by
  intro pins s σ H x y v u Q I rx ry ⟨F, dx, dy, Q', st, vx, vy, g, k⟩
  rcases g with g | ⟨b, hb, g⟩
  · exact zvk (neg := true) I.hok st hu hi vx vy rx ry g fun b q => ⟨.bl b, H, I, rfl, k F H _ _ (Grown.refl st) (.bl b) q⟩
  · obtain ⟨rp1, rp2⟩ := zlk vx vy hb
    obtain ⟨e1, e2⟩ := zvf rp1 rp2 hb
    exact op_ne pins s σ H x y v u Q I rx ry ⟨e1, by rw [e2]; exact k F H _ _ (Grown.refl st) (.bl _) g⟩
def gCat : G2O := fun x y Q => ∃ xs ys, x = .lst xs ∧ y = .lst ys ∧ xs.length + ys.length ≤ sizeLine ∧ Q (.lst (xs ++ ys))
theorem zqa {H : Hp} {pins : List (Addr × Obj)} {σ : L2.St} {s : Shared} {a : Addr} {vs : List V} (I : Inv X pins σ H s) (e : Rd H a (.lst vs)) : vs.length ≤ sizeLine ∧ ∃ (its : List Value) (n : Nat), Vals vs its ∧ vs.length = its.length ∧ s.heap.get? a = some { cls := .type "list", data := .seq its.toArray n } := by
  obtain ⟨z, its, n, r, h⟩ := e.ok I.hok
  exact ⟨z, its, n, r, r.length, h⟩
theorem zzb : OpR X (binaryOp .Add) (rNO X.K gCat) := by
  intro pins s σ H x y v u Q I rx ry h
  obtain ⟨F, dx, dy, Q', st, vx, vy, ⟨xs, ys, rfl, rfl, hz, g⟩, k⟩ := h
  obtain ⟨l, vs, rfl, hl, rl⟩ := vx.lst'
  obtain ⟨b, ws, rfl, hb, rb⟩ := vy.lst'
  cases rx; cases ry
  obtain ⟨z, its, n, r, hl1, e⟩ := zqa I hl
  obtain ⟨z2, its2, n2, r2, hl2, e2⟩ := zqa I hb
  have l1 := rl.length
  have l2 := rb.length
  refine PySem.P.add_list e e2 ?_ (by rw [List.size_toArray, List.size_toArray]; omega)
  have ea : its.toArray ++ its2.toArray = (its ++ its2).toArray := by simp
  rw [ea]
  refine ⟨.ref _, _, I.lnew (t' := s.toks) (r.append r2) (by rw [List.length_append]; omega), rfl, ?_⟩
  exact k F _ _ _ (.lst (xs ++ ys)) (Grown.newO st I.fresh) I.fresh upd_same (st.ex.nn I.fresh) ⟨_, upd_same, rl.app rb⟩ g
theorem RepL.rep {F : Hp} {vs : List V} {ds : List D} (r : RepL K F vs ds) : ∀ n : Nat, RepL K F (List.replicate n vs).flatten (List.replicate n ds).flatten
  | 0 => .nil
  | n + 1 => by
    rw [List.replicate_succ, List.replicate_succ, List.flatten_cons, List.flatten_cons]
    exact r.app (RepL.rep r n)
def dRep (to : DOw) (tb : DE) : DOw := fun δ Q => to δ fun δ1 o => tb δ1 fun δ2 y => ∃ xs i, o = .lst xs ∧ y = .int i ∧ -(2 ^ 63) ≤ i ∧ i < 2 ^ 63 ∧ xs.length * i.toNat ≤ sizeLine ∧ Q δ2 (.lst (List.replicate i.toNat xs).flatten)
theorem z1a {a b : Expr} {pos : Pos} {to : DOw} {tb : DE} (ha : PE X a (upO K to)) (hb : PE X b (upE K tb)) : PE X (.BinOp a .Mult b pos) (upO K (dRep to tb)) := pimp (pe_op op_rep ha hb) fun σ H Q ⟨F0, H0, P, δ, F, Q', R, ht, k⟩ => by
  refine ⟨F0, H0, P, δ, F, _, R, ht, fun δ1 F1 H1 p ho o R1 hP e1 oa ht => ?_⟩
  refine ⟨F0, H0, _, δ1, F1, _, R1, ht, fun δ2 F2 H2 y dy R2 e2 ry ⟨xs, i, eo, ey, h1, h2, hz, q⟩ => ?_⟩
  subst eo ey
  cases ry
  obtain ⟨vs, hv, rs⟩ := oa
  have e0 : ho = .lst vs := by
    have := (R1.rsv p ho (by simp)).2.2
    rw [hv] at this; exact (Option.some.inj this).symm
  subst e0
  have l1 := rs.length
  refine ⟨p, i, vs, rfl, rfl, (R2.rsv p _ (by simp)).2.2, h1, h2, by rw [l1]; exact hz, fun p2 hp2 => ?_⟩
  have R3 : RepS K F0 H0 P δ2 σ F2 H2 := R2.unP fun q hq => by simp [hq]
  exact k δ2 F2 _ p2 _ (.lst _) (R3.newP hp2) (R3.fresh hp2) (e1.trans e2) ⟨_, upd_same, (rs.mono e2).rep _⟩ q
theorem View.int' {F H : Hp} {v : V} {i : Int} (h : View K F H v (.int i)) : v = .int i := by
  cases h with
  | flat r e => cases r; rfl
theorem View.bl' {F H : Hp} {v : V} {i : Bool} (h : View K F H v (.bl i)) : v = .bl i := by
  cases h with
  | flat r e => cases r; rfl
def gAbs : G1 := fun ds Q => ∃ i, ds = [.int i] ∧ Q (.int (if i < 0 then -i else i))
theorem zue : CallR X (.builtin "abs") (cN K gAbs) := by
  intro pins s σ H xs us Q I r h
  obtain ⟨F, ds, Q', st, vw, ⟨i, rfl, g⟩, k⟩ := h
  cases vw with
  | cons v1 t => cases t; cases v1.int'; exact call_abs pins s σ H _ us Q I r ⟨i, rfl, k F H _ _ (Grown.refl st) (.int _) g⟩
def gInt : G1 := fun ds Q => (∃ i, ds = [.int i] ∧ Q (.int i)) ∨ ∃ b, ds = [.bl b] ∧ Q (.int (if b then 1 else 0))
theorem zym : CallR X (.type "int") (cN K gInt) := by
  intro pins s σ H xs us Q I r h
  obtain ⟨F, ds, Q', st, vw, ⟨i, rfl, g⟩ | ⟨i, rfl, g⟩, k⟩ := h
  · cases vw with
    | cons v1 t => cases t; cases v1.int'; exact call_int1 pins s σ H _ us Q I r (.inl ⟨i, rfl, k F H _ _ (Grown.refl st) (.int _) g⟩)
  · cases vw with
    | cons v1 t => cases t; cases v1.bl'; exact call_int1 pins s σ H _ us Q I r (.inr ⟨i, rfl, k F H _ _ (Grown.refl st) (.int _) g⟩)
def zjv : List D → Option (List Int)
  | [] => some []
  | .int i :: ds => (zjv ds).map (i :: ·)
  | _ => none
theorem znk : ∀ ns : List Int, zjv (ns.map D.int) = some ns
  | [] => rfl
  | n :: ns => by simp [zjv, znk ns]
theorem znl {F : Hp} : ∀ {vs : List V} {ds : List D} {ns : List Int}, RepL K F vs ds → zjv ds = some ns → vs = ns.map V.int
  | _, _, _, .nil, h => by cases h; rfl
  | _, .int i :: ds, _, .cons r t, h => by
    cases r
    simp only [zjv, Option.map_eq_some_iff] at h
    obtain ⟨ns, h, rfl⟩ := h
    rw [znl t h]; rfl
def gSum : G1 := fun ds Q => ∃ xs ns, ds = [.lst xs] ∧ zjv xs = some ns ∧ Q (.int ns.sum)
theorem zuf (hc : X.calm = true) : CallR X (.builtin "sum") (cN X.K gSum) := by
  intro pins s σ H xs us Q I r h
  obtain ⟨F, ds, Q', st, vw, ⟨xs, ns, rfl, hn, g⟩, k⟩ := h
  cases vw with
  | cons v1 t =>
    cases t
    obtain ⟨a, vs, rfl, hs, rs⟩ := v1.lst'
    obtain rfl := znl rs hn
    exact cr_sum hc pins s σ H _ us Q I r ⟨a, ns, rfl, .inl hs, k F H _ _ (Grown.refl st) (.int _) g⟩
def zll : G1O := fun ds Q => (∃ xs, (ds = [.lst xs] ∨ ds = [.tup xs]) ∧ Q (.lst xs)) ∨ (∃ kvs, ds = [.dk kvs] ∧ Q (.lst (kvs.map fun kv => keyD kv.1)))
theorem zvl (hc : X.calm = true) : CallR X (.type "list") (cNO X.K zll) := by
  intro pins s σ H xs us Q I r h
  obtain ⟨F, ds, Q', st, vw, g, k⟩ := h
  rcases g with ⟨xs, e | e, g⟩ | ⟨kvs, e, g⟩
  · subst e
    cases vw with
    | cons v1 t =>
      cases t
      obtain ⟨a, vs, rfl, hs, rs⟩ := v1.lst'
      exact call_list_of pins s σ H _ us Q I r ⟨a, vs, rfl, .inl (.inl hs), fun p hp => k F _ p _ (.lst xs) (Grown.newO st hp) hp upd_same (st.ex.nn hp) ⟨_, upd_same, rs⟩ g⟩
  · subst e
    cases vw with
    | cons v1 t =>
      cases t
      obtain ⟨a, vs, rfl, hs, rs⟩ := v1.tup'
      exact call_list_of pins s σ H _ us Q I r ⟨a, vs, rfl, .inr (.inl (.inl hs)), fun p hp => k F _ p _ (.lst xs) (Grown.newO st hp) hp upd_same (st.ex.nn hp) ⟨_, upd_same, rs⟩ g⟩
  · subst e
    cases vw with
    | cons v1 t =>
      cases t
      obtain ⟨a, ws, rfl, hs, rs⟩ := v1.dk'
      have e : (ws.map fun kv => kV kv.1) = (kvs.map fun kv => kV kv.1) := by
        have := congrArg (List.map kV) rs.keys
        simpa [List.map_map, Function.comp_def] using this
      have e2 : (kvs.map fun kv => kV kv.1) = (kvs.map (·.1)).map kV := by simp
      have e3 : (kvs.map fun kv => keyD kv.1) = (kvs.map (·.1)).map keyD := by simp
      refine call_listD hc pins s σ H _ us Q I r ⟨a, ws, rfl, hs, fun p hp => k F _ p _ (.lst _) (Grown.newO st hp) hp upd_same (st.ex.nn hp) ⟨_, upd_same, ?_⟩ g⟩
      rw [e, e2, e3]
      exact zbw _
def zjw : G1 := fun ds Q => ∃ xs, (ds = [.lst xs] ∨ ds = [.tup xs]) ∧ Q (.tup xs)
theorem zs9 : CallR X (.type "tuple") (cN X.K zjw) := by
  intro pins s σ H xs us Q I r h
  obtain ⟨F, ds, Q', st, vw, ⟨xs, e | e, g⟩, k⟩ := h
  · subst e
    cases vw with
    | cons v1 t =>
      cases t
      obtain ⟨a, vs, rfl, hs, rs⟩ := v1.lst'
      exact call_tuple_of pins s σ H _ us Q I r ⟨a, vs, rfl, .inl ⟨.inl hs, fun p hp =>
        have G := Grown.newF st (o := .tup vs) hp
        k _ _ _ _ G (.tup upd_same (rs.mono G.e1)) g⟩⟩
  · subst e
    cases vw with
    | cons v1 t =>
      cases t
      cases v1 with
      | flat r1 e => cases r1 with
        | @tup a vs _ h1 rs => exact call_tuple_of pins s σ H _ us Q I r ⟨a, vs, rfl, .inr ⟨.inl (.inl (st.ex _ _ h1)), k F H _ _ (Grown.refl st) (.tup h1 rs) g⟩⟩
end
end Mv
namespace Mv
open PySem PySem.Spec PyProof.Rows L2
def toPD (d : D) : PyData := (toP d).getD .none
def zch (ds : List D) : List D := ds.mergeSort (PySem.W.dataLe false toPD)
structure SortOk (ds : List D) : Prop where
  pu : ∀ d ∈ ds, Pure d
  al : PySem.W.AllAlike (ds.map toPD)
  so : PySem.W.Sortable (ds.map toPD)
  sz : ds.length ≤ sizeLine
mutual
theorem reads_in {h : Heap} : ∀ {v : Value} {d : PyData} {as : List Addr}, Reads h v d as → ∀ a ∈ as, a < h.objs.size
  | _, _, _, .none, a, ha => by simp at ha
  | _, _, _, .bool _, a, ha => by simp at ha
  | _, _, _, .int _ _, a, ha => by simp at ha
  | _, _, _, .str _ _, a, ha => by simp at ha
  | _, _, _, .list h1 _ _ h4, a, ha => by
    rcases List.mem_cons.mp ha with rfl | ha
    · exact Heap.lt_size h1
    · exact readsAll_in h4 a ha
  | _, _, _, .tuple _ _ _ h4, a, ha => readsAll_in h4 a ha
  | _, _, _, .dict h1 _ _ h4 h5, a, ha => by
    rcases List.mem_append.mp ha with ha | ha
    · rcases List.mem_cons.mp ha with rfl | ha
      · exact Heap.lt_size h1
      · exact readsAll_in h4 a ha
    · exact readsAll_in h5 a ha
theorem readsAll_in {h : Heap} : ∀ {v : List Value} {d : List PyData} {as : List Addr}, ReadsAll h v d as → ∀ a ∈ as, a < h.objs.size
  | _, _, _, .nil, a, ha => by simp at ha
  | _, _, _, .cons h1 h2, a, ha => by
    rcases List.mem_append.mp ha with ha | ha
    · exact reads_in h1 a ha
    · exact readsAll_in h2 a ha
end
def zin (K : PySem.W.Frag) (F : Hp) (v : Value) (d : D) : Prop := ∃ x, RelV x v ∧ Rep K F x d
theorem zgy {K : PySem.W.Frag} {F : Hp} : ∀ {vs : List V} {us : List Value} {ds : List D}, Vals vs us → RepL K F vs ds → PySem.W.EachIs (zin K F) us ds
  | _, _, _, .nil, .nil => .nil
  | _, _, _, .cons a b, .cons r t => .cons ⟨_, a, r⟩ (zgy b t)
theorem zfm {K : PySem.W.Frag} {F : Hp} : ∀ {us : List Value} {ds : List D}, PySem.W.EachIs (zin K F) us ds → ∃ vs, Vals vs us ∧ RepL K F vs ds
  | _, _, .nil => ⟨[], .nil, .nil⟩
  | _, _, .cons ⟨x, a, r⟩ t => by
    obtain ⟨vs, b, rs⟩ := zfm t
    exact ⟨x :: vs, .cons a b, .cons r rs⟩
theorem zgz {K : PySem.W.Frag} {F H : Hp} {h h' : Heap} {P : Program} {w : World} {a : Addr} (ok : HOk P w H h) (st : Std F H) (kp : ∀ b o, h.get? b = some o → h'.get? b = some o) (ha : h.objs.size ≤ a) : ∀ {us : List Value} {ds : List D}, PySem.W.EachIs (zin K F) us ds → (∀ d ∈ ds, Pure d) →
    PySem.W.EachIs (fun v b => ∃ as, Reads h' v (toPD b) as ∧ a ∉ as) us ds
  | _, _, .nil, _ => .nil
  | _, d :: ds, .cons ⟨x, r, rp⟩ t, pu => by
    obtain ⟨p, e, _⟩ := pu d (by simp)
    obtain ⟨as, ra, _⟩ := rp.reads ok st.ex st.lo e r
    have e2 : toPD d = p := by unfold toPD; rw [e]; rfl
    refine .cons ⟨as, by rw [e2]; exact PyProof.Rows.Reads.keeps kp ra, fun z => ?_⟩ (zgz ok st kp ha t fun d hd => pu d (by simp [hd]))
    exact absurd (reads_in ra a z) (Nat.not_lt.mpr ha)
section
variable {X : Cx} {K : PySem.W.Frag}
theorem zsn {pins : List (Addr × Obj)} {σ : L2.St} {F H : Hp} {s : Shared} {u : Value} {ds : List D} {Q : VK} (I : Inv X pins σ H s) (st : Std F H) (ok : SortOk ds) (hu : X.A.units + 200 < cLine) (hin : X.A.in1.units ≤ X.A.units + 8)
    (hcol : ∀ R : List Value → Shared → Prop, (∀ h' tk acc vs, (∀ b o, s.heap.get? b = some o → h'.get? b = some o) → Vals vs acc → RepL X.K F vs ds → R acc { s with heap := h', toks := tk }) → wpAny (model X.prog X.w) X.A.in1 (collect u) R X.xe s)
    (k : ∀ p vs, H p = none → RepL X.K F vs (zch ds) → Q (.ref p) (upd H p (.lst vs))) : wpAny (model X.prog X.w) X.A (call (.builtin "sorted") [u]) (EP X pins σ Q) X.xe s := by
  refine Calls.call_function_entry PyProof.Rows.kind_sorted PyProof.Rows.plain_sorted PyProof.Rows.entry_sorted (PyProof.Rows.args_sorted1 _) ?_
  unfold Builtin.«sorted»
  refine wpAny_bind (m := checkCount "sorted" 1 1 _) (wpAny_pure ?_)
  refine wpAny_bind (hcol _ fun h' tk acc vs hk rv rs => ?_)
  have I1 : Inv X pins σ H { s with heap := h', toks := tk } := I.kept hk
  have hl : acc.length = ds.length := by rw [← rv.length, rs.length]
  refine wpAny_bind (wpAny_newList ?_ (by rw [hl]; exact ok.sz))
  have hoL : (h'.push (seqObj "list" acc.toArray 0)).get? h'.objs.size = some (seqObj "list" acc.toArray 0) := Heap.get?_push_size _ rfl
  show wpAny _ _ _ _ _ { s with heap := h'.push (seqObj "list" acc.toArray 0), toks := tk }
  have es := zgy rv rs
  have er := zgz (h' := h'.push (seqObj "list" acc.toArray 0)) (a := h'.objs.size) I1.hok st (fun b o e => Heap.get?_push_of_some _ e) (Nat.le_refl _) es ok.pu
  refine wpAny_bind (wpAny_holding (PySem.W.list_sort_data (s := { s with heap := h'.push (seqObj "list" acc.toArray 0), toks := tk }) hoL es er ok.al ok.so ok.sz (fun d hd => ?_) fun out h1 h2 => ?_))
  · obtain ⟨p, e, sh⟩ := ok.pu d hd
    have e2 : toPD d = p := by unfold toPD; rw [e]; rfl
    have := SeqAt.depth_of_shaped sh
    rw [e2]; omega
  · obtain ⟨e', he'⟩ := PyProof.Rows.sortedHeap_at (vs := acc) (out := out.toArray) hoL
    obtain ⟨vs', rv', rs'⟩ := zfm h2
    have hlen : vs'.length ≤ sizeLine := by rw [rv'.length, h1]; exact ok.sz
    have hn : H h'.objs.size = none := I1.hok.fresh (Nat.le_refl _)
    refine wpAny_pure ⟨_, rfl, .ref h'.objs.size, upd H h'.objs.size (.lst vs'), I1.laid (t' := tk) (fun b u e => ?_) (Nat.le_refl _)
      (show ObjOk X.prog X.w _ _ _ (.lst vs') from ⟨hlen, out, e', rv', he'⟩), rfl, k _ vs' hn rs'⟩
    have hb : b < h'.objs.size := Heap.lt_size e
    show (sortedHeap (h'.push (seqObj "list" acc.toArray 0)) h'.objs.size acc out.toArray).get? b = some u
    rw [PyProof.Rows.sortedHeap_old (Nat.ne_of_lt hb) (by rw [size_push']; exact Nat.lt_succ_of_lt hb)]
    exact Heap.get?_push_of_some _ e
def srcD : D → Option (List D)
  | .lst xs => some xs
  | .tup xs => some xs
  | .dk kvs => some (kvs.map fun kv => keyD kv.1)
  | .dt kvs => some (kvs.map fun kv => D.tup (kv.1.map keyD))
  | _ => none
theorem zta {P : Program} {w : World} {F : Hp} : ∀ {es : List DictEntry} {vs : List (Key × Value)}, Pairs (mixKind P w) es vs → Vals ((vs.map (·.1)).map kV) (es.map (·.key))
  | _, _, .nil => .nil
  | _, (k, x) :: _, .cons h1 h2 t => .cons (by
      rcases keyIs_shape h1 with ⟨i, t, e, e2⟩ | ⟨z, t, e, e2⟩
      · simp only at e; subst e; exact ⟨t, e2⟩
      · simp only at e; subst e; exact ⟨t, e2⟩) (zta (F := F) t)
theorem ztb {P : Program} {w : World} {F H : Hp} (st : Std F H) : ∀ {ws : List (List Key × V)} {xs : List (List Key × Addr × Value)}, KT H ws xs →
    ∃ vs, Vals vs ((xs.map (entryOfKey (tupleKind (mixKind P w)))).map (·.key)) ∧ RepL K F vs ((ws.map (·.1)).map fun k => D.tup (k.map keyD))
  | _, _, .nil => ⟨[], .nil, .nil⟩
  | _, _, .cons ⟨e, ht, r⟩ t => by
    obtain ⟨vs, a, b⟩ := ztb (P := P) (w := w) st t
    exact ⟨.ref _ :: vs, .cons (show RelV (.ref _) (.ref _) from rfl) a, .cons (.tup (st.tp _ _ ht) (zbw _)) b⟩
theorem zqb {es : Array DictEntry} {acc : Array Value} (h : ItemsOf (fun i v => ∃ en : DictEntry, es[i]? = some en ∧ v = en.key) acc es.size) : acc.toList = es.toList.map (·.key) := by
  apply List.ext_getElem?
  intro i
  rw [List.getElem?_map, Array.getElem?_toList, Array.getElem?_toList]
  by_cases hi : i < es.size
  · have hi2 : i < acc.size := by rw [h.1]; exact hi
    obtain ⟨en, e1, e2⟩ := h.2 i _ (Array.getElem?_eq_getElem hi2)
    rw [e1, Array.getElem?_eq_getElem hi2, e2]; rfl
  · rw [Array.getElem?_eq_none (by rw [h.1]; omega), Array.getElem?_eq_none (by omega)]; rfl
theorem zso {pins : List (Addr × Obj)} {σ : L2.St} {F H : Hp} {s : Shared} {v : V} {u : Value} {d : D} {ds : List D} {A : Around} (I : Inv X pins σ H s) (hh : A.handled = none) (st : Std F H) (vw : View X.K F H v d) (e : srcD d = some ds) (hz : ds.length ≤ sizeLine) (r : RelV v u) (R : List Value → Shared → Prop)
    (h : ∀ h' tk acc vs, (∀ b o, s.heap.get? b = some o → h'.get? b = some o) → Vals vs acc → RepL X.K F vs ds → R acc { s with heap := h', toks := tk }) {E : Value → Shared → Prop} : wpAny (model X.prog X.w) A (collect u) R E s := by
  unfold srcD at e
  split at e
  · cases e
    obtain ⟨a, vs, rfl, hs, rs⟩ := vw.lst'
    cases r
    obtain ⟨z, its, n, rv, hl, ho⟩ := zqa I hs
    exact wpAny_collect_seq a (.inl rfl) ho rfl rfl (fun h' hk => h h' s.toks _ vs hk (by simpa using rv) rs) (by rw [List.size_toArray, ← hl]; exact z)
  · cases e
    obtain ⟨a, vs, rfl, hs, rs⟩ := vw.tup'
    cases r
    obtain ⟨its, o, n, rv, h1, h2, h3⟩ := zim I.hok hs
    exact wpAny_collect_seq a (.inr rfl) h1 h2 h3 (fun h' hk => h h' s.toks _ vs hk (by simpa using rv) rs) (by rw [List.size_toArray, ← rv.length, rs.length]; exact hz)
  · cases e
    obtain ⟨a, ws, rfl, hs, rs⟩ := vw.dk'
    cases r
    obtain ⟨_, na, va, xa, oa, es, ep, hoa, cxa, hda, kka, pa, _⟩ := hs.ok I.hok
    have lw : es.size = ws.length := by
      have h1 := pa.length; have h2 := xa.length
      rw [Array.length_toList] at h1; omega
    have hn : es.size ≤ sizeLine := by rw [lw, rs.length]; simpa using hz
    refine PySem.W.kdu_collect (kdl_raw na cxa hda) hh hoa hn fun h' tk acc hk hacc => ?_
    rw [zqb hacc]
    have hv := zta (F := F) pa
    have e1 : (va.map (·.1)) = ws.map (·.1) := (paired_keys xa).1.symm
    have e3 : ∀ kvs : List (Key × D), (kvs.map fun kv => keyD kv.1) = (kvs.map (·.1)).map keyD := fun _ => by simp
    refine h h' tk _ _ hk hv ?_
    rw [e1, rs.keys, e3]
    exact zbw _
  · cases e
    obtain ⟨a, ws, rfl, hs, rs⟩ := vw.dt'
    cases r
    obtain ⟨_, na, xa, qa, oa, es, ep, hoa, cxa, hda, ea, _⟩ := hs.ok I.hok
    have lw : es.size = ws.length := by
      have h1 := size_of_entries ea; have h2 := qa.length
      omega
    have hn : es.size ≤ sizeLine := by rw [lw, rs.length]; simpa using hz
    refine PySem.W.kdu_collect (kdl_raw na cxa hda) hh hoa hn fun h' tk acc hk hacc => ?_
    rw [zqb hacc, ea]
    obtain ⟨vs, hv, rv⟩ := ztb (K := X.K) (P := X.prog) (w := X.w) st qa
    have e3 : ∀ kvs : List (List Key × D), (kvs.map fun kv => D.tup (kv.1.map keyD)) = (kvs.map (·.1)).map fun k => D.tup (k.map keyD) := fun _ => by simp
    refine h h' tk _ _ hk hv ?_
    rw [e3, ← rs.keys]
    exact rv
  · cases e
def uq : G1O := fun ds Q => ∃ d xs, ds = [d] ∧ srcD d = some xs ∧ SortOk xs ∧ Q (.lst (zch xs))
theorem y2 (hc : X.calm = true) (hu : X.A.units + 200 < cLine) (hin : X.A.in1.units ≤ X.A.units + 8 := by exact Nat.add_le_add_left (show 1 ≤ 8 by decide) _) (hh : X.A.in1.handled = X.A.handled := by rfl) : CallR X (.builtin "sorted") (cNO X.K uq) := by
  intro pins s σ H xs us Q I r h
  obtain ⟨F, ds, Q', st, vw, ⟨d, xs, rfl, hs, ok, g⟩, k⟩ := h
  cases vw with
  | cons v1 t =>
    cases t
    obtain ⟨u, rfl, ru⟩ := vals1 r
    exact zsn I st ok hu hin (fun R hR => zso I (hh.trans (I.ok.hd hc)) st v1 hs ok.sz ru R hR) fun p vs hp rv => k F _ p _ (.lst _) (Grown.newO st hp) hp upd_same (st.ex.nn hp) ⟨vs, upd_same, rv⟩ g
end
end Mv
namespace Mv
open PySem PySem.Spec PyProof.Rows L2
section
variable {K : PySem.W.Frag} {F0 H0 F H F' H' : Hp} {P : Pl} {δ : Dl} {σ : L2.St}
theorem RepS.congrP {Q : Pl} (R : RepS K F0 H0 P δ σ F H) (h : ∀ q, q ∈ Q ↔ q ∈ P) : RepS K F0 H0 Q δ σ F H := R.unP fun q hq => (h q).mp hq
inductive MixL (K : PySem.W.Frag) (F H : Hp) : List V → List S → Pl → Prop
  | nil : MixL K F H [] [] []
  | fz {v : V} {d : D} {vs : List V} {ss : List S} {P : Pl} : Rep K F v d → MixL K F H vs ss P → MixL K F H (v :: vs) (.fz d :: ss) P
  | own {p : Addr} {ho : HO} {o : O} {vs : List V} {ss : List S} {P : Pl} : OwnAt K F H p o → MixL K F H vs ss P → MixL K F H (.ref p :: vs) (.own o :: ss) ((p, ho) :: P)
def zc8 : Dl → List Nat → List S → Dl
  | δ, i :: is, s :: ss => zc8 (δ.set i (some s)) is ss
  | δ, _, _ => δ
def zug : L2.St → List Nat → List V → L2.St
  | σ, i :: is, v :: vs => zug (σ.set i (some v)) is vs
  | σ, _, _ => σ
theorem RepS.setMix {vs : List V} {ss : List S} {P' : Pl} (m : MixL K F H vs ss P') : ∀ {is : List Nat} {δ : Dl} {σ : L2.St}, RepS K F0 H0 (P' ++ P) δ σ F H → (pk P').Nodup ∧ (∀ p ∈ pk P', p ∉ pk P) → is.length = vs.length →
    RepS K F0 H0 P (zc8 δ is ss) (zug σ is vs) F H := by
  induction m with
  | nil =>
    intro is δ σ R _ hl
    cases is with
    | nil => exact R
    | cons i is => exact absurd hl (by simp)
  | fz r m ih =>
    intro is δ σ R nd hl
    cases is with
    | nil => exact absurd hl (by simp)
    | cons i is => exact ih (R.setF i r) nd (by simpa using hl)
  | @own p ho o vs ss P'' oa m ih =>
    intro is δ σ R nd hl
    cases is with
    | nil => exact absurd hl (by simp)
    | cons i is =>
      obtain ⟨n1, n2⟩ := nd
      have n1 : (p :: pk P'').Nodup := n1
      have h2 := List.nodup_cons.mp n1
      have np : p ∉ pk (P'' ++ P) := fun z => by
        have z : p ∈ pk P'' ++ pk P := by simpa [pk] using z
        rcases List.mem_append.mp z with z | z
        · exact h2.1 z
        · exact n2 p (List.mem_cons_self ..) z
      exact ih (RepS.setO R np i oa) ⟨h2.2, fun q hq => n2 q (List.mem_cons_of_mem _ hq)⟩ (by simpa using hl)
end
abbrev DM := Dl → (Dl → List S → Prop) → Prop
def upAM (K : PySem.W.Frag) (t : DM) : TA := fun σ H Q => ∃ F0 H0 P δ F Q', RepS K F0 H0 P δ σ F H ∧ t δ Q' ∧ ∀ δ' F' H' P' vs ss, RepS K F0 H0 (P' ++ P) δ' σ F' H' → MixL K F' H' vs ss P' → (pk P').Nodup ∧ (∀ p ∈ pk P', p ∉ pk P) → Ex F F' → Q' δ' ss → Q vs H'
def zd1 : DM := fun δ Q => Q δ []
def dmF (te : DE) (ts : DM) : DM := fun δ Q => te δ fun δ1 d => ts δ1 fun δ2 ss => Q δ2 (.fz d :: ss)
def dmO (to : DOw) (ts : DM) : DM := fun δ Q => to δ fun δ1 o => ts δ1 fun δ2 ss => Q δ2 (.own o :: ss)
section
variable {X : Cx} {K : PySem.W.Frag} {e a b c o : Expr} {es : List Expr} {te : DE} {to : DOw} {tm : DM} {tw : DV} {pos p apos cpos : Pos}
theorem mmn : PA X [] (upAM K zd1) := zgt pa_nil fun σ H Q ⟨F0, H0, P, δ, F, Q', R, ht, k⟩ => k δ F H [] [] [] R .nil ⟨List.nodup_nil, fun _ h => nomatch h⟩ (Ex.refl F) ht
theorem mmf (he : PE X e (upE K te)) (hr : PA X es (upAM K tm)) (hs : starEach (e :: es) X.env = (false, eval e X.env) :: starEach es X.env := by rfl) : PA X (e :: es) (upAM K (dmF te tm)) := zgt (pa_cons he hr hs) fun σ H Q ⟨F0, H0, P, δ, F, Q', R, ht, k⟩ => by
  refine ⟨F0, H0, P, δ, F, _, R, ht, fun δ1 F1 H1 x dx R1 e1 rx ht => ?_⟩
  refine ⟨F0, H0, P, δ1, F1, _, R1, ht, fun δ2 F2 H2 P' vs ss R2 m nd e2 ht => ?_⟩
  exact k δ2 F2 H2 P' (x :: vs) _ R2 (.fz (rx.mono e2) m) nd (e1.trans e2) ht
theorem mmo (he : PE X e (upO K to)) (hr : PA X es (upAM K tm)) (hs : starEach (e :: es) X.env = (false, eval e X.env) :: starEach es X.env := by rfl) : PA X (e :: es) (upAM K (dmO to tm)) := zgt (pa_cons he hr hs) fun σ H Q ⟨F0, H0, P, δ, F, Q', R, ht, k⟩ => by
  refine ⟨F0, H0, P, δ, F, _, R, ht, fun δ1 F1 H1 p ho o R1 hP e1 oa ht => ?_⟩
  refine ⟨F0, H0, _, δ1, F1, _, R1, ht, fun δ2 F2 H2 P' vs ss R2 m nd e2 ht => ?_⟩
  have hH : H2 p = some ho := (R2.rsv p ho (by simp)).2.2
  have hH1 : H1 p = some ho := (R1.rsv p ho (by simp)).2.2
  have np : p ∉ pk P' := fun z => nd.2 p z (List.mem_cons_self ..)
  refine k δ2 F2 H2 ((p, ho) :: P') (.ref p :: vs) _ (R2.congrP fun q => ?_) (.own (oa.mono e2 (hH1.trans hH.symm)) m) ⟨List.nodup_cons.mpr ⟨np, nd.1⟩, fun q hq => ?_⟩ (e1.trans e2) ht
  · simp only [List.cons_append, List.mem_cons, List.mem_append]
    constructor
    · rintro (h | h | h)
      · exact .inr (.inl h)
      · exact .inl h
      · exact .inr (.inr h)
    · rintro (h | h | h)
      · exact .inr (.inl h)
      · exact .inl h
      · exact .inr (.inr h)
  · rcases List.mem_cons.mp hq with e | hq
    · rw [e]; exact hP
    · exact fun z => nd.2 q hq (List.mem_cons_of_mem _ z)
theorem MixL.length {F H : Hp} {vs : List V} {ss : List S} {P : Pl} (m : MixL K F H vs ss P) : vs.length = ss.length := by
  induction m with
  | nil => rfl
  | fz _ _ ih => simp [ih]
  | own _ _ ih => simp [ih]
def dPar (is : List Nat) (tm : DM) : DS := fun D δ => tm δ fun δ1 ss => ss.length = is.length ∧ D.nx (zc8 δ1 is ss)
theorem zf5 {i j : Nat} {x y : Str} {px py pt : Pos} {kt k2 pt2} (hc : X.calm = true) (hN : X.N.Nodup) (hi : X.N[i]? = some x) (hj : X.N[j]? = some y) (hij : i ≠ j)
    (hx : X.env.scope.names.lookup x = some .local) (hy : X.env.scope.names.lookup y = some .local) (ha : PA X [a, b] (upAM K tm))
    (hw : swappedStores [.Tuple [.Name x px, .Name y py] kt pt] (.Tuple [a, b] k2 pt2) X.env = pure (some [x, y]))
    (hs : swapsWithSole [.Tuple [.Name x px, .Name y py] kt pt] (.Tuple [a, b] k2 pt2) pos.line X.env = pure false := by rfl) :
    PS X (.Assign [.Tuple [.Name x px, .Name y py] kt pt] (.Tuple [a, b] k2 pt2) pos) (upS K (dPar [i, j] tm)) := vu (ps_par hc hN hi hj hij hx hy ha hw hs) fun D σ H ⟨F0, H0, δ, F, D', W⟩ => by
  refine ⟨F0, H0, [], δ, F, _, W.rep, W.t, fun δ1 F1 H1 P' vs ss R1 m nd e1 ⟨hl, q⟩ => ?_⟩
  have hv : vs.length = 2 := by rw [m.length, hl]; rfl
  obtain ⟨v, u, rfl⟩ : ∃ v u, vs = [v, u] := by
    match vs, hv with
    | [v, u], _ => exact ⟨v, u, rfl⟩
  exact ⟨v, u, rfl, W.nx _ _ F1 H1 (RepS.setMix m (is := [i, j]) R1 nd rfl) e1 q⟩
theorem zzc {i j l : Nat} {x y z : Str} {px py pz pt : Pos} {kt k2 pt2} (hc : X.calm = true) (hN : X.N.Nodup) (hi : X.N[i]? = some x) (hj : X.N[j]? = some y) (hl : X.N[l]? = some z) (hij : i ≠ j) (hil : i ≠ l) (hjl : j ≠ l)
    (hx : X.env.scope.names.lookup x = some .local) (hy : X.env.scope.names.lookup y = some .local) (hz : X.env.scope.names.lookup z = some .local) (ha : PA X [a, b, c] (upAM K tm))
    (hw : swappedStores [.Tuple [.Name x px, .Name y py, .Name z pz] kt pt] (.Tuple [a, b, c] k2 pt2) X.env = pure (some [x, y, z]))
    (hs : swapsWithSole [.Tuple [.Name x px, .Name y py, .Name z pz] kt pt] (.Tuple [a, b, c] k2 pt2) pos.line X.env = pure false := by rfl) :
    PS X (.Assign [.Tuple [.Name x px, .Name y py, .Name z pz] kt pt] (.Tuple [a, b, c] k2 pt2) pos) (upS K (dPar [i, j, l] tm)) := vu (ps_par3 hc hN hi hj hl hij hil hjl hx hy hz ha hw hs) fun D σ H ⟨F0, H0, δ, F, D', W⟩ => by
  refine ⟨F0, H0, [], δ, F, _, W.rep, W.t, fun δ1 F1 H1 P' vs ss R1 m nd e1 ⟨hl, q⟩ => ?_⟩
  have hv : vs.length = 3 := by rw [m.length, hl]; rfl
  obtain ⟨v, u, w, rfl⟩ : ∃ v u w, vs = [v, u, w] := by
    match vs, hv with
    | [v, u, w], _ => exact ⟨v, u, w, rfl⟩
  exact ⟨v, u, w, rfl, W.nx _ _ F1 H1 (RepS.setMix m (is := [i, j, l]) R1 nd rfl) e1 q⟩
def zf6 : List Nat → TGs
  | [] => gNil
  | i :: is => gCons (gName i) (zf6 is)
theorem znm {H : Hp} {Q : L2.St → Hp → Prop} : ∀ {is : List Nat} {vs : List V} {σ : L2.St}, is.length = vs.length → Q (zug σ is vs) H → zf6 is vs σ H Q
  | [], [], σ, _, q => ⟨rfl, q⟩
  | i :: is, v :: vs, σ, h, q => ⟨v, vs, rfl, znm (is := is) (by simpa using h) q⟩
theorem zzd : PGs X [] (zf6 []) := pgs_nil
theorem zqc {tg : Expr} {tgs : List Expr} {i : Nat} {is : List Nat} (h1 : PG X tg (gName i)) (h2 : PGs X tgs (zf6 is)) (hs : (assignEach (tg :: tgs) X.env).map (·.2) = assign tg X.env :: (assignEach tgs X.env).map (·.2) := by rfl) : PGs X (tg :: tgs) (zf6 (i :: is)) := pgs_cons h1 h2 hs
theorem zze {is : List Nat} {tgs : List Expr} {kt k2 : Nat} {pt pt2 : Pos} {n : Nat} (hc : X.calm = true) (ha : PA X es (upAM K tm)) (hg : PGs X tgs (zf6 is))
    (hn : (assignEach tgs X.env).length = n := by rfl) (hst : (assignEach tgs X.env).findIdx? (·.1) = none := by rfl) (hin : is.length = n := by rfl)
    (hs : swapsWithSole [.Tuple tgs kt pt] (.Tuple es k2 pt2) pos.line X.env = pure false := by rfl) (hw : swappedStores [.Tuple tgs kt pt] (.Tuple es k2 pt2) X.env = pure none := by rfl)
    (h1 : (assignEach [.Tuple tgs kt pt] X.env).map (·.2) = [assign (.Tuple tgs kt pt) X.env] := by rfl) (hK : X.K = K := by rfl) (hz : n ≤ sizeLine := by decide) :
    PS X (.Assign [.Tuple tgs kt pt] (.Tuple es k2 pt2) pos) (upS K (dPar is tm)) := vu (ps_asg (pe_tup ha) (pg_tup hc hg hn hst) hs hw h1) fun D σ H ⟨F0, H0, δ, F, D', W⟩ => by
  subst hK
  refine ⟨F0, H0, [], δ, F, _, W.rep, W.t, fun δ1 F1 H1 P' vs ss R1 m nd e1 ⟨hl, q⟩ => ?_⟩
  have hv : vs.length = n := by rw [m.length, hl, hin]
  refine ⟨by rw [hv]; exact hz, fun t ht => ⟨t, vs, rfl, .inl (.inl upd_same), hv, znm (by rw [hin, hv]) ?_⟩⟩
  have R2 : RepS X.K F0 H0 (P' ++ []) δ1 σ (upd F1 t (.tup vs)) (upd H1 t (.tup vs)) := R1.newF ht
  have m2 : MixL X.K (upd F1 t (.tup vs)) (upd H1 t (.tup vs)) vs ss P' := by
    have ex : Ex F1 (upd F1 t (.tup vs)) := Ex.new (R1.e3.nn ht)
    clear q hl hv nd W
    have key : ∀ {us : List V} {ss : List S} {P : Pl}, MixL X.K F1 H1 us ss P → MixL X.K (upd F1 t (.tup vs)) (upd H1 t (.tup vs)) us ss P := by
      intro us ss P m
      induction m with
      | nil => exact .nil
      | fz r _ ih => exact .fz (r.mono ex) ih
      | own oa _ ih =>
        obtain ⟨ho, hh, _⟩ := oa.there
        exact .own (oa.mono ex (by rw [upd_ne (ne_of_none hh ht)])) ih
    exact key m
  exact W.nx _ _ _ _ (RepS.setMix m2 (is := is) R2 nd (by rw [hin, hv])) (e1.trans (Ex.new (R1.e3.nn ht))) q
def dRg2 (ta tb : DE) : DOw := fun δ Q => ta δ fun δ1 x => tb δ1 fun δ2 y => ∃ i j, x = .int i ∧ y = .int j ∧ RgOk i j ∧ Q δ2 (.lst (rngD i j))
theorem zzf {F : Hp} (a b : Int) : RepL K F (rgV a b) (rngD a b) := by
  unfold rgV rngD
  generalize (b - a).toNat = n
  have : ∀ l : List Nat, RepL K F (l.map fun (i : Nat) => V.int (a + (i : Int))) (l.map fun (i : Nat) => D.int (a + (i : Int))) := by
    intro l
    induction l with
    | nil => exact .nil
    | cons x r ih => exact .cons (.int _) ih
  exact this _
theorem zuh {ta tb : DE} {p2 q2 : Pos} (hc : X.calm = true) (hg : Gl X "list") (hm : X.mg "list" = none) (hg2 : Gl X "range") (hm2 : X.mg "range" = none) (ha : PE X a (upE K ta)) (hb : PE X b (upE K tb)) (na : starEach [a, b] X.env = (false, eval a X.env) :: starEach [b] X.env := by rfl)
    (nc : starEach [b] X.env = (false, eval b X.env) :: starEach [] X.env := by rfl) (hp : (backTo q2 (starEach [b] X.env)).any (·.1) = false := by rfl)
    (nb : starEach [.Call (.Name "range" p2) [a, b] [] q2] X.env = (false, eval (.Call (.Name "range" p2) [a, b] [] q2) X.env) :: starEach [] X.env := by rfl) : PE X (.Call (.Name "list" p) [.Call (.Name "range" p2) [a, b] [] q2] [] pos) (upO K (dRg2 ta tb)) := by
  refine pimp (pe_listRg hc hg hm (prg_2 hg2 hm2 ha hb na nc hp) nb) fun σ H Q ⟨F0, H0, P, δ, F, Q', R, ht, k⟩ => ?_
  refine ⟨F0, H0, P, δ, F, _, R, ht, fun δ1 F1 H1 x dx R1 e1 rx ht => ?_⟩
  refine ⟨F0, H0, P, δ1, F1, _, R1, ht, fun δ2 F2 H2 y dy R2 e2 ry ⟨i, j, ed, ed2, hr, q⟩ => ?_⟩
  subst ed ed2
  cases rx; cases ry
  exact ⟨i, j, rfl, rfl, hr, fun l hl => k δ2 F2 _ l _ _ (R2.newP hl) (R2.fresh hl) (e1.trans e2) (show OwnAt K F2 _ l (.lst _) from ⟨_, upd_same, zzf i j⟩) q⟩
end
end Mv
namespace Mv
open PySem PySem.Spec PyProof.Rows L2
structure FnAt (P : Program) (w : World) (K : PySem.W.Frag) (mg : Str → Option Value) (base : Heap) (A : Around) (f : Addr) (fd : FuncData) (ps : List Str) (sp : Sp) : Prop where
  len : ∀ vs H Q E, sp vs H Q E → vs.length = ps.length
  run : ∀ (outer : List Env) (s : Shared) (H : Hp) (args : Args) (us : List Value) (vs : List V) (Q : VK), Env0 P w K mg base A outer s H → BindsTo s fd args (ps.zip us) → Vals vs us → sp vs H Q (fun _ _ _ => False) →
    codeAny (model P w) A (.call (.ref f) args) (CR CX0 outer P w H s Q (fun _ _ _ => False)) s
section
variable {P : Program} {w : World} {K : PySem.W.Frag} {mg : Str → Option Value} {base : Heap}
theorem fnAt {k : Nat} {A : Around} {f : Addr} {x qual : Str} {st : Stmt} {fd : FuncData} {N ps : List Str} {sp : Sp} (Fn : Fun K x qual st f fd) (S : FnScope N ps (defScope st)) (hr : Room (k + 1) A) (len : ∀ vs H Q E, sp vs H Q E → vs.length = ps.length)
    (hbody : ∀ (cdv : Value) (outer : List Env) (s : Shared) (H : Hp) (vs : List V) (Q : VK), Room k (A.deeper (envOfC qual (defScope st) s.heap.objs.size f cdv)) → sp vs H Q (fun _ _ _ => False) →
      ∃ t, PSs (cxOf CX0 P w K mg base N qual (defScope st) f cdv A outer s H (fun _ _ _ => False)).nox (defBody st) t ∧ t { nx := fun _ H' => Q .non H', rt := Q } (start N vs) H) : FnAt P w K mg base A f fd ps sp := by
  obtain ⟨oc, od, kV, doc, pm, an, cdv, ct, osl, rfl, lk, hcd⟩ := Fn.ex
  refine ⟨len, fun outer s H args us vs Q e0 hb r hsp => ?_⟩
  have keep : ∀ b o, base.get? b = some o → s.heap.get? b = some o := fun b o e => (e0.bs b o e).1
  have KX : K.In s.heap := e0.mod.kin.keeps keep
  have kinds : ∀ y ∈ ps.zip us, (defScope st).names.lookup y.1 = some .local ∨ ((defScope st).names.lookup y.1 = some .cell ∧ ((cellsFrom (s.heap.objs.size + 1) (defScope st).names []).lookup y.1).isSome = true) := fun ⟨n, v⟩ hy =>
    (S.par n (List.of_mem_zip hy).1).elim .inl fun q => .inr ⟨q, PySem.W.cellsFrom_some _ _ _ (.inl q)⟩
  refine codeAny_call_function hr.depth (KX _ _ lk) rfl S.co S.gen rfl (PySem.W.codeRec_of KX hcd) (hb _ _ _ _ (wpAny_newFunctionEnv_cells S.kind kinds fun env he s1 x => ?_))
  subst he
  refine ⟨(e0.mod.nolimit.keeps keep).keeps x.toInCall.keep, codeAny_func ?_⟩
  obtain ⟨t, ht, hq⟩ := hbody cdv outer s H vs Q (hr.deeper _) hsp
  have I : Inv (cxOf CX0 P w K mg base N qual (defScope st) f cdv A outer s H (fun _ _ _ => False)) [] (start N vs) H s1 := inv_start S hr.hd e0 (len _ _ _ _ hsp) r x
  refine wpAny_mono (ht.nox.run [] s1 (start N vs) H _ I hq) (fun fl s' hs => ?_) fun e s' hs => hs
  cases fl with
  | ret u => obtain ⟨v, σ', H', J, rv, q⟩ := hs; exact ⟨v, H', J.os, J.bare, J.base, J.hok, rv, q⟩
  | next => obtain ⟨σ', H', J, q⟩ := hs; exact ⟨V.non, H', J.os, J.bare, J.base, J.hok, rfl, q⟩
  | brk => obtain ⟨_, _, _, q⟩ := hs; exact q.elim
  | cont => obtain ⟨_, _, _, q⟩ := hs; exact q.elim
theorem okL {k : Nat} {A : Around} {f : Addr} {x qual : Str} {st : Stmt} {fd : FuncData} {N ps : List Str} {sp : DSp} (Fn : Fun K x qual st f fd) (S : FnScope N ps (defScope st)) (hr : Room (k + 1) A)
    (hbody : ∀ (cdv : Value) (outer : List Env) (s : Shared) (H : Hp), Room k (A.deeper (envOfC qual (defScope st) s.heap.objs.size f cdv)) →
      ∃ t, PSs (cxOf CX0 P w K mg base N qual (defScope st) f cdv A outer s H (fun _ _ _ => False)).nox (defBody st) (upS K t) ∧ ∀ ds Q', ds.length = ps.length → sp ds Q' → t { nx := fun _ => Q' (.fz .non), rt := Q' } (zp N.length ds)) : FnAt P w K mg base A f fd ps (spD K ps.length sp) := by
  refine fnAt Fn S hr (fun vs H Q E h => ?_) (fun cdv outer s H vs Q hr h => ?_)
  · obtain ⟨F, ds, Q', _, _, _, r, l, _⟩ := h
    rw [r.length, l]
  · obtain ⟨F, ds, Q', e, tp, lo, r, l, hs, k'⟩ := h
    obtain ⟨t, ht, hq⟩ := hbody cdv outer s H hr
    refine ⟨_, ht, F, H, zp N.length ds, F, _, ⟨zik e tp lo r, hq ds Q' l hs, fun δ' σ' F' H' R _ q => ?_, fun _ _ _ _ _ _ q => q.elim, fun _ _ _ _ _ _ q => q.elim, fun F' H' v r G ok q => k' F' H' v r G ok q⟩⟩
    exact k' F' H' .non (.fz .non) R.grown .non q
theorem z1b {mb : Str → Option Value} {fa a : Addr} {fd : FuncData} {x : Str} {sp : DSp} {s₁ : Shared} {vs : List Value} {ns : List Int}
    (KX : K.In s₁.heap) (hns : s₁.heap.Ns mainGlobals mg) (hb : s₁.heap.Ns builtinsNs mb) (hbb : ∀ x : Str, x ≠ "__name__" → mb x = bootBuiltins x) (hlim : s₁.heap.NoLimit) (hseer : s₁.heap.NoSeer) (hg : s₁.gens = #[])
    (ha : s₁.heap.get? a = some { cls := .type "list", data := .seq vs.toArray }) (hi : IntsAre vs ns) (hl : ns.length ≤ sizeLine) (hK1 : K.lookup sysModules = none)
    (Fn : ∀ base : Heap, K.In base → base.Ns mainGlobals mg → FnAt P w K mg base callerA fa fd [x] (spD K 1 sp)) (hbind : ∀ (s : Shared) (u : Value), BindsTo s fd ⟨[u], []⟩ [(x, u)])
    (hsp : sp [.scr ns] fun r => r = .fz (.bl true)) :
    codeAny (model P w) callerA (.call (.ref fa) ⟨[.ref a], []⟩) (fun r s' => r = .ok (.ret (.bool true)) ∧ OldK s₁.heap s'.heap ∧ s'.os = s₁.os ∧ AllBare s'.gens) s₁ := by
  obtain ⟨mm, ⟨om, em, epm, hom, hdm, _⟩, _⟩ := hseer.mods
  have na : a ≠ sysModules := fun z => by
    rw [z, hom] at ha
    cases ha
    cases hdm
  let own : Addr → Bool := fun b => decide (b = a) && (K.lookup a).isNone
  let H : Hp := fun b => if own b = true then some (.frz { cls := .type "list", data := .seq vs.toArray } (.lst (ns.map V.int))) else if b = sysModules then some (.frz om (.ext fun _ => True)) else none
  have Hsys : H sysModules = some (.frz om (.ext fun _ => True)) := by
    have : own sysModules = false := by simp [own, Ne.symm na]
    show (if own sysModules = true then _ else _) = _
    rw [this, if_neg (by decide), if_pos rfl]
  have Hcase : ∀ b u, H b = some u → (b = a ∧ K.lookup a = none ∧ u = .frz { cls := .type "list", data := .seq vs.toArray } (.lst (ns.map V.int))) ∨ (b = sysModules ∧ u = .frz om (.ext fun _ => True)) := fun b u e => by
    have e : (if own b = true then _ else _) = some u := e
    split at e
    · rename_i q
      simp only [own, Bool.and_eq_true, decide_eq_true_eq, Option.isNone_iff_eq_none] at q
      exact .inl ⟨q.1, q.2, (Option.some.inj e).symm⟩
    · split at e
      · rename_i q; exact .inr ⟨q, (Option.some.inj e).symm⟩
      · cases e
  have rv := vals_ints hi
  have free : ∀ b o, s₁.heap.get? b = some o → (∃ es ep, o.data = .dict es ep) → b ≠ sysModules → H b = none := fun b o e ⟨es, ep, hd⟩ nb => by
    cases q : H b with
    | none => rfl
    | some u =>
      rcases Hcase b u q with ⟨rfl, _, _⟩ | ⟨rfl, _⟩
      · rw [ha] at e; cases e; cases hd
      · exact absurd rfl nb
  have nsK : ∀ {b : Addr} {m : Str → Option Value}, b ≠ sysModules → s₁.heap.Ns b m → (hidT s₁.heap H).Ns b m := fun {b m} nb ⟨o, es, ep, e, d, r⟩ => ⟨o, es, ep, hidT_get e (free b o e ⟨es, ep, d⟩ nb), d, r⟩
  have hKb : K.In (hidT s₁.heap H) := fun b o e => hidT_get (KX b o e) (by
    cases q : H b with
    | none => rfl
    | some u =>
      rcases Hcase b u q with ⟨rfl, e2, _⟩ | ⟨rfl, _⟩
      · rw [e2] at e; cases e
      · rw [hK1] at e; cases e)
  have hM : Mod K mg (hidT s₁.heap H) := ⟨hKb, nsK (by decide) hns, ⟨mb, nsK (by decide) hb, hbb⟩, let ⟨mc, h1, h2⟩ := hlim; ⟨mc, nsK (by decide) h1, h2⟩⟩
  have hok : HOk P w H s₁.heap := fun b u e => by
    rcases Hcase b u e with ⟨rfl, _, rfl⟩ | ⟨rfl, rfl⟩
    · exact ⟨ha, by rw [List.length_map]; exact hl, vs, _, rv, ha⟩
    · exact ⟨hom, trivial, ⟨_, hom⟩, fun _ _ _ _ => trivial⟩
  have e0 : Env0 P w K mg (hidT s₁.heap H) callerA [] s₁ H := ⟨rfl, hM, fun b o e => of_hidT e, Nat.le_of_eq (hidT_size _ _), trivial, (fun b hb => nomatch (show b ∈ ([] : List Addr) from hb)), hok, .of_eq hg⟩
  have hS : SqL K H a (ns.map V.int) := by
    cases hk : K.lookup a with
    | some o =>
      have e := KX a o hk
      rw [ha] at e
      cases e
      exact .inr ⟨_, vs.toArray, _, hk, rfl, rfl, rfl, by rw [List.size_toArray, hi.length]; exact hl, by simpa using rv⟩
    | none =>
      have : own a = true := by simp [own, hk]
      exact .inl (.inr ⟨_, if_pos this⟩)
  have tp : Tp H H := fun b us e => e
  refine codeAny_mono ((Fn _ hKb (nsK (by decide) hns)).run [] s₁ H ⟨[.ref a], []⟩ [.ref a] [.ref a] (fun v _ => v = .bl true) e0 (hbind s₁ (.ref a)) (.cons (show RelV (.ref a) (.ref a) from rfl) .nil)
    ⟨H, [.scr ns], _, Ex.refl H, tp, ⟨om, Hsys⟩, .cons (.scr hS) .nil, rfl, hsp, fun F' H' v r _ rr q => ?_⟩) fun r s' h => ?_
  · subst q
    cases rr
    rfl
  · cases r with
    | error e => exact h.elim
    | ok fl =>
      cases fl with
      | next => exact h.elim
      | brk => exact h.elim
      | cont => exact h.elim
      | ret u =>
        obtain ⟨v, H', os, bare, un, hok', r', q⟩ := h
        have q' : v = .bl true := q
        subst q'
        obtain rfl : u = Value.bool true := r'
        refine ⟨rfl, OldK.of_keep fun b o e => ?_, os, bare⟩
        cases q : H b with
        | none => exact un.keep b o e q (fun z => nomatch (show b ∈ ([] : List Addr) from z)) (fun z => nomatch z)
        | some u =>
          obtain ⟨ob, uu, rfl⟩ : ∃ ob uu, u = .frz ob uu := by
            rcases Hcase b u q with ⟨_, _, rfl⟩ | ⟨_, rfl⟩
            · exact ⟨_, _, rfl⟩
            · exact ⟨_, _, rfl⟩
          obtain ⟨e1, _⟩ := hok b _ q
          obtain ⟨e2, _⟩ := hok' b _ (un.frzs b ob _ q)
          rw [e] at e1; cases e1
          exact e2
end
end Mv
namespace Mv
open PySem PySem.Spec PyProof.Rows L2
end Mv
namespace Mv
open PySem PySem.Spec PyProof.Rows L2
section
variable {X : Cx} {K : PySem.W.Frag} {pins : List (Addr × Obj)} {σ : L2.St} {H : Hp} {s : Shared} {p : Addr}
theorem upd_self {H : Hp} {p : Addr} {o : HO} (h : H p = some o) : upd H p o = H := by
  funext b
  unfold upd
  split
  · rename_i e; rw [e, h]
  · rfl
theorem zw8 {P : Program} {w : World} {H : Hp} {h : Heap} {x y : Int} {t u : Tok} {n : Nat} (h0 : 0 ≤ y) (h1 : y < 2 ^ 32) (e : h.get? p = some { cls := .type "list", data := .seq [Value.int x t, Value.int y u].toArray n }) : ObjOk P w H h p (zdz p) :=
  ⟨⟨x, y, t, u, n, h0, h1, e⟩, ⟨_, e⟩, fun _ h2 ⟨x, y, t, u, n, a, b, c⟩ k => ⟨x, y, t, u, n, a, b, k _ c⟩⟩
theorem znn (I : Inv X pins σ H s) (hp : H p = some (zdz p)) : ∃ x y : Int, 0 ≤ y ∧ y < 2 ^ 32 ∧ Inv X pins σ (upd H p (.lst [.int x, .int y])) s := by
  obtain ⟨⟨x, y, t, u, n, h0, h1, e⟩, _⟩ := I.hok p _ hp
  refine ⟨x, y, h0, h1, ?_⟩
  have I2 := I.write (x := p) (e := p) (o := .lst [.int x, .int y]) (h' := s.heap) (t' := s.toks) (by rw [hp]; trivial) (.inl rfl) (fun b u _ q => q) ⟨_, e⟩
    ⟨(by show 2 ≤ sizeLine; decide), _, n, .cons ⟨t, rfl⟩ (.cons ⟨u, rfl⟩ .nil), e⟩
  exact I2
theorem zg0 {x y : Int} (I : Inv X pins σ H s) (hp : H p = some (.lst [.int x, .int y])) (h0 : 0 ≤ y) (h1 : y < 2 ^ 32) : Inv X pins σ (upd H p (zdz p)) s := by
  obtain ⟨_, its, n, r, e⟩ := I.hok p _ hp
  cases r with
  | cons a r => cases r with
    | cons b r =>
      cases r
      obtain ⟨t, rfl⟩ := a
      obtain ⟨u, rfl⟩ := b
      exact I.write (x := p) (e := p) (o := zdz p) (h' := s.heap) (t' := s.toks) (by rw [hp]; trivial) (.inl rfl) (fun b u _ q => q) ⟨_, e⟩ (zw8 h0 h1 e)
def rIxO : R2 := fun x y H Q => ∃ p, x = .ref p ∧ H p = some (zdz p) ∧ ((y = .int 0 ∧ ∀ z, Q (.int z) H) ∨ (y = .int 1 ∧ ∀ z : Int, 0 ≤ z → z < 2 ^ 32 → Q (.int z) H))
theorem zzg : IxR X rIxO := by
  intro value slice pins s σ H x y v u Q I rx ry h hs
  obtain ⟨p, rfl, hp, h⟩ := h
  obtain ⟨a, b, h0, h1, I1⟩ := znn I hp
  have back : ∀ (v : V) (w : Value) (s' : Shared), EP X pins σ (fun v' H' => H' = upd H p (.lst [.int a, .int b]) ∧ v' = v ∧ Q v H) w s' → EP X pins σ Q w s' := fun v w s' ⟨v', H', I', r', e1, e2, q⟩ => by
    subst e1 e2
    have := zg0 I' upd_same h0 h1
    rw [upd_upd, upd_self hp] at this
    exact ⟨v', H, this, r', q⟩
  rcases h with ⟨rfl, q⟩ | ⟨rfl, q⟩
  · exact thn (ix_list value slice pins s σ _ _ _ v u _ I1 rx ry ⟨p, _, 0, .int a, rfl, rfl, .inl (.inl upd_same), rfl, ⟨rfl, rfl, q a⟩⟩ hs) fun w s' h => back _ w s' h
  · exact thn (ix_list value slice pins s σ _ _ _ v u _ I1 rx ry ⟨p, _, 1, .int b, rfl, rfl, .inl (.inl upd_same), rfl, ⟨rfl, rfl, q b h0 h1⟩⟩ hs) fun w s' h => back _ w s' h
def z2p : V → V → V → Hp → (Hp → Prop) → Prop := fun o i v H Q => ∃ p z, o = .ref p ∧ H p = some (zdz p) ∧ v = .int z ∧ (i = .int 0 ∨ i = .int 1 ∧ 0 ≤ z ∧ z < 2 ^ 32) ∧ Q H
theorem zw9 : PSet X z2p := by
  intro pins s σ H o i v ov iv u Q I ro ri rv h
  obtain ⟨p, z, rfl, hp, rfl, hi, q⟩ := h
  obtain ⟨a, b, h0, h1, I1⟩ := znn I hp
  have back : ∀ (c d : Int), 0 ≤ d → d < 2 ^ 32 → ∀ s', (∃ H', Inv X pins σ H' s' ∧ H' = upd H p (.lst [.int c, .int d])) → ∃ H', Inv X pins σ H' s' ∧ Q H' := fun c d g0 g1 s' ⟨H', I', e⟩ => by
    subst e
    have := zg0 I' upd_same g0 g1
    rw [upd_upd, upd_self hp] at this
    exact ⟨H, this, q⟩
  rcases hi with rfl | ⟨rfl, g0, g1⟩
  · exact thn (set_list pins s σ _ _ _ _ ov iv u _ I1 ro ri rv ⟨p, _, 0, 0, rfl, rfl, upd_same, rfl, rfl⟩) fun _ s' h => back z b h0 h1 s' (by
      obtain ⟨H', I', e⟩ := h; exact ⟨H', I', by rw [← e, upd_upd]; rfl⟩)
  · exact thn (set_list pins s σ _ _ _ _ ov iv u _ I1 ro ri rv ⟨p, _, 1, 1, rfl, rfl, upd_same, rfl, rfl⟩) fun _ s' h => back a z g0 g1 s' (by
      obtain ⟨H', I', e⟩ := h; exact ⟨H', I', by rw [← e, upd_upd]; rfl⟩)
end
section
variable {X : Cx} {K : PySem.W.Frag} {e a b c o : Expr} {te ta tb tk : DE} {to : DOw} {pos p apos cpos : Pos}
def gIxS : D → D → (D → Prop) → Prop
  | .obj 0, .int i, Q => (i = 0 ∧ ∀ z, Q (.int z)) ∨ (i = 1 ∧ ∀ z : Int, 0 ≤ z → z < 2 ^ 32 → Q (.int z))
  | _, _, _ => False
theorem z1c : Op2 K rIxO gIxS := by
  intro x y F H dx dy Q Q' rx ry ex g k
  unfold gIxS at g
  split at g
  · cases rx with
    | obj n h =>
      cases ry
      refine ⟨_, rfl, ex _ _ h, ?_⟩
      rcases g with ⟨rfl, g⟩ | ⟨rfl, g⟩
      · exact .inl ⟨rfl, fun z => k _ _ (.int z) (g z)⟩
      · exact .inr ⟨rfl, fun z h0 h1 => k _ _ (.int z) (g z h0 h1)⟩
  · exact g.elim
theorem zio (ha : PE X a (upE K ta)) (hb : PE X b (upE K tb)) (hs : PlainIx b := by exact fun _ _ => rfl) : PE X (.Subscript a b pos) (upE K (d2 gIxS ta tb)) := pimp (pe_ix zzg ha hb hs) fun _ _ _ h => up2 z1c h
def zui (to ti : DE) : DG := fun d δ Q => to δ fun δ1 x => ti δ1 fun δ2 y => x = .obj 0 ∧ ∃ z, d = .int z ∧ (y = .int 0 ∨ y = .int 1 ∧ 0 ≤ z ∧ z < 2 ^ 32) ∧ Q δ2
theorem ztc {ti : DE} (ho : PE X o (upE K ta)) (hi : PE X e (upE K ti)) (ha : ∀ v, assign (.Subscript o e pos) X.env v = (do
      let ov ← holding [v] (eval o X.env)
      let iv ← holding [v, ov] (eval e X.env)
      standAt pos
      holding [v, ov, iv] (setItem ov iv v)
      release [v, ov, iv] []) := by intro _; rfl) : PG X (.Subscript o e pos) (upG K (zui ta ti)) := by
  refine gimp (pg_sub ho hi zw9 ha) fun v σ H Q ⟨F0, H0, P, δ, F, d, Q', R, r, g, k⟩ => ?_
  refine ⟨F0, H0, P, δ, F, _, R, g, fun δ1 F1 H1 x dx R1 e1 rx g => ?_⟩
  refine ⟨F0, H0, P, δ1, F1, _, R1, g, fun δ2 F2 H2 y dy R2 e2 ry ⟨ex, z, ed, hy, q⟩ => ?_⟩
  subst ex ed
  cases r
  cases rx with
  | obj n h =>
    have hH := R2.e3 _ _ (e2 _ _ h)
    refine ⟨_, z, rfl, hH, rfl, ?_, k δ2 σ F2 H2 R2 (e1.trans e2) q⟩
    rcases hy with hy | ⟨hy, h0, h1⟩
    · subst hy; cases ry; exact .inl rfl
    · subst hy; cases ry; exact .inr ⟨rfl, h0, h1⟩
def zpq (to : DOw) : DE := fun δ Q => to δ fun δ1 o => ∃ x y : Int, o = .lst [.int x, .int y] ∧ 0 ≤ y ∧ y < 2 ^ 32 ∧ Q δ1 (.obj 0)
def z2q (t : TE) : TE := fun σ H Q => t σ H fun v H' => ∃ q x y, H' q = some (.lst [.int x, .int y]) ∧ 0 ≤ y ∧ y < 2 ^ 32 ∧ Q v (upd H' q (zdz q))
theorem zzh {t : TE} (h : PE X e t) : PE X e (z2q t) := ⟨fun pins s σ H Q I q => thn (h.run pins s σ H _ I q) fun u s1 ⟨v, H1, I1, r1, q, x, y, hq, h0, h1, k⟩ => ⟨v, _, zg0 I1 hq h0 h1, r1, k⟩⟩
theorem z2r (h : PE X e (upO K to)) : PE X e (upE K (zpq to)) := pimp (zzh h) fun σ H Q ⟨F0, H0, P, δ, F, Q', R, ht, k⟩ => by
  refine ⟨F0, H0, P, δ, F, _, R, ht, fun δ1 F1 H1 p ho o R1 hP e1 oa ⟨x, y, eo, h0, h1, q⟩ => ?_⟩
  subst eo
  obtain ⟨vs, hv, rs⟩ := oa
  have ev : vs = [.int x, .int y] := by
    cases rs with
    | cons a r => cases r with
      | cons b r => cases r; cases a; cases b; rfl
  subst ev
  have n1 := (R1.rsv p ho (by simp)).2.1
  exact ⟨p, x, y, hv, h0, h1, k δ1 _ _ _ _ (R1.frzP hP (zdz p)) (e1.trans (Ex.new n1)) (.obj 0 upd_same) q⟩
end
end Mv
namespace Mv
open PySem PySem.Spec PyProof.Rows L2
section
variable {X : Cx} {K : PySem.W.Frag} {e a b c o : Expr} {te ta tb tk : DE} {to : DOw} {tw : DV} {pos p apos cpos : Pos}
end
end Mv
namespace Mv
open PySem PySem.Spec PyProof.Rows L2
section
variable {X : Cx} {K : PySem.W.Frag} {e a b c o : Expr} {te ta tb tk : DE} {to : DOw} {tw : DV} {tt : DT} {g : DG} {wi : DI} {g0 : TG} {pos p apos cpos spos : Pos} {elt tg iter : Expr} {ifs : List Expr} {scope : Scope} {own : List (Str × Nat)} {vs : List Nat}
theorem ze9 (hc : X.calm = true) (hN : X.N.Nodup) (hi : PI X tg iter (upI K wi)) (ok : BlkOk X.N X.env.scope scope own)
    (hg : ∀ (s : Shared) (H : Hp) (C : Addr) (cl : List (Str × Addr)) (fp : List Addr), PG (X.blk s H scope (compEnvC scope cl C X.env) fp) tg g0) (ht : ∀ (s : Shared) (H : Hp) (C : Addr) (cl : List (Str × Addr)) (fp : List Addr), PTs (X.blk s H scope (compEnvC scope cl C X.env) fp) ifs (upT K tt))
    (he : ∀ (s : Shared) (H : Hp) (C : Addr) (cl : List (Str × Addr)) (fp : List Addr), PE (X.blk s H scope (compEnvC scope cl C X.env) fp) elt (upE K te)) (gk : CT K (own.map (·.2)) g0 g) (hs : ∀ x, foldedSetIterable iter X.env x = pure x := by intro _; rfl) :
    PE X (.ListComp elt [⟨tg, iter, ifs, 0⟩] scope pos) (upO K (dLc wi g tt te (own.map (·.2)))) := pimp (pe_lc hc hN hi ok hg ht he hs) fun _ _ _ h => zyl gk h
def z1d (t : TS) : TS := fun D σ H => t { D with nx := fun σ' H' => D.nx σ' H' ∨ ∃ d u, H' d = some u ∧ Mut (some u) ∧ ∀ od, D.nx σ' (upd H' d (.frz od u)) } σ H
theorem zqd {st : Stmt} {t : TS} (h : PS X st t) : PS X st (z1d t) := ⟨fun pins s σ H D I q => thn (h.run pins s σ H _ I q) fun f s1 r => by
  cases f with
  | next =>
    obtain ⟨σ1, H1, I1, q1⟩ := r
    rcases q1 with q1 | ⟨d, u, h1, mu, q1⟩
    · exact ⟨σ1, H1, I1, q1⟩
    · obtain ⟨od, I2⟩ := I1.lock h1 mu
      exact ⟨σ1, _, I2, q1 od⟩
  | ret u => exact r
  | brk => exact r
  | cont => exact r⟩
def zjx (i : Nat) (to : DOw) : DS := fun D δ => to δ fun δ1 o => D.nx (δ1.set i (some (.fz o.d)))
theorem zxa {i : Nat} {y : Str} {py : Pos} (hc : X.calm = true) (hN : X.N.Nodup) (hy : X.N[i]? = some y) (hyl : X.env.scope.names.lookup y = some .local)
    (hsw : swapsWith (.ListComp elt [⟨tg, iter, ifs, 0⟩] scope pos) (some (.Name y py)) spos.line X.env = pure true) (hi : PI X tg iter (upI K wi)) (ok : BlkOk X.N X.env.scope scope own)
    (hg : ∀ (s : Shared) (H : Hp) (C : Addr) (cl : List (Str × Addr)) (fp : List Addr), PG (X.blk s H scope (compEnvC scope cl C X.env) fp) tg g0) (ht : ∀ (s : Shared) (H : Hp) (C : Addr) (cl : List (Str × Addr)) (fp : List Addr), PTs (X.blk s H scope (compEnvC scope cl C X.env) fp) ifs (upT K tt))
    (he : ∀ (s : Shared) (H : Hp) (C : Addr) (cl : List (Str × Addr)) (fp : List Addr), PE (X.blk s H scope (compEnvC scope cl C X.env) fp) elt (upE K te)) (gk : CT K (own.map (·.2)) g0 g) (hs : ∀ x, foldedSetIterable iter X.env x = pure x := by intro _; rfl) :
    PS X (.Assign [.Name y py] (.ListComp elt [⟨tg, iter, ifs, 0⟩] scope pos) spos) (upS K (zjx i (dLc wi g tt te (own.map (·.2))))) := vu (zqd (L2.ps_setLc hc hN hy hyl hsw hi ok hg ht he hs)) fun D σ H ⟨F0, H0, δ, F, D', W⟩ => by
  show tLc (upI K wi) g0 (upT K tt) (upE K te) (own.map (·.2)) σ H fun x H1 => D.nx (σ.set i (some x)) H1 ∨ ∃ d u, H1 d = some u ∧ Mut (some u) ∧ ∀ od, D.nx (σ.set i (some x)) (upd H1 d (.frz od u))
  refine zyl gk ⟨F0, H0, [], δ, F, _, W.rep, W.t, fun δ1 F1 H1 p ho o R1 hP e1 oa q => ?_⟩
  have n1 := (R1.rsv p ho (by simp)).2.1
  obtain ⟨ho', hh, mu, rp⟩ := oa.rep n1
  exact .inr ⟨p, ho', hh, mu, fun od => W.nx _ _ _ _ ((R1.frzP hP _).setF i (rp od)) (e1.trans (Ex.new n1)) q⟩
def dAug (i : Nat) (f : Int → Int → Int) (te : DE) : DS := fun D δ => match δ[i]? with
  | some (some (.fz (.int a))) => te δ fun δ1 d => ∃ b, d = .int b ∧ D.nx (δ1.set i (some (.fz (.int (f a b)))))
  | _ => False
theorem zvm {i : Nat} {x : Str} {op : Operator} {f : Int → Int → Int} {pos' : Pos} (hN : X.N.Nodup) (hi : X.N[i]? = some x) (hx : Loc X.env.scope x) (he : PE X e (upE K te)) (ho : PIp X op (ipI f)) (hf : X.fn x = true ∨ X.env.scope.names.lookup x = some .local := by first | exact .inl rfl | exact .inr rfl | assumption) :
    PS X (.AugAssign (.Name x pos') op e pos) (upS K (dAug i f te)) := vu (ps_aug hN hi hx he ho hf) fun D σ H ⟨F0, H0, δ, F, D', W⟩ => by
  have ht := W.t
  unfold dAug at ht
  split at ht
  · rename_i n e1
    obtain ⟨v, ev, r⟩ := W.rep.fz e1
    cases r
    exact ⟨_, ev, F0, H0, [], δ, F, _, W.rep, ht, fun δ1 F1 H1 y dy R1 ex1 ry ⟨b, eb, q⟩ => by
      subst eb
      cases ry
      exact ⟨n, b, rfl, rfl, W.nx _ _ F1 H1 (R1.setF i (.int _)) ex1 q⟩⟩
  · exact ht.elim
end
end Mv
namespace Mv
open PySem PySem.Spec PyProof.Rows L2
abbrev noE : Value → Shared → Prop := fun _ _ => False
section
variable {prog : Program} {w : World} {A : Around} {R : Result → Shared → Prop} {comp tg : Expr} {c : Nat} {p : Pos} {ifs : List Expr} {it acc : Value} {env : Env} {body : Sem PySem.Fin}
theorem zsp (hq : (Code.compLoop comp c it acc env).quiet = true)
    (hT : compTurn comp c it acc env = (do
      standAt p
      match ← pyNext it with
      | none => pure (.done .next)
      | some v =>
        letOwnedTupleGo tg it v
        assign tg env v
        let mut ok := true
        for t in ifs do
          if ok then ok ← isTrue t env (eval t env)
        if ok then body
        else again (.compLoop comp c it acc env)))
    (hd : ∀ s Q E, wpAny (model prog w) A ((compTurn comp c it acc env).onRaise fun x => do noteFrame x env; theTreesLotGoes x) Q E s → wpAny (model prog w) (A.under (.compLoop comp c it acc env)) ((model prog w).den (.compLoop comp c it acc env)) Q E s)
    (I : Nat → Shared → Prop)
    (turn : ∀ n s, I n s → wpAny (model prog w) A (pyNext it) (fun r s1 => match r with
      | none => R (.ok .next) s1
      | some v => wpAny (model prog w) A (letOwnedTupleGo tg it v) (fun _ s2 => wpAny (model prog w) A (assign tg env v) (fun _ s3 =>
          wpAny (model prog w) A (forIn ifs true fun t r => if r = true then do let ok ← isTrue t env (eval t env); pure (ForInStep.yield ok) else pure (ForInStep.yield r)) (fun ok s4 =>
            if ok = true then wpAny (model prog w) A body (fun fin s5 => fin = .again (.compLoop comp c it acc env) ∧ ∃ m, m < n ∧ I m s5) noE s4 else ∃ m, m < n ∧ I m s4) noE s3) noE s2) noE s1) noE s)
    {n : Nat} {s : Shared} (h : I n s) : codeAny (model prog w) A (.compLoop comp c it acc env) R s := by
  refine codeAny_loop hq I (fun n s hI => hd _ _ _ (wpAny_noted ?_)) n h
  rw [hT]
  refine wpAny_bind (wpAny_standAt (wpAny_bind (thnF (turn n s hI) fun r s1 h1 => ?_)))
  cases r with
  | none => exact wpAny_pure h1
  | some v =>
    refine wpAny_bind (thnF h1 fun _ s2 h2 => wpAny_bind (thnF h2 fun _ s3 h3 => wpAny_bind (thnF h3 fun ok s4 h4 => ?_)))
    cases ok with
    | false => exact wpAny_pure ⟨rfl, h4⟩
    | true => exact thnF h4 fun fin s5 ⟨e, h5⟩ => by subst e; exact ⟨rfl, h5⟩
end
abbrev TB := L2.St → Hp → (Hp → Prop) → Prop
def zpr (g : TG) (tt : TT) (tb : TB) (vs : List Nat) (J : It) : TB := fun σ H Qd => ∃ W : Nat → Nat → Hp → Prop, (∃ m, W 0 m H) ∧ ∀ i m H, W i m H →
  (J.stop i H ∧ Qd H) ∨ (J.go i H ∧ ∃ Nx : Hp → Prop, (∀ H', Nx H' → ∃ m', m' < m ∧ W (i + 1) m' H') ∧ ∀ x H', J.yld i H x H' → g x (wipe σ vs) H' fun σ2 H2 => wipe σ2 vs = wipe σ vs ∧
    tt σ2 H2 fun b H3 => if b = true then tb σ2 H3 Nx else Nx H3)
def PB (Y : Cx) (lc : Code) (body : Sem PySem.Fin) (tb : TB) (us : List Nat) : Prop := ∀ (pins : List (Addr × Obj)) (s : Shared) (σ : L2.St) (H : Hp) (N : Hp → Prop), Inv Y pins σ H s → tb σ H N →
  wpAny (model Y.prog Y.w) Y.A body (fun fin s' => fin = .again lc ∧ ∃ H', Inv Y pins (wipe σ us) H' s' ∧ N H') noE s
theorem zqe {σ τ : L2.St} {vs us : List Nat} (hu : ∀ i ∈ us, i ∈ vs) (e : wipe τ vs = wipe σ vs) : (wipe σ vs).length = (wipe τ us).length ∧ ∀ (j : Nat) v, (wipe σ vs)[j]? = some (some v) → (wipe τ us)[j]? = some (some v) := by
  refine ⟨by rw [← e, wipe_length, wipe_length], fun j v h => ?_⟩
  rw [← e] at h
  obtain ⟨h1, h2⟩ := wipe_some h
  rw [zkj fun m => h2 (hu j m)]
  exact h1
theorem zqf {Y : Cx} (hc : Y.calm = true) (hxe : Y.xe = noE) {comp tg : Expr} {c : Nat} {p : Pos} {ifs : List Expr} {it : Addr} {acc : Value} {body : Sem PySem.Fin} {g : TG} {tt : TT} {tb : TB} {vs us : List Nat} {J : It} {fp : List Addr} {tn : Nat → Heap → Prop} {R : Result → Shared → Prop}
    (hq : (Code.compLoop comp c (.ref it) acc Y.env).quiet = true)
    (hT : compTurn comp c (.ref it) acc Y.env = (do
      standAt p
      match ← pyNext (.ref it) with
      | none => pure (.done .next)
      | some v =>
        letOwnedTupleGo tg (.ref it) v
        assign tg Y.env v
        let mut ok := true
        for t in ifs do
          if ok then ok ← isTrue t Y.env (eval t Y.env)
        if ok then body
        else again (.compLoop comp c (.ref it) acc Y.env)))
    (hd : ∀ s Q E, wpAny (model Y.prog Y.w) Y.A ((compTurn comp c (.ref it) acc Y.env).onRaise fun x => do noteFrame x Y.env; theTreesLotGoes x) Q E s → wpAny (model Y.prog Y.w) (Y.A.under (.compLoop comp c (.ref it) acc Y.env)) ((model Y.prog Y.w).den (.compLoop comp c (.ref it) acc Y.env)) Q E s)
    (T : Turn Y.prog Y.w Y.K tg J fp it tn) (pg : PG Y tg g) (pt : PTs Y ifs tt) (pb : PB Y (.compLoop comp c (.ref it) acc Y.env) body tb us) (hu : ∀ i ∈ us, i ∈ vs)
    {pins : List (Addr × Obj)} {s : Shared} {σ : L2.St} {H : Hp} (I : Inv Y pins (wipe σ vs) H s) (st : tn 0 s.heap) (f0 : ∀ b ∈ fp, FpOk Y pins H b) {Qd : Hp → Prop} (h : zpr g tt tb vs J σ H Qd)
    (hR : ∀ s' H', Inv Y pins (wipe σ vs) H' s' → Qd H' → R (.ok .next) s') : codeAny (model Y.prog Y.w) Y.A (.compLoop comp c (.ref it) acc Y.env) R s := by
  obtain ⟨W, ⟨m0, w0⟩, turn⟩ := h
  refine zsp hq hT hd (fun n s' => ∃ i H', Inv Y pins (wipe σ vs) H' s' ∧ tn i s'.heap ∧ (∀ b ∈ fp, H' b = none) ∧ W i n H') ?_ (n := m0) ⟨0, H, I, st, fun b hb => (f0 b hb).1, w0⟩
  rintro n s1 ⟨i, H1, I1, st1, n1, w1⟩
  have f1 : ∀ b ∈ fp, FpOk Y pins H1 b := fun b hb => ⟨n1 b hb, (f0 b hb).2⟩
  rcases turn i n H1 w1 with ⟨stop, qq⟩ | ⟨go, Nx, hNx, step⟩
  · refine thnF (T.done Y rfl rfl rfl hc i pins s1 _ H1 noE I1 f1 st1 stop) fun r s2 ⟨hr, I2⟩ => ?_
    subst hr
    exact hR s2 H1 I2 qq
  · refine thnF (T.item Y rfl rfl rfl hc i pins s1 _ H1 noE I1 f1 st1 go) fun r s2 ⟨u, hr, h2⟩ => ?_
    subst hr
    refine thnF h2 fun _ s3 ⟨x, H3, I3, r3, y3, st3, n3⟩ => ?_
    have I3' := I3.pinned (fun b hb => ⟨n3 b hb, (f0 b hb).2⟩) (T.obj _ _ st3)
    have pgr := pg.run _ s3 _ H3 x u _ I3' r3 (step x H3 y3)
    rw [hxe] at pgr
    refine thnF pgr fun _ s4 ⟨σ4, H4, I4, hw4, q4⟩ => ?_
    have ptr := pt.run _ s4 σ4 H4 _ I4 q4
    rw [hxe] at ptr
    refine thnF ptr fun b s5 ⟨H5, I5, q5⟩ => ?_
    have fin : ∀ {τ : L2.St} {s' : Shared} {H' : Hp}, Inv Y (pins ++ pinsAt fp s3.heap) τ H' s' → ((wipe σ vs).length = τ.length ∧ ∀ (j : Nat) v, (wipe σ vs)[j]? = some (some v) → τ[j]? = some (some v)) → Nx H' →
        ∃ m, m < n ∧ ∃ i H', Inv Y pins (wipe σ vs) H' s' ∧ tn i s'.heap ∧ (∀ b ∈ fp, H' b = none) ∧ W i m H' := fun {τ s' H'} I' hl nx => by
      obtain ⟨m, hm, w'⟩ := hNx H' nx
      have pin : ∀ b ∈ fp, ∀ o, s3.heap.get? b = some o → s'.heap.get? b = some o ∧ H' b = none := fun b hb o e =>
        have z := I'.pin (b, o) (List.mem_append_right _ (List.mem_append_right _ (mem_pinsAt hb e)))
        ⟨z.1, z.2.1⟩
      refine ⟨m, hm, i + 1, H', I'.unpinned.weak hl.1 hl.2, T.keep _ _ _ st3 (fun b hb o e => (pin b hb o e).1), fun b hb => ?_, w'⟩
      obtain ⟨o, e, _⟩ := T.obj _ _ st3 b hb
      exact (pin b hb o e).2
    cases b with
    | false =>
      rw [if_neg (by decide)] at q5 ⊢
      exact fin I5 (zqe (us := []) (fun i h => nomatch h) hw4) q5
    | true =>
      rw [if_pos rfl] at q5 ⊢
      exact thnF (pb _ s5 σ4 H5 Nx I5 q5) fun _ s6 ⟨ea, H6, I6, q6⟩ => ⟨ea, fin I6 (zqe hu hw4) q6⟩
theorem z1e {Y : Cx} {pins : List (Addr × Obj)} {σ : L2.St} {H H' : Hp} {s : Shared} {E : Value → Shared → Prop} {D : Addr} {y z : V} {u r : Value} {Q : Unit → Shared → Prop} (hu : Y.A.units + 1 < cLine) (I : Inv Y pins σ H s) (g : DPut H D y z H') (ry : RelV y u) (rz : RelV z r)
    (h : ∀ s', Inv Y pins σ H' s' → Q () s') : wpAny (model Y.prog Y.w) Y.A (dictSet D u r) Q E s := by
  rcases g with ⟨kvs, k, e, rfl, l, rfl⟩ | ⟨kvs, k, b, e, rfl, eb, l, rfl⟩
  · exact d_dictSet I e l ry rz h
  · cases ry
    obtain ⟨hz, hd, xs, rel, dd⟩ := dt_of I.hok e
    have hx : xs.length ≤ sizeLine := by rw [← rel.length]; exact hz
    have hl : (putK kvs k z).length ≤ sizeLine := by have := length_putK kvs k z; omega
    refine wpAny_dictSet_heap (show Y.A.units < cLine by omega) (key_of I.hok eb) dd (fun h' dd' hs => h _ ?_) hx
    obtain ⟨q, es, ep, hq, h2, h3, h4, _, h5⟩ := dd'
    have ok' : ObjOk Y.prog Y.w (upd H D (.dT (putK kvs k z))) h' D (.dT (putK kvs k z)) := ⟨hl, hd, _, (rel.put k eb rz).keeps fun c ys ec => by rw [upd_ne (ne_of ec e (fun z => nomatch z))]; exact ec, q, es, ep, hq, h2, h3, h4, h5⟩
    exact d_write I (by rw [e]; exact True.intro) hs ⟨q, hq⟩ ok'
def tPut (tk tv : TE) (D : Addr) : TB := fun σ H N => tk σ H fun y H1 => tv σ H1 fun z H2 => ∃ H3, DPut H2 D y z H3 ∧ N H3
section
variable {Y : Cx} {kx vx : Expr} {tk tv : TE}
theorem zvn {D : Addr} {q : Pos} {lc : Code} (hxe : Y.xe = noE) (hu : Y.A.units + 1 < cLine) (pk : PE Y kx tk) (pv : PE Y vx tv) :
    PB Y lc (do
      (do let a ← eval kx Y.env
          let b ← holding [a] (eval vx Y.env)
          standAt q
          holding [a, b] (dictSet D a b))
      again lc) (tPut tk tv D) [] := fun pins s σ H N I h => by
  have r1 := pk.run pins s σ H _ I h
  rw [hxe] at r1
  refine wpAny_bind (wpAny_bind (thnF r1 fun a s1 ⟨y, H1, I1, ry, h1⟩ => ?_))
  have r2 := pv.run pins s1 σ H1 _ I1 h1
  rw [hxe] at r2
  exact wpAny_bind (wpAny_holding (thnF r2 fun b s2 ⟨z, H2, I2, rz, H3, g, h3⟩ => wpAny_bind (wpAny_standAt (wpAny_holding (z1e hu I2 g ry rz fun s' I' => wpAny_pure ⟨rfl, H3, I', h3⟩)))))
def zlm (wi : TI) (g : TG) (tt : TT) (tb : TB) (vs : List Nat) : TB := fun σ H N => wi σ H fun J H1 => zpr g tt tb vs J σ H1 N
theorem zxb {comp tg i1 : Expr} {ifs : List Expr} {p : Pos} {acc : Value} {lc : Code} {body : Addr → Sem PySem.Fin} {wi : TI} {g : TG} {tt : TT} {tb : TB} {vs us : List Nat} (hc : Y.calm = true) (hxe : Y.xe = noE) (hs : ∀ x, foldedSetIterable i1 Y.env x = pure x)
    (hq : ∀ it, (Code.compLoop comp 1 (.ref it) acc Y.env).quiet = true)
    (hT : ∀ it : Addr, compTurn comp 1 (.ref it) acc Y.env = (do
      standAt p
      match ← pyNext (.ref it) with
      | none => pure (.done .next)
      | some v =>
        letOwnedTupleGo tg (.ref it) v
        assign tg Y.env v
        let mut ok := true
        for t in ifs do
          if ok then ok ← isTrue t Y.env (eval t Y.env)
        if ok then body it
        else again (.compLoop comp 1 (.ref it) acc Y.env)))
    (hd : ∀ (it : Addr) s Q E, wpAny (model Y.prog Y.w) Y.A ((compTurn comp 1 (.ref it) acc Y.env).onRaise fun x => do noteFrame x Y.env; theTreesLotGoes x) Q E s → wpAny (model Y.prog Y.w) (Y.A.under (.compLoop comp 1 (.ref it) acc Y.env)) ((model Y.prog Y.w).den (.compLoop comp 1 (.ref it) acc Y.env)) Q E s)
    (go : ∀ (it : Addr) (R : Result → Shared → Prop) (s : Shared), codeAny (model Y.prog Y.w) Y.A (.compLoop comp 1 (.ref it) acc Y.env) R s → (wpAny (model Y.prog Y.w) Y.A (pyIter (.ref it)) (fun it' s' => codeAny (model Y.prog Y.w) Y.A (.compLoop comp 1 it' acc Y.env) R s') noE s) →
      codeAny (model Y.prog Y.w) Y.A (.compStart comp 1 (.ref it) acc Y.env) R s)
    (hi : PI Y tg i1 wi) (pg : PG Y tg g) (pt : PTs Y ifs tt) (pb : ∀ it : Addr, PB Y (.compLoop comp 1 (.ref it) acc Y.env) (body it) tb us) (hu : ∀ i ∈ us, i ∈ vs) :
    PB Y lc (do
      let x ← eval i1 Y.env
      standAt i1.pos
      let x ← foldedSetIterable i1 Y.env x
      let _ ← runOwn (.compStart comp 1 (← holding [x] (pyIter x)) acc Y.env) Y.env
      again lc) (zlm wi g tt tb vs) vs := fun pins s σ H N I h => by
  have r1 := hi.run pins s σ H _ I h
  rw [hxe] at r1
  refine wpAny_bind (thnF r1 fun xv s1 h1 => wpAny_bind (wpAny_standAt (wpAny_bind (wpAny_of_eq (hs xv) (wpAny_bind (wpAny_holding (thnF h1 fun itv s2 h2 => ?_)))))))
  obtain ⟨it, fp, tn, J, H2, e, I2, T, st2, f2, q⟩ := h2
  subst e
  have loop : codeAny (model Y.prog Y.w) Y.A (.compLoop comp 1 (.ref it) acc Y.env) (fun r s' => match r with
      | .ok _ => ∃ H', Inv Y pins (wipe σ vs) H' s' ∧ N H'
      | .error _ => False) s2 :=
    zqf hc hxe (hq it) (hT it) (hd it) T pg pt (pb it) hu (I2.weak (wipe_length _ _) (fun j v e => (wipe_some e).1)) st2 f2 q fun s' H' I' n => ⟨H', I', n⟩
  refine wpAny_bind (wpAny_runOwn ?_)
  rw [Around.mark_none]
  refine codeAny_mono (go it _ s2 loop (T.self Y.A 0 _ _ _ st2 loop)) fun r s' hr => ?_
  cases r with
  | ok f => exact wpAny_pure ⟨rfl, hr⟩
  | error e => exact hr.elim
end
theorem zxc {X : Cx} {pins : List (Addr × Obj)} {s : Shared} {σ : L2.St} {H : Hp} {comp tg iter : Expr} {ifs : List Expr} {rest : List Comprehension} {scope : Scope} {own : List (Str × Nat)} {pos' : Pos} {wi : TI} {new : HO} {obj0 : Obj} {mk : Sem Value} {Qd : Addr → Hp → Prop} {Qf : Value → Shared → Prop} {use : Option (Value → Sem Unit)}
    (hN : X.N.Nodup) (I : Inv X pins σ H s) (hi : PI X tg iter wi) (ok : BlkOk X.N X.env.scope scope own) (hcl : clausesOf comp = ⟨tg, iter, ifs, 0⟩ :: rest) (hs : ∀ x, foldedSetIterable iter X.env x = pure x)
    (hmk : ∀ (s : Shared) (Q : Value → Shared → Prop) (E : Value → Shared → Prop), Q (.ref s.heap.objs.size) { s with heap := s.heap.push obj0 } → wpAny (model X.prog X.w) X.A mk Q E s)
    (hnew : ∀ (h : Heap) (H : Hp), sysModules < h.objs.size → ObjOk X.prog X.w H (h.push obj0) h.objs.size new)
    {R0 : It → Hp → Prop} (h : wi σ H R0) (hw : ∀ J H1, R0 J H1 → ∀ D, H1 D = none → ∀ (s3 : Shared) (fp : List Addr) (tn : Nat → Heap → Prop) (it : Addr) (ce : Env) (s4 : Shared), Turn X.prog X.w X.K tg J fp it tn → tn 0 s4.heap →
      ce = compEnvC scope (cellsFrom (s3.heap.objs.size + 1) scope.names (cloFrom X.env.cells scope.names [])) s3.heap.objs.size X.env →
      Inv (X.blk s3 (upd H1 D new) scope ce fp) [] (wipe σ (own.map (·.2))) (upd H1 D new) s4 → (∀ b ∈ fp, FpOk (X.blk s3 (upd H1 D new) scope ce fp) [] (upd H1 D new) b) →
      ∀ R : Result → Shared → Prop, (∀ s' H', Inv (X.blk s3 (upd H1 D new) scope ce fp) [] (wipe σ (own.map (·.2))) H' s' → Qd D H' → R (.ok .next) s') → codeAny (model X.prog X.w) X.A (.compStart comp 0 (.ref it) (.ref D) ce) R s4)
    (hQ : ∀ D C s' m H', Inv X pins σ H' s' → Qd D H' → s'.heap.Ns C m → FpOk X pins H' C → compPost (model X.prog X.w) X.A X.xe use Qf (.ref D) C (.ok .next) s') :
    wpAny (model X.prog X.w) X.A (comprehension comp scope X.env pos' mk false (eval iter X.env) use) Qf X.xe s := by
  have hfree : ∀ y ∈ scope.names, y.2 = .free → ∃ c, X.env.cells.lookup y.1 = some c := fun y hy e => (ok.free y hy e).elim (fun k => I.ok.has _ (.inl k)) fun k => I.ok.has _ (.inr k)
  refine wpAny_comprehension_free (use := use) hcl hs (closure_ok hfree) ok.kind (fun y hy e => (ok.uniq y hy).trans (congrArg some e)) (thn (hi.run pins s σ H _ I h) fun xv s1 h1 => thn h1 fun itv s2 h2 => ?_)
  obtain ⟨it, fp, tn, J, H2, e, I2, T, st2, f2, q⟩ := h2
  subst e
  refine hmk s2 _ _ (newEnv_comp ?_)
  have hn2 : H2 s2.heap.objs.size = none := I2.hok.fresh (Nat.le_refl _)
  have keep3 : ∀ b o, s2.heap.get? b = some o → (s2.heap.push obj0).get? b = some o := fun b o z => Heap.get?_push_of_some _ z
  have I3 : Inv X pins σ (upd H2 s2.heap.objs.size new) { s2 with heap := s2.heap.push obj0 } := I2.laid (t' := s2.toks) keep3 (Nat.le_refl _) (hnew _ _ I2.big)
  have f3 : ∀ b ∈ fp, FpOk X pins (upd H2 s2.heap.objs.size new) b ∧ b < (s2.heap.push obj0).objs.size := fun b hb => by
    obtain ⟨o, z, _⟩ := T.obj _ _ st2 b hb
    have lt := Heap.lt_size z
    exact ⟨⟨(upd_ne (Nat.ne_of_lt lt)).trans (f2 b hb).1, (f2 b hb).2⟩, by rw [Heap.size_push]; exact Nat.lt_succ_of_lt lt⟩
  have I4 := block_start I3 ok hN f3
  refine hw J H2 q _ hn2 { s2 with heap := s2.heap.push obj0 } fp tn it _ _ T ?_ rfl I4 (fun b hb => ?_) _ fun s' H' I' qd => ?_
  · exact T.keep _ _ _ st2 fun b _ o z => pushCells_keeps _ _ _ _ (Heap.get?_push_of_some _ (keep3 b o z))
  · exact ⟨(f3 b hb).1.1, (I4.ok.exf b hb).1, I4.ok.exfs b hb, .inl hb, fun x c z => (I4.ok.exf b hb).2 x c z, fun p hp => absurd (show p ∈ ([] : List (Addr × Obj)) ++ [] from hp) (by simp)⟩
  · have I7 : Inv X pins σ H' s' := I3.call' (ch := fp) I'.os I'.base I'.hok I'.bare fun b hb => have z := (f3 b hb).1.2; ⟨z.2.2.1, z.1, z.2.2.2.1, z.2.2.2.2⟩
    obtain ⟨m, hm, _⟩ := I'.loc
    exact hQ _ _ s' m H' I7 qd hm (I3.fpOk (Nat.le_refl _) I'.free)
end Mv
namespace Mv
open PySem PySem.Spec PyProof.Rows L2
abbrev dict0 : Obj := { cls := .type "dict", data := .dict #[] }
theorem z1f {prog : Program} {w : World} {A : Around} {R : Result → Shared → Prop} {s : Shared} {kx vx t0 i0 t1 i1 : Expr} {f0 f1 : List Expr} {scope : Scope} {pos : Pos} {it acc : Value} {env : Env} (h0 : codeAny (model prog w) A (.compLoop (.DictComp kx vx [⟨t0, i0, f0, 0⟩, ⟨t1, i1, f1, 0⟩] scope pos) 1 it acc env) R s)
    (h : wpAny (model prog w) A (pyIter it) (fun it' s' => codeAny (model prog w) A (.compLoop (.DictComp kx vx [⟨t0, i0, f0, 0⟩, ⟨t1, i1, f1, 0⟩] scope pos) 1 it' acc env) R s') noE s) :
    codeAny (model prog w) A (.compStart (.DictComp kx vx [⟨t0, i0, f0, 0⟩, ⟨t1, i1, f1, 0⟩] scope pos) 1 it acc env) R s := by
  refine codeAny_of_tree (show wpAny _ _ ((compStart (.DictComp kx vx [⟨t0, i0, f0, 0⟩, ⟨t1, i1, f1, 0⟩] scope pos) 1 it acc env).onRaise fun x => do noteFrame x env; standAt theWindowsPlace) _ _ s from wpAny_notedAt ?_)
  unfold compStart
  refine (show wpAny _ _ (ask >>= _) _ _ s from wpAny_bind (wpAny_askSetting (wpAny_ite ?_)))
  split
  · first | exact wpAny_pure ⟨rfl, h0⟩ | exact wpAny_bind (wpAny_pure (wpAny_pure ⟨rfl, h0⟩))
  · refine wpAny_bind (wpAny_rule ?_)
    first
      | exact (show wpAny _ _ (standAt i1.pos >>= _) _ _ s from wpAny_bind (wpAny_standAt (wpAny_bind (thnF h fun it' s' h' => wpAny_pure ⟨rfl, h'⟩))))
      | exact wpAny_bind (wpAny_standAt (wpAny_bind (thnF h fun it' s' h' => wpAny_pure ⟨rfl, h'⟩)))
section
variable {X : Cx} {kx vx tg iter tg1 i1 : Expr} {ifs ifs1 : List Expr} {scope : Scope} {own : List (Str × Nat)} {pos : Pos} {wi wi1 : TI} {g g1 : TG} {tt tt1 : TT} {tk tv : TE} {new : HO} {vs1 : List Nat}
def tDc1 (new : HO) (wi : TI) (g : TG) (tt : TT) (tb : Addr → TB) (vs : List Nat) : TE := fun σ H Q => wi σ H fun J H1 => ∀ D, H1 D = none → zpr g tt (tb D) vs J σ (upd H1 D new) fun H' => Q (.ref D) H'
def NewD (X : Cx) (new : HO) : Prop := ∀ (h : Heap) (H : Hp), sysModules < h.objs.size → ObjOk X.prog X.w H (h.push dict0) h.objs.size new
theorem z2s : NewD X (.dK []) := fun h H hb => dk_empty h hb
theorem z2t : NewD X (.dT []) := fun h H hb => dt_empty h hb
def DcR (X : Cx) (kx vx : Expr) (tg iter : Expr) (ifs : List Expr) (rest : List Comprehension) (scope : Scope) (pos : Pos) (t : TE) : Prop := ∀ (pins : List (Addr × Obj)) (s : Shared) (σ : L2.St) (H : Hp) (Q : VK) (pos' : Pos) (use : Option (Value → Sem Unit)) (Qf : Value → Shared → Prop), Inv X pins σ H s → t σ H Q →
  (∀ D C s' m H', Inv X pins σ H' s' → Q (.ref D) H' → s'.heap.Ns C m → FpOk X pins H' C → compPost (model X.prog X.w) X.A X.xe use Qf (.ref D) C (.ok .next) s') →
  wpAny (model X.prog X.w) X.A (comprehension (.DictComp kx vx (⟨tg, iter, ifs, 0⟩ :: rest) scope pos) scope X.env pos' newDict false (eval iter X.env) use) Qf X.xe s
theorem z1g {rest : List Comprehension} {t : TE} (h : DcR X kx vx tg iter ifs rest scope pos t) : PE X (.DictComp kx vx (⟨tg, iter, ifs, 0⟩ :: rest) scope pos) t := by
  refine ⟨fun pins s σ H Q I q => ?_⟩
  rw [arm_eval_DictComp]
  refine h pins s σ H Q _ none _ I q fun D C s' m H' I' q hn f => ⟨m, hn, fun h'' sb => ?_⟩
  obtain ⟨f0, f1, f2, f3, f4, f5⟩ := f
  exact ⟨.ref D, H', I'.turned (t' := s'.toks) (fun b o hb e => (sb.2 b hb).trans e) f0 f1 f3 f4 f5, rfl, q⟩
theorem zvo {rest : List Comprehension} {t : TE} {i : Nat} {y : Str} {py spos : Pos} (h : DcR X kx vx tg iter ifs rest scope pos t) (hN : X.N.Nodup) (hy : X.N[i]? = some y) (hyl : X.env.scope.names.lookup y = some .local)
    (hsw : swapsWith (.DictComp kx vx (⟨tg, iter, ifs, 0⟩ :: rest) scope pos) (some (.Name y py)) spos.line X.env = pure true) : PS X (.Assign [.Name y py] (.DictComp kx vx (⟨tg, iter, ifs, 0⟩ :: rest) scope pos) spos) (tAsg t (gName i)) := by
  refine ⟨fun pins s σ H D I q => ?_⟩
  rw [exec_Assign_Name_used _ _ _ _ hsw]
  refine wpAny_bind (wpAny_standAt (wpAny_bind ?_))
  rw [arm_evalThenUse_DictComp]
  have q : t σ H (fun x H1 => gName i x σ H1 D.nx) := q
  refine wpAny_bind (thn (h pins s σ H _ _ (some (assign (.Name y py) X.env)) (fun _ s' => SP X pins D .next s') I q fun L C s' m H' I' q hn f => ?_) fun _ s' hq => wpAny_pure (wpAny_pure hq))
  obtain ⟨f0, f1, f2, f3, f4, f5⟩ := f
  refine (show wpAny _ _ (assign (.Name y py) X.env (.ref L)) _ _ _ from wpAny_assign_Name (store_ok2 (v := V.ref L) I' hN hy (.inl hyl) rfl (fun s2 I2 ⟨a, sb, ha⟩ => ⟨m, hn.sameBut sb ?_, fun h3 sb3 => ⟨_, H', I2.turned (t' := s2.toks) (fun b o hb e => (sb3.2 b hb).trans e) f0 f1 f3 f4 f5, q⟩⟩) (.inr hyl)))
  exact ha.elim (fun z => z ▸ f1) fun z e => f4 y a z e.symm
theorem zps {gs : List Comprehension} {py : Pos} {y : Str} {l : Nat} {env : Env} (hk : env.scope.kind = .function) (hy : env.scope.names.lookup y = some .local) (hl : (py.line == pos.line) = true)
    (ha : (scope.names.any fun (n, k) => n == y && (k == .local || k == .cell)) = false) : swapsWith (.DictComp kx vx gs scope pos) (some (.Name y py)) l env = pure true := by
  have hb : env.blockKind = .function := by unfold Env.blockKind; rw [hk]; rfl
  have hy' : env.kindOf y = some .local := hy
  unfold swapsWith
  simp only [hb, hy', ha, Expr.pos, hl]
  rfl
theorem zvp {pins : List (Addr × Obj)} {s : Shared} {σ : L2.St} {H : Hp} {rest : List Comprehension} {tb : Addr → TB} {us : List Nat} {body : Code → Addr → Env → Sem PySem.Fin} {use : Option (Value → Sem Unit)} {Qf : Value → Shared → Prop} {pos' : Pos} {Q : VK} (hc : X.calm = true) (hN : X.N.Nodup) (I : Inv X pins σ H s) (hi : PI X tg iter wi)
    (ok : BlkOk X.N X.env.scope scope own) (hg : ∀ s H C cl fp, PG (X.blk s H scope (compEnvC scope cl C X.env) fp) tg g) (ht : ∀ s H C cl fp, PTs (X.blk s H scope (compEnvC scope cl C X.env) fp) ifs tt) (hb : ∀ lc D s H C cl fp, PB (X.blk s H scope (compEnvC scope cl C X.env) fp) lc (body lc D (compEnvC scope cl C X.env)) (tb D) us)
    (hu : ∀ i ∈ us, i ∈ own.map (·.2)) (hs : ∀ x, foldedSetIterable iter X.env x = pure x) (nw : NewD X new)
    (hT : ∀ (it : Value) (D : Addr) (env : Env), compTurn (.DictComp kx vx (⟨tg, iter, ifs, 0⟩ :: rest) scope pos) 0 it (.ref D) env = (do
      standAt iter.pos
      match ← pyNext it with
      | none => pure (.done .next)
      | some v =>
        letOwnedTupleGo tg it v
        assign tg env v
        let mut ok := true
        for t in ifs do
          if ok then ok ← isTrue t env (eval t env)
        if ok then body (.compLoop (.DictComp kx vx (⟨tg, iter, ifs, 0⟩ :: rest) scope pos) 0 it (.ref D) env) D env
        else again (.compLoop (.DictComp kx vx (⟨tg, iter, ifs, 0⟩ :: rest) scope pos) 0 it (.ref D) env)))
    (h : tDc1 new wi g tt tb (own.map (·.2)) σ H Q) (hQ : ∀ D C s' m H', Inv X pins σ H' s' → Q (.ref D) H' → s'.heap.Ns C m → FpOk X pins H' C → compPost (model X.prog X.w) X.A X.xe use Qf (.ref D) C (.ok .next) s') :
    wpAny (model X.prog X.w) X.A (comprehension (.DictComp kx vx (⟨tg, iter, ifs, 0⟩ :: rest) scope pos) scope X.env pos' newDict false (eval iter X.env) use) Qf X.xe s := by
  refine zxc (obj0 := dict0) (Qd := fun D H' => Q (.ref D) H') hN I hi ok rfl hs (fun s Q E q => wpAny_newObj_type q) nw h (fun J H1 q D hD s3 fp tn it ce s4 T st e I4 f4 R hR => ?_) hQ
  subst e
  have loop : codeAny (model X.prog X.w) X.A (.compLoop (.DictComp kx vx (⟨tg, iter, ifs, 0⟩ :: rest) scope pos) 0 (.ref it) (.ref D) (compEnvC scope (cellsFrom (s3.heap.objs.size + 1) scope.names (cloFrom X.env.cells scope.names [])) s3.heap.objs.size X.env)) R s4 :=
    zqf (Y := X.blk s3 (upd H1 D new) scope _ fp) hc rfl rfl (hT (.ref it) D _) (fun s Q E q => q) T (hg _ _ _ _ _) (ht _ _ _ _ _) (hb _ D _ _ _ _ _) hu I4 st f4 (q D hD) hR
  exact codeAny_compStart_dict loop (T.self X.A 0 _ _ _ st loop)
abbrev zyn (kx vx : Expr) (lc : Code) (D : Addr) (env : Env) : Sem PySem.Fin := do
  (do let a ← eval kx env
      let b ← holding [a] (eval vx env)
      standAt { kx.pos with endLine := vx.pos.endLine, endCol := vx.pos.endCol }
      holding [a, b] (dictSet D a b))
  again lc
theorem z2u (hc : X.calm = true) (hN : X.N.Nodup) (hx : X.A.units + 1 < cLine) (hi : PI X tg iter wi) (ok : BlkOk X.N X.env.scope scope own) (hg : ∀ s H C cl fp, PG (X.blk s H scope (compEnvC scope cl C X.env) fp) tg g) (ht : ∀ s H C cl fp, PTs (X.blk s H scope (compEnvC scope cl C X.env) fp) ifs tt)
    (hk : ∀ s H C cl fp, PE (X.blk s H scope (compEnvC scope cl C X.env) fp) kx tk) (hv : ∀ s H C cl fp, PE (X.blk s H scope (compEnvC scope cl C X.env) fp) vx tv) (nw : NewD X new) (hs : ∀ x, foldedSetIterable iter X.env x = pure x := by intro _; rfl) :
    DcR X kx vx tg iter ifs [] scope pos (tDc1 new wi g tt (tPut tk tv) (own.map (·.2))) := by
  intro pins s σ H Q pos' use Qf I h hQ
  refine zvp (us := []) (tb := tPut tk tv) (body := zyn kx vx) (use := use) hc hN I hi ok hg ht (fun lc D s H C cl fp => zvn (Y := X.blk s H scope (compEnvC scope cl C X.env) fp) rfl hx (hk _ _ _ _ _) (hv _ _ _ _ _)) (fun i h => nomatch h) hs nw (fun it D env => by rfl) h hQ
theorem z2v (hc : X.calm = true) (hN : X.N.Nodup) (hx : X.A.units + 1 < cLine) (hi : PI X tg iter wi) (ok : BlkOk X.N X.env.scope scope own) (hg : ∀ s H C cl fp, PG (X.blk s H scope (compEnvC scope cl C X.env) fp) tg g) (ht : ∀ s H C cl fp, PTs (X.blk s H scope (compEnvC scope cl C X.env) fp) ifs tt)
    (hi1 : ∀ s H C cl fp, PI (X.blk s H scope (compEnvC scope cl C X.env) fp) tg1 i1 wi1) (hg1 : ∀ s H C cl fp, PG (X.blk s H scope (compEnvC scope cl C X.env) fp) tg1 g1) (ht1 : ∀ s H C cl fp, PTs (X.blk s H scope (compEnvC scope cl C X.env) fp) ifs1 tt1)
    (hk : ∀ s H C cl fp, PE (X.blk s H scope (compEnvC scope cl C X.env) fp) kx tk) (hv : ∀ s H C cl fp, PE (X.blk s H scope (compEnvC scope cl C X.env) fp) vx tv) (hu : ∀ i ∈ vs1, i ∈ own.map (·.2)) (nw : NewD X new)
    (hs : ∀ x, foldedSetIterable iter X.env x = pure x := by intro _; rfl) (hs1 : ∀ env x, foldedSetIterable i1 env x = pure x := by intro _ _; rfl) :
    DcR X kx vx tg iter ifs [⟨tg1, i1, ifs1, 0⟩] scope pos (tDc1 new wi g tt (fun D => zlm wi1 g1 tt1 (tPut tk tv D) vs1) (own.map (·.2))) := by
  intro pins s σ H Q pos' use Qf I h hQ
  refine zvp (us := vs1) (tb := fun D => zlm wi1 g1 tt1 (tPut tk tv D) vs1) (use := use) (body := fun lc D env => do
    let x ← eval i1 env
    standAt i1.pos
    let x ← foldedSetIterable i1 env x
    let _ ← runOwn (.compStart (.DictComp kx vx [⟨tg, iter, ifs, 0⟩, ⟨tg1, i1, ifs1, 0⟩] scope pos) 1 (← holding [x] (pyIter x)) (.ref D) env) env
    again lc) hc hN I hi ok hg ht
    (fun lc D s H C cl fp => zxb (Y := X.blk s H scope (compEnvC scope cl C X.env) fp) (acc := .ref D) (us := []) (p := i1.pos) (body := fun it => zyn kx vx (.compLoop (.DictComp kx vx [⟨tg, iter, ifs, 0⟩, ⟨tg1, i1, ifs1, 0⟩] scope pos) 1 (.ref it) (.ref D) (compEnvC scope cl C X.env)) D (compEnvC scope cl C X.env))
      hc rfl (hs1 _) (fun it => rfl) (fun it => by rfl) (fun it s Q E q => q) (fun it R s h0 h1 => z1f h0 h1) (hi1 _ _ _ _ _) (hg1 _ _ _ _ _) (ht1 _ _ _ _ _) (fun it => zvn (Y := X.blk s H scope (compEnvC scope cl C X.env) fp) rfl hx (hk _ _ _ _ _) (hv _ _ _ _ _)) (fun i h => nomatch h)) hu hs nw (fun it D env => by rfl) h hQ
end
end Mv
namespace Mv
open PySem PySem.Spec PyProof.Rows L2
abbrev DB := Dl → O → (Dl → O → Prop) → Prop
def zpt (g : DG) (tt : DT) (tb : DB) (vs : List Nat) (ds : List D) (δ1 : Dl) (acc0 : O) (Q : Dl → O → Prop) : Prop := ds.length ≤ sizeLine ∧ ∃ I : Nat → Dl → O → Prop, I 0 (zu δ1 vs) acc0 ∧
  (∀ i d δ2 acc, ds[i]? = some d → I i δ2 acc → g d δ2 fun δ3 => tt δ3 fun δ4 b => if b = true then tb δ4 acc fun δ5 acc' => I (i + 1) (zu δ5 vs) acc' else I (i + 1) (zu δ4 vs) acc) ∧
  ∀ δ2 acc, I ds.length δ2 acc → Q (zu δ2 vs) acc
def putO (acc : O) (y z : D) (Q : O → Prop) : Prop := match acc with
  | .dk kvs => ∃ k, dkey y = some k ∧ kvs.length < sizeLine ∧ Q (.dk (putG kvs k z))
  | .dt kvs => ∃ k, tkey y = some k ∧ kvs.length < sizeLine ∧ Q (.dt (putG kvs k z))
  | _ => False
def zaj (tk tv : DE) : DB := fun δ acc Q => tk δ fun δ1 y => tv δ1 fun δ2 z => putO acc y z (Q δ2)
def ziq (wi : DI) (g : DG) (tt : DT) (tb : DB) (vs : List Nat) : DB := fun δ acc Q => wi δ fun δ1 ds => zpt g tt tb vs ds δ1 acc Q
def dDc (o0 : O) (wi : DI) (g : DG) (tt : DT) (tb : DB) (vs : List Nat) : DOw := fun δ Q => wi δ fun δ1 ds => zpt g tt tb vs ds δ1 o0 fun δ2 acc => Q (za2 δ1 δ2 vs) acc
def OwnO (K : PySem.W.Frag) (F : Hp) (ho : HO) : O → Prop
  | .lst ds => ∃ vs, ho = .lst vs ∧ RepL K F vs ds
  | .dk kvs => ∃ ws, ho = .dK ws ∧ RepK K F ws kvs
  | .dt kvs => ∃ ws, ho = .dT ws ∧ RepT K F ws kvs
  | .ins C fs => ∃ ws : Addr × List (Str × V), ho = .ins C ws.1 ws.2 ∧ RepF K F ws.2 fs
theorem OwnO.mono {K : PySem.W.Frag} {F F' : Hp} {ho : HO} {o : O} (h : OwnO K F ho o) (e : Ex F F') : OwnO K F' ho o := by
  cases o <;> (obtain ⟨vs, h1, h2⟩ := h; exact ⟨vs, h1, h2.mono e⟩)
theorem OwnO.own {K : PySem.W.Frag} {F H : Hp} {p : Addr} {ho : HO} {o : O} (h : OwnO K F ho o) (e : H p = some ho) : OwnAt K F H p o := by
  cases o <;> (obtain ⟨vs, rfl, h2⟩ := h; exact ⟨vs, e, h2⟩)
def BUp (K : PySem.W.Frag) (D : Addr) (tb0 : TB) (tb : DB) (us : List Nat) : Prop := ∀ (F0 H0 : Hp) (P : Pl) (δ : Dl) (σ : L2.St) (F H : Hp) (ho : HO) (acc : O) (Q' : Dl → O → Prop) (N : Hp → Prop), RepS K F0 H0 ((D, ho) :: P) δ σ F H → D ∉ pk P → OwnO K F ho acc → tb δ acc Q' →
  (∀ δ' F' H' ho' acc', RepS K F0 H0 ((D, ho') :: P) δ' (L2.wipe σ us) F' H' → Ex F F' → OwnO K F' ho' acc' → Q' δ' acc' → N H') → tb0 σ H N
theorem zxd {τ : L2.St} {us vs : List Nat} (h : ∀ i ∈ us, i ∈ vs) : L2.wipe (L2.wipe τ us) vs = L2.wipe τ vs := by
  apply List.ext_getElem?
  intro j
  rw [zak, zak, zak, L2.wipe_length]
  by_cases a : j ∈ vs
  · by_cases b : j < τ.length
    · rw [if_pos ⟨a, b⟩, if_pos ⟨a, b⟩]
    · rw [if_neg (fun z => b z.2), if_neg (fun z => b z.2), if_neg (fun z => b z.2)]
  · rw [if_neg (fun z => a z.1), if_neg (fun z => a (h j z.1)), if_neg (fun z => a z.1)]
section
variable {K : PySem.W.Frag} {L : Addr} {g0 : TG} {g : DG} {tt : DT} {tb0 : TB} {tb : DB} {vs us : List Nat}
theorem ztd (gk : CT K vs g0 g) (bu : BUp K L tb0 tb us) (hu : ∀ i ∈ us, i ∈ vs) {F0 H0 : Hp} {P : Pl} {δ1 : Dl} {σ : L2.St} {F1 H1 : Hp} {ho : HO} {acc0 : O} {Q' : Dl → O → Prop} {Qd : Hp → Prop} {J : It} {ds : List D}
    (R1 : RepS K F0 H0 ((L, ho) :: P) δ1 σ F1 H1) (hD : L ∉ pk P) (oa : OwnO K F1 ho acc0) (wk : WalkD K F1 J ds) (h : zpt g tt tb vs ds δ1 acc0 Q')
    (k : ∀ δ2 F' H' ho' acc', RepS K F0 H0 ((L, ho') :: P) (zu δ2 vs) (L2.wipe σ vs) F' H' → Ex F1 F' → OwnO K F' ho' acc' → Q' (zu δ2 vs) acc' → Qd H') : zpr g0 (upT K tt) tb0 vs J σ H1 Qd := by
  obtain ⟨hsz, I, i0, is, id⟩ := h
  refine ⟨fun i m H2 => m = ds.length - i ∧ i ≤ ds.length ∧ ∃ δ2 F2 ho2 acc, RepS K F0 H0 ((L, ho2) :: P) δ2 (L2.wipe σ vs) F2 H2 ∧ Ex F1 F2 ∧ OwnO K F2 ho2 acc ∧ I i δ2 acc, ⟨_, rfl, Nat.zero_le _, _, F1, ho, acc0, R1.wipe vs, Ex.refl F1, oa, i0⟩, ?_⟩
  rintro i m H2 ⟨rfl, hi, δ2, F2, ho2, acc, R2, e2, oa2, q2⟩
  by_cases hlt : i < ds.length
  · have hd : ds[i]? = some ds[i] := List.getElem?_eq_getElem hlt
    refine .inr ⟨wk.go i H2 hlt (e2.trans R2.e3), fun H3 => ∃ δ3 F3 ho3 acc, RepS K F0 H0 ((L, ho3) :: P) δ3 (L2.wipe σ vs) F3 H3 ∧ Ex F1 F3 ∧ OwnO K F3 ho3 acc ∧ I (i + 1) δ3 acc,
      fun H3 ⟨δ3, F3, ho3, acc, z⟩ => ⟨_, by omega, rfl, hlt, δ3, F3, ho3, acc, z⟩, fun x H3 y => ?_⟩
    have y' := wk.yld i _ F2 H2 x H3 hd e2 R2.e3 R2.tp y
    obtain ⟨F3, R3, e3, rx⟩ := y'.rep R2
    refine gk F0 H0 _ _ _ F3 H3 x _ _ _ R3 rx (is i _ _ acc hd q2) fun δ4 σ4 R4 w4 q4 => ⟨w4.trans zb8, ?_⟩
    have w5 : L2.wipe σ4 vs = L2.wipe σ vs := w4.trans zb8
    refine ⟨F0, H0, _, δ4, F3, _, R4, q4, fun δ5 F5 H5 b R5 e5 q5 => ?_⟩
    cases b with
    | true =>
      rw [if_pos rfl] at q5 ⊢
      refine bu F0 H0 P δ5 σ4 F5 H5 ho2 acc _ _ R5 hD (oa2.mono (e3.trans e5)) q5 fun δ6 F6 H6 ho6 acc6 R6 e6 oa6 q6 => ?_
      have R7 := R6.wipe vs
      rw [zxd hu, w5] at R7
      exact ⟨_, F6, ho6, acc6, R7, e2.trans ((e3.trans e5).trans e6), oa6, q6⟩
    | false =>
      rw [if_neg (by decide)] at q5 ⊢
      exact ⟨_, F5, ho2, acc, w5 ▸ (R5.wipe vs), e2.trans (e3.trans e5), oa2.mono (e3.trans e5), q5⟩
  · have e : i = ds.length := by omega
    subst e
    refine .inl ⟨wk.stop H2 (e2.trans R2.e3), ?_⟩
    have R3 := R2.wipe vs
    rw [zb8] at R3
    exact k δ2 F2 H2 ho2 acc R3 e2 oa2 (id _ acc q2)
theorem zvq {tk tv : DE} : BUp K L (tPut (upE K tk) (upE K tv) L) (zaj tk tv) [] := fun F0 H0 P δ σ F H ho acc Q' N R hD oa h k => by
  refine ⟨F0, H0, _, δ, F, _, R, h, fun δ1 F1 H1 y dy R1 e1 ry h1 => ?_⟩
  refine ⟨F0, H0, _, δ1, F1, _, R1, h1, fun δ2 F2 H2 z dz R2 e2 rz h2 => ?_⟩
  have hH := (R2.rsv L ho (by simp)).2.2
  have oa2 := oa.mono (e1.trans e2)
  cases acc with
  | lst _ => exact h2.elim
  | ins _ _ => exact h2.elim
  | dk kvs =>
    obtain ⟨ws, rfl, rw⟩ := oa2
    obtain ⟨kk, hk, hl, q⟩ := h2
    exact ⟨_, .inl ⟨ws, kk, hH, zax ry hk, by rw [rw.g.length]; exact hl, rfl⟩, k δ2 F2 _ _ (.dk _) (R2.wrP hD _) (e1.trans e2) ⟨_, rfl, (rw.g.put kk rz).k⟩ q⟩
  | dt kvs =>
    obtain ⟨ws, rfl, rw⟩ := oa2
    obtain ⟨kk, hk, hl, q⟩ := h2
    obtain ⟨c, rfl, hc⟩ := zkh (ry.mono e2) hk
    exact ⟨_, .inr ⟨ws, kk, c, hH, rfl, R2.e3 _ _ hc, by rw [rw.g.length]; exact hl, rfl⟩, k δ2 F2 _ _ (.dt _) (R2.wrP hD _) (e1.trans e2) ⟨_, rfl, (rw.g.put kk rz).t⟩ q⟩
theorem zxe {wi : DI} (gk : CT K vs g0 g) (bu : BUp K L tb0 tb us) (hu : ∀ i ∈ us, i ∈ vs) : BUp K L (zlm (upI K wi) g0 (upT K tt) tb0 vs) (ziq wi g tt tb vs) vs := fun F0 H0 P δ σ F H ho acc Q' N R hD oa h k =>
  ⟨F0, H0, _, δ, F, _, R, h, fun δ1 F1 H1 J ds R1 e1 wk q => ztd gk bu hu R1 hD (oa.mono e1) wk q fun δ2 F2 H2 ho2 acc2 R2 e2 oa2 q2 => k _ F2 H2 ho2 acc2 R2 (e1.trans e2) oa2 q2⟩
inductive New0 : HO → O → Prop
  | k : New0 (.dK []) (.dk [])
  | t : New0 (.dT []) (.dt [])
theorem zyo {wi : DI} {new : HO} {o0 : O} (nw : New0 new o0) (gk : CT K vs g0 g) {tbs : Addr → TB} (bu : ∀ C, BUp K C (tbs C) tb us) (hu : ∀ i ∈ us, i ∈ vs) {σ : L2.St} {H : Hp} {Q : VK} (h : upO K (dDc o0 wi g tt tb vs) σ H Q) : tDc1 new (upI K wi) g0 (upT K tt) tbs vs σ H Q := by
  obtain ⟨F0, H0, P, δ, F, Q', R, ht, k⟩ := h
  refine ⟨F0, H0, P, δ, F, _, R, ht, fun δ1 F1 H1 J ds R1 e1 wk q C hD => ?_⟩
  have hP := R1.fresh hD
  have RD : RepS K F0 H0 ((C, new) :: P) δ1 σ F1 (upd H1 C new) := by cases nw <;> exact R1.newP hD
  have oa : OwnO K F1 new o0 := by
    cases nw
    · exact ⟨[], rfl, .nil⟩
    · exact ⟨[], rfl, .nil⟩
  refine ztd gk (bu C) hu RD hP oa wk q fun δ2 F2 H2 ho2 acc2 R2 e2 oa2 q2 => ?_
  exact k _ F2 H2 C ho2 acc2 (RepS.rest2 R1 e2 (RepS.unwipe R2)) hP (e1.trans e2) (oa2.own (R2.rsv C _ (by simp)).2.2) q2
end
section
variable {X : Cx} {K : PySem.W.Frag} {kx vx tg iter tg1 i1 : Expr} {ifs ifs1 : List Expr} {scope : Scope} {own : List (Str × Nat)} {pos : Pos} {wi wi1 : DI} {g0 g01 : TG} {g g1 : DG} {tt tt1 : DT} {tk tv : DE} {vs1 : List Nat} {new : HO} {o0 : O} {rest : List Comprehension} {t : DOw} {t0 : TE}
theorem zte (h : New0 new o0) : NewD X new := by cases h; exact z2s; exact z2t
def DcU (X : Cx) (K : PySem.W.Frag) (kx vx tg iter : Expr) (ifs : List Expr) (rest : List Comprehension) (scope : Scope) (pos : Pos) (t : DOw) : Prop := ∃ t0, DcR X kx vx tg iter ifs rest scope pos t0 ∧ ∀ σ H Q, upO K t σ H Q → t0 σ H Q
theorem dcu1 (nw : New0 new o0) (hc : X.calm = true) (hN : X.N.Nodup) (hx : X.A.units + 1 < cLine) (hi : PI X tg iter (upI K wi)) (ok : BlkOk X.N X.env.scope scope own) (hg : ∀ s H C cl fp, PG (X.blk s H scope (compEnvC scope cl C X.env) fp) tg g0) (ht : ∀ s H C cl fp, PTs (X.blk s H scope (compEnvC scope cl C X.env) fp) ifs (upT K tt))
    (hk : ∀ s H C cl fp, PE (X.blk s H scope (compEnvC scope cl C X.env) fp) kx (upE K tk)) (hv : ∀ s H C cl fp, PE (X.blk s H scope (compEnvC scope cl C X.env) fp) vx (upE K tv)) (gk : CT K (own.map (·.2)) g0 g) (hs : ∀ x, foldedSetIterable iter X.env x = pure x := by intro _; rfl) :
    DcU X K kx vx tg iter ifs [] scope pos (dDc o0 wi g tt (zaj tk tv) (own.map (·.2))) :=
  ⟨_, z2u hc hN hx hi ok hg ht hk hv (zte nw) hs, fun σ H Q h => zyo nw gk (us := []) (fun C => zvq) (fun i h => nomatch h) h⟩
theorem dcu2 (nw : New0 new o0) (hc : X.calm = true) (hN : X.N.Nodup) (hx : X.A.units + 1 < cLine) (hi : PI X tg iter (upI K wi)) (ok : BlkOk X.N X.env.scope scope own) (hg : ∀ s H C cl fp, PG (X.blk s H scope (compEnvC scope cl C X.env) fp) tg g0) (ht : ∀ s H C cl fp, PTs (X.blk s H scope (compEnvC scope cl C X.env) fp) ifs (upT K tt))
    (hi1 : ∀ s H C cl fp, PI (X.blk s H scope (compEnvC scope cl C X.env) fp) tg1 i1 (upI K wi1)) (hg1 : ∀ s H C cl fp, PG (X.blk s H scope (compEnvC scope cl C X.env) fp) tg1 g01) (ht1 : ∀ s H C cl fp, PTs (X.blk s H scope (compEnvC scope cl C X.env) fp) ifs1 (upT K tt1))
    (hk : ∀ s H C cl fp, PE (X.blk s H scope (compEnvC scope cl C X.env) fp) kx (upE K tk)) (hv : ∀ s H C cl fp, PE (X.blk s H scope (compEnvC scope cl C X.env) fp) vx (upE K tv)) (gk : CT K (own.map (·.2)) g0 g) (gk1 : CT K vs1 g01 g1) (hu : ∀ i ∈ vs1, i ∈ own.map (·.2))
    (hs : ∀ x, foldedSetIterable iter X.env x = pure x := by intro _; rfl) (hs1 : ∀ env x, foldedSetIterable i1 env x = pure x := by intro _ _; rfl) :
    DcU X K kx vx tg iter ifs [⟨tg1, i1, ifs1, 0⟩] scope pos (dDc o0 wi g tt (ziq wi1 g1 tt1 (zaj tk tv) vs1) (own.map (·.2))) :=
  ⟨_, z2v hc hN hx hi ok hg ht hi1 hg1 ht1 hk hv hu (zte nw) hs hs1, fun σ H Q h => zyo nw gk (us := vs1) (fun C => zxe gk1 zvq (fun i h => nomatch h)) hu h⟩
theorem zln (h : DcU X K kx vx tg iter ifs rest scope pos t) : PE X (.DictComp kx vx (⟨tg, iter, ifs, 0⟩ :: rest) scope pos) (upO K t) := let ⟨_, r, u⟩ := h; pimp (z1g r) u
theorem zxf {i : Nat} {y : Str} {py spos : Pos} (hN : X.N.Nodup) (hy : X.N[i]? = some y) (hyl : X.env.scope.names.lookup y = some .local) (hsw : swapsWith (.DictComp kx vx (⟨tg, iter, ifs, 0⟩ :: rest) scope pos) (some (.Name y py)) spos.line X.env = pure true)
    (h : DcU X K kx vx tg iter ifs rest scope pos t) : PS X (.Assign [.Name y py] (.DictComp kx vx (⟨tg, iter, ifs, 0⟩ :: rest) scope pos) spos) (upS K (zjx i t)) := let ⟨_, r, u⟩ := h
  vu (zqd (zvo r hN hy hyl hsw)) fun E σ H ⟨F0, H0, δ, F, D', W⟩ => u σ H _ ⟨F0, H0, [], δ, F, _, W.rep, W.t, fun δ1 F1 H1 p ho o R1 hP e1 oa q => by
    have n1 := (R1.rsv p ho (by simp)).2.1
    obtain ⟨ho', hh, mu, rp⟩ := oa.rep n1
    exact .inr ⟨p, ho', hh, mu, fun od => W.nx _ _ _ _ ((R1.frzP hP _).setF i (rp od)) (e1.trans (Ex.new n1)) q⟩⟩
theorem zir {i : Nat} {y : Str} {py spos : Pos} (hN : X.N.Nodup) (hy : X.N[i]? = some y) (hyl : X.env.scope.names.lookup y = some .local) (hsw : swapsWith (.DictComp kx vx (⟨tg, iter, ifs, 0⟩ :: rest) scope pos) (some (.Name y py)) spos.line X.env = pure true)
    (h : DcU X K kx vx tg iter ifs rest scope pos t) : PS X (.Assign [.Name y py] (.DictComp kx vx (⟨tg, iter, ifs, 0⟩ :: rest) scope pos) spos) (upS K (yf i t)) := let ⟨_, r, u⟩ := h
  vu (zvo r hN hy hyl hsw) fun E σ H ⟨F0, H0, δ, F, D', W⟩ => u σ H _ ⟨F0, H0, [], δ, F, _, W.rep, W.t, fun δ1 F1 H1 p ho o R1 hP e1 oa q => W.nx _ _ F1 H1 (R1.setO hP i oa) e1 q⟩
end
end Mv
namespace Mv
open PySem PySem.Spec PyProof.Rows L2
section
variable {X : Cx} {K : PySem.W.Frag} {e : Expr} {es : List Expr} {tw : DV} {pos p p2 : Pos} {n : String} {x y : Str}
end
end Mv
namespace Mv
open PySem PySem.Spec PyProof.Rows L2
section
variable {X : Cx} {K : PySem.W.Frag} {e a b c o : Expr} {es : List Expr} {ta tb tc te tk : DE} {ts tz : DA} {kws : List Keyword} {nm : Option Str} {pos p apos cpos kpos : Pos}
theorem zyp {t t' : TA} (h : PK X kws t) (i : ∀ σ H Q, t' σ H Q → t σ H Q) : PK X kws t' := ⟨fun p pins s σ H Q I q => h.run p pins s σ H Q I (i σ H Q q)⟩
theorem pkdn : PK X [] (upA K dNil) := zyp pk_nil fun σ H Q ⟨F0, H0, P, δ, F, Q', R, ht, k⟩ => k δ F H _ _ R (Ex.refl F) .nil ht
theorem pkdc (he : PE X e (upE K te)) (hr : PK X kws (upA K ts)) : PK X (⟨nm, e, kpos⟩ :: kws) (upA K (zg te ts)) := zyp (pk_cons he hr) fun σ H Q ⟨F0, H0, P, δ, F, Q', R, ht, k⟩ => by
  refine ⟨F0, H0, P, δ, F, _, R, ht, fun δ1 F1 H1 x dx R1 e1 rx ht => ?_⟩
  refine ⟨F0, H0, P, δ1, F1, _, R1, ht, fun δ2 F2 H2 vs ds R2 e2 rs ht => ?_⟩
  exact k δ2 F2 H2 _ _ R2 (e1.trans e2) (.cons (rx.mono e2) rs) ht
def zel (n m N : Nat) (sp : DSp) (ts tz : DA) (ord : List D → List D → List D) : DE := fun δ Q => ts δ fun δ1 ds => tz δ1 fun δ2 zs => ds.length = n ∧ zs.length = m ∧ (ord ds zs).length = N ∧ sp (ord ds zs) fun r => Q δ2 r.d
def zyq (K : PySem.W.Frag) (gV : List V → List V → List V) (ord : List D → List D → List D) : Prop := ∀ {F : Hp} {vs zs : List V} {ds es : List D}, RepL K F vs ds → RepL K F zs es → RepL K F (gV vs zs) (ord ds es)
theorem zis {n m N : Nat} {sp : DSp} {E : XK} {gV : List V → List V → List V} {ord : List D → List D → List D} (h : PE X e (tCallN n m (spD K N sp) gV E (upA K ts) (upA K tz))) (ho : zyq K gV ord) : PE X e (upE K (zel n m N sp ts tz ord)) := pimp (zgu h) fun σ H Q ⟨F0, H0, P, δ, F, Q', R, ht, k⟩ => by
  refine ⟨F0, H0, P, δ, F, _, R, ht, fun δ1 F1 H1 vs ds R1 e1 rs ht => ?_⟩
  refine ⟨F0, H0, P, δ1, F1, _, R1, ht, fun δ2 F2 H2 zs es R2 e2 rz ⟨hn, hm, hN, ht⟩ => ?_⟩
  refine ⟨rs.length.trans hn, rz.length.trans hm, F2, _, _, R2.e3, R2.tp, R2.low.mono R2.e1, ho (rs.mono e2) rz, hN, ht, fun F3 H3 v r G ok q => ?_⟩
  induction r with
  | nk _ => exact ok.elim
  | nt _ => exact ok.elim
  | wld _ => exact ok.elim
  | rw s W ih => exact ih ok.1 q
  | fz d => exact .inl (k δ2 F3 H3 v d (R2.grow G.e1 G.e2 G.e3 G.fr G.tp) ((e1.trans e2).trans G.e1) ok q)
  | own o =>
    obtain ⟨a, rfl, h1, h3, oa⟩ := ok
    obtain ⟨ho, hh, mu, rp⟩ := oa.rep h3
    obtain ⟨R3, hP⟩ := R2.growP G h1 hh h3
    exact .inr ⟨a, ho, hh, mu, fun od => k δ2 _ _ _ _ (R3.frzP hP _) (((e1.trans e2).trans G.e1).trans (Ex.new h3)) (rp od) q⟩
end
section
variable {P : Program} {w : World} {K : PySem.W.Frag} {mg : Str → Option Value} {base : Heap}
theorem okDK {x qual : Str} {st : Stmt} {f : Addr} {fd : FuncData} {N ps : List Str} {k : Nat} {sp : DSp} {kws : List (Str × V)} (Fn : FunD K x qual (defArgs st) (defBody st) (defScope st) [] kws f fd) (S' : FnScope N ps (defScope st))
    (hbody : ∀ (cdv : Value) (A : Around) (outer : List Env) (s : Shared) (H : Hp) (E : XK), Room k (A.deeper (envOfC qual (defScope st) s.heap.objs.size f cdv)) →
      ∃ t, PSs (cxOf CX0 P w K mg base N qual (defScope st) f cdv A outer s H E).nox (defBody st) (upS K t) ∧ ∀ ds Q', ds.length = ps.length → sp ds Q' → t { nx := fun _ => Q' (.fz .non), rt := Q' } (zp N.length ds)) : FnOk P w K mg base CX0 (k + 1) f fd ps (spD K ps.length sp) := by
  refine Fn.ok S' (fun vs H Q E h => ?_) (fun cdv A outer s H vs Q E hr h => ?_)
  · obtain ⟨F, ds, Q', _, _, _, r, l, _⟩ := h
    rw [r.length, l]
  · obtain ⟨F, ds, Q', e, tp, lo, r, l, hs, k'⟩ := h
    obtain ⟨t, ht, hq⟩ := hbody cdv A outer s H E hr
    refine ⟨_, ht.nox, F, H, zp N.length ds, F, _, ⟨zik e tp lo r, hq ds Q' l hs, fun δ' σ' F' H' R _ q => ?_, fun _ _ _ _ _ _ q => q.elim, fun _ _ _ _ _ _ q => q.elim, fun F' H' v r G ok q => k' F' H' v r G ok q⟩⟩
    exact k' F' H' .non (.fz .non) R.grown .non q
end
end Mv
namespace Mv
open PySem PySem.Spec PyProof.Rows L2
section
variable {X : Cx} {K : PySem.W.Frag} {e a b c o f : Expr} {es : List Expr} {ta tb tc te tk tx : DE} {to : DOw} {tw : DV} {ts : DA} {st : Stmt} {pos p p2 q apos cpos pos' : Pos}
def zzi (v : V) (vs : List V) (j : Nat) : Prop := ∃ z, vs[j]? = some z ∧ eqV z v = true ∧ ∀ (m : Nat) (z' : V), m < j → vs[m]? = some z' → eqV z' v = false
def zlo (tw : DV) (tk : DE) : DE := fun δ Q => tw δ fun δ1 x => (∃ ds, vwD δ1 x = some (.lst ds)) ∧ tk δ1 fun δ2 kd => ∃ ds v vs j, vwD δ2 x = some (.lst ds) ∧ zd0 kd = some v ∧ ym ds = some vs ∧ zzi v vs j ∧ Q δ2 (.int (j : Nat))
theorem zqg {i : DV} (h : PE X (.Call (.Attribute o "index" apos) [e] [] pos) (tBM X.K "list" (rIndex X.K) (upV K tw) (tCons (upE K tk) tNil))) (hK : X.K = K := by rfl) : PE X (.Call (.Attribute o "index" apos) [e] [] pos) (upE K (zlo tw tk)) := by
  subst hK
  refine pimp h fun σ H Q ⟨F0, H0, P, δ, F, Q', R, ht, k⟩ => ?_
  refine ⟨F0, H0, P, δ, F, _, R, ht, fun δ1 F1 H1 v x R1 e1 ok ⟨⟨ds, hd⟩, ht⟩ => ?_⟩
  obtain ⟨a, vs, rfl, hs, rs⟩ := (R1.view ok (Ex.refl F1) hd).lst'
  refine ⟨.inl ⟨rfl, vs, .inl hs⟩, F0, H0, P, δ1, F1, _, R1, ht, fun δ2 F2 H2 y dy R2 e2 ry ⟨ds, v, vs, j, hd, hk, hl, ⟨z, hz, hzv, hno⟩, q⟩ => ?_⟩
  obtain ⟨b, ws, eb, hs, rs⟩ := (R2.view ok e2 hd).lst'
  cases eb
  obtain ⟨e3, f3⟩ := zek ry hk
  obtain ⟨e4, f4⟩ := ze7 rs hl
  subst e3 e4
  exact ⟨a, ws, y, j, z, rfl, rfl, .inl hs, f3, f4, hz, hzv, hno, k δ2 F2 H2 _ _ R2 (e1.trans e2) (.int _) q⟩
def dExt (i : Nat) (to : DOw) : DS := fun D δ => match δ[i]? with
  | some (some (.own (.lst _))) => to δ fun δ1 o => match δ1[i]? with
    | some (some (.own (.lst ds))) => ∃ ys, o = .lst ys ∧ ds.length + ys.length ≤ sizeLine ∧ D.nx (δ1.set i (some (.own (.lst (ds ++ ys)))))
    | _ => False
  | _ => False
theorem z1h {i : Nat} (h : PE X (.Call (.Attribute o "extend" apos) [e] [] pos) (tBM X.K "list" rExtend (tVar i) (tCons (upO K to) tNil))) (hs : swapsWith (.Call (.Attribute o "extend" apos) [e] [] pos) none pos'.line X.env = pure false := by rfl) :
    PS X (.Expr (.Call (.Attribute o "extend" apos) [e] [] pos) pos') (upS K (dExt i to)) := vu (ps_expr h hs) fun D σ H ⟨F0, H0, δ, F, D', W⟩ => by
  have ht := W.t
  unfold dExt at ht
  split at ht
  · rename_i ds0 e1
    obtain ⟨a, ea, ⟨vs, hv, rs⟩, n1, n2⟩ := W.rep.ownd e1
    refine ⟨_, ea, .inl ⟨rfl, vs, .inl (.inl hv)⟩, F0, H0, [], δ, F, _, W.rep, ht, fun δ1 F1 H1 p ho ob R1 hP ex1 oa ht => ?_⟩
    split at ht
    · rename_i ds e2
      obtain ⟨ys, eo, hl, q⟩ := ht
      subst eo
      obtain ⟨zs, hz, rz⟩ := oa
      have R2 : RepS K F0 H0 [] δ1 σ F1 H1 := R1.unP (by simp)
      obtain ⟨b, eb, ⟨ws, hw, rw⟩, n3, n4⟩ := R2.ownd e2
      rw [ea] at eb; cases eb
      refine ⟨a, p, ws, zs, rfl, rfl, hw, hz, by rw [rw.length, rz.length]; exact hl, ?_⟩
      exact W.nx _ _ F1 _ (R2.write e2 ea (o' := .lst (ds ++ ys)) (show OwnAt K F1 _ a (.lst (ds ++ ys)) from ⟨_, upd_same, rw.app rz⟩)) ex1 q
    · exact ht.elim
  · exact ht.elim
def zqh : G1O := fun ds Q => ∃ kvs, ds = [.dk kvs] ∧ Q (.dk kvs)
theorem zzj : CallR X (.type "dict") (cNO X.K zqh) := by
  intro pins s σ H xs us Q I r h
  obtain ⟨F, ds, Q', st, vw, ⟨kvs, ed, g⟩, k⟩ := h
  subst ed
  cases vw with
  | cons v1 t =>
    cases t
    obtain ⟨a, ws, rfl, hs, rs⟩ := v1.dk'
    exact call_dictD pins s σ H _ us Q I r ⟨a, ws, rfl, hs, fun p hp => k F _ p _ (.dk kvs) (Grown.newO st hp) hp upd_same (st.ex.nn hp) ⟨_, upd_same, rs.k⟩ g⟩
def dIVs (te : DE) : DI := fun δ Q => te δ fun δ1 d => ∃ kvs, d = .dk kvs ∧ Q δ1 (kvs.map (·.2))
theorem zvr {tg : Expr} (hl : PE X e (upE K te)) (hbase : attributeBase e "values" X.env (eval e X.env) = eval e X.env := by rfl) (hline : (apos.endLine == cpos.line) = true := by rfl) :
    PI X tg (.Call (.Attribute e "values" apos) [] [] cpos) (upI K (dIVs te)) := by
  refine iimp (pi_values hl hbase hline) fun σ H R ⟨F0, H0, P, δ, F, Q', Rp, ht, k⟩ => ?_
  refine ⟨F0, H0, P, δ, F, _, Rp, ht, fun δ1 F1 H1 v d R1 e1 r ⟨kvs, ed, q⟩ => ?_⟩
  subst ed
  cases r with
  | @dk a od ws _ h rg =>
    have rg := rg.g
    refine ⟨a, od, ws, rfl, R1.e3 _ _ h, k δ1 F1 H1 _ _ R1 e1 ⟨fun i H hi ex => ⟨ex _ _ h, by rw [rg.length]; simpa using hi⟩, fun H ex => ⟨ex _ _ h, by rw [rg.length]; simp⟩, fun i d F2 H x H' hd x1 _ _ ⟨eH, kk, hk⟩ => ?_⟩ q⟩
    subst eH
    rw [List.getElem?_map] at hd
    cases hz : kvs[i]? with
    | none => rw [hz] at hd; simp at hd
    | some z =>
      obtain ⟨zk, zd⟩ := z
      rw [hz] at hd
      simp at hd
      subst hd
      obtain ⟨v, hv, rv⟩ := rg.get hz
      rw [hk] at hv; cases hv
      exact .plain (rv.mono x1)
end
end Mv
namespace Mv
open PySem PySem.Spec PyProof.Rows L2
def IttT (d : Addr) (o : Obj) (kvs : List (List Key × V)) : It :=
  ⟨fun i H => H d = some (.frz o (.dT kvs)) ∧ i < kvs.length, fun i H x H' => ∃ T k v q, kvs[i]? = some (k, v) ∧ x = .ref T ∧ H T = none ∧ H q = some (.tup (k.map kV)) ∧ H' = upd H T (.tup [.ref q, v]), fun i H => H d = some (.frz o (.dT kvs)) ∧ kvs.length ≤ i⟩
section
variable {X : Cx} {pins : List (Addr × Obj)} {σ : L2.St} {H : Hp} {s : Shared} {d : Addr} {o : Obj}
theorem zuj {kvs : List (List Key × V)} (I : Inv X pins σ H s) (h : H d = some (.frz o (.dT kvs))) :
    (d == sysModules) = false ∧ s.heap.get? d = some o ∧ o.ExactDict ∧ ∃ (es : Array DictEntry) (ep : Nat), o.data = .dict es ep ∧ es.size = kvs.length ∧
      ∀ (i : Nat) (k : List Key) (v : V), kvs[i]? = some (k, v) → ∃ (en : DictEntry) (q : Addr), es[i]? = some en ∧ en.key = .ref q ∧ H q = some (.tup (k.map kV)) ∧ RelV v en.val := by
  obtain ⟨hd, z, hs, xs, pr, o', es, ep, ho, hx, hdt, he, _⟩ := I.hok d _ h
  rw [hd] at ho
  cases ho
  refine ⟨hs, hd, hx, es, ep, hdt, ?_, fun i k v e => ?_⟩
  · have l1 : es.size = xs.length := size_of_entries he
    have l2 : kvs.length = xs.length := Paired.length pr
    omega
  · obtain ⟨b, hb, e1, e2, e3⟩ := paired_get pr e
    have q := entry_at he i
    rw [hb] at q
    exact ⟨_, b.2.1, q, rfl, e2, e3⟩
end
section
variable {P : Program} {w : World} {K : PySem.W.Frag} {tg : Expr} {d : Addr} {o : Obj} {es : Array DictEntry} {ep : Nat}
theorem zsq {kvs : List (List Key × V)} {elts : List Expr} {kk : Nat} {tpos : Pos} (it : Addr) (hod : o.data = .dict es ep) :
    Turn P w K (.Tuple elts kk tpos) (IttT d o kvs) [it] it (fun i h => ∃ ok ov, IsItemIter h it d i kvs.length ep ok ov) where
  mem := by simp
  obj := fun i h st b hb => by
    have e : b = it := by simpa using hb
    subst e
    obtain ⟨ok, ov, e⟩ := st
    exact ⟨_, e, fun v z => nomatch z⟩
  keep := fun i h h' st k => let ⟨ok, ov, e⟩ := st; ⟨ok, ov, k it (by simp) _ e⟩
  item := by
    intro X hP hw hK hc i pins s σ H E I hf st hg
    subst hP hw hK
    obtain ⟨hd, hi⟩ := hg
    obtain ⟨hs, hgd, hx, es', ep', hdt, hsz, ent⟩ := zuj I hd
    obtain ⟨rfl, rfl⟩ := dict_ep hod hdt
    obtain ⟨⟨k, v⟩, hkv⟩ : ∃ p, kvs[i]? = some p := ⟨kvs[i], List.getElem?_eq_getElem hi⟩
    obtain ⟨en, q, hen, hkey, hq, rv⟩ := ent i k v hkv
    obtain ⟨ok, ov, he⟩ := st
    rw [← hsz] at he
    have hlt : it < s.heap.objs.size := Heap.lt_size he
    have hi2 : i < es'.size := by omega
    have een : es'[i] = en := by rw [Array.getElem?_eq_getElem hi2] at hen; exact Option.some.inj hen
    refine wpAny_pyNext_items_item_raw he ⟨o, hgd, hx, hdt⟩ hi2 fun h' ho hT hz hk => ?_
    rw [een, hkey] at ho hT
    refine ⟨_, rfl, wpAny_letOwnedTupleGo_items (s := { s with heap := h' }) ho fun h'' he' sb => ?_⟩
    have hT2 : h''.get? s.heap.objs.size = some { cls := .type "tuple", data := .seq #[.ref q, en.val] } := (sb.2 _ (Nat.ne_of_gt hlt)).trans hT
    have new : ObjOk X.prog X.w (upd H s.heap.objs.size (.tup [.ref q, v])) h'' s.heap.objs.size (.tup [.ref q, v]) :=
      ⟨by show 2 ≤ sizeLine; decide, [.ref q, en.val], .cons (show RelV (.ref q) (.ref q) from rfl) (.cons rv .nil), ⟨_, hT2, rfl, _, rfl⟩⟩
    have I1 : Inv X pins σ (upd H s.heap.objs.size (.tup [.ref q, v])) { s with heap := h'' } :=
      I.turnedNew (t' := s.toks) (ch := [it]) (fun b ob hb e => (sb.2 b (by simpa using hb)).trans (hk b ob (by simpa using hb) e)) hf (Nat.le_refl _) new
    refine ⟨.ref s.heap.objs.size, _, I1, rfl, ⟨_, k, v, q, hkv, rfl, I.hok.fresh (Nat.le_refl _), hq, rfl⟩, ⟨.ref q, en.val, ?_⟩, fun b hb => ?_⟩
    · rw [← hsz]; exact he'
    · have e : b = it := by simpa using hb
      rw [e, upd_ne (Nat.ne_of_lt hlt)]
      exact (hf it (by simp)).1
  done := by
    intro X hP hw hK hc i pins s σ H E I hf st hg
    subst hP hw hK
    obtain ⟨hd, hi⟩ := hg
    obtain ⟨f0, f1, f2, f3, f4, f5⟩ := hf it (by simp)
    obtain ⟨hs, hgd, hx, es', ep', hdt, hsz, ent⟩ := zuj I hd
    obtain ⟨rfl, rfl⟩ := dict_ep hod hdt
    obtain ⟨ok, ov, he⟩ := st
    rw [← hsz] at he
    exact wpAny_pyNext_items_end_raw (I.ok.hd hc) he ⟨o, hgd, hx, hdt⟩ (by omega) fun h' eb => ⟨rfl, I.turned (t' := s.toks) (fun b ob hb e => eb b ob hb e) f0 f1 f3 f4 f5⟩
  self := fun A i s Q E st h => let ⟨_, _, e⟩ := st; PySem.W.kcp_self e h
end
def zzk (td : TE) : TI := fun σ H R => td σ H fun x H1 => ∃ d o kvs, x = .ref d ∧ H1 d = some (.frz o (.dT kvs)) ∧ R (IttT d o kvs) H1
section
variable {X : Cx} {K : PySem.W.Frag} {tg e : Expr} {td : TE} {te : DE} {apos cpos : Pos}
theorem zvs {elts : List Expr} {kk : Nat} {tpos : Pos} (he : PE X e td) (hbase : attributeBase e "items" X.env (eval e X.env) = eval e X.env := by rfl) (hline : (apos.endLine == cpos.line) = true := by rfl) :
    PI X (.Tuple elts kk tpos) (.Call (.Attribute e "items" apos) [] [] cpos) (zzk td) := by
  refine ⟨fun pins s σ H R I h => ?_⟩
  refine wpAny_Call_method (T := "dict") (id := "dict.items") hbase rfl hline F.plainAttrs_dict F.slot_dict_items F.type_dict_items (thn (he.run pins s σ H _ I h) fun u s1 ⟨x, H1, I1, rx, d, o, kvs, ex, hd, q⟩ => ?_)
  subst ex
  obtain rfl : u = Value.ref d := rx
  obtain ⟨hs, hgd, hx, es, ep, hdt, hsz, ent⟩ := zuj I1 hd
  have raw : s1.heap.DictRaw d es ep := ⟨o, hgd, hx, hdt⟩
  refine ⟨raw.typeIs, fun b e => by cases e; exact ⟨o, hgd, hx.2.1⟩, ?_⟩
  have I2 : Inv X pins σ H1 { s1 with heap := s1.heap.push { cls := .type "dict_items", data := .fields #[.ref d] } } := I1.kept (t' := s1.toks) fun b ob q => Heap.get?_push_of_some _ q
  have fin : wpAny (model X.prog X.w) X.A (pyIter (.ref s1.heap.objs.size)) (PIE X pins σ (.Tuple elts kk tpos) R) X.xe { s1 with heap := s1.heap.push { cls := .type "dict_items", data := .fields #[.ref d] } } := by
    refine wpAny_pyIter_items_raw (d := d) (es := es) (ep := ep) ⟨_, Heap.get?_push_size _ rfl, rfl, rfl⟩ (raw.at fun ob e => Heap.get?_push_of_some _ e) (pi_one (tk := s1.toks) I2 _ (zsq _ hdt) ⟨.none, .none, ?_⟩ q)
    rw [← hsz]
    exact Heap.get?_push_size _ rfl
  show wpAny _ _ (callWith cpos (.builtin "dict.items") [.ref d] [] []) _ X.xe s1
  exact method_meetsIn F.slot_dict_items F.entry_dict_items rfl (PySem.evalArgs_none ⟨rfl, raw.typeIs, F.args_dict_items_1 _, _, meets_dict_items_raw d hs, ⟨es, ep, raw⟩, fin⟩)
def zpu (te : DE) : DI := fun δ Q => te δ fun δ1 d => ∃ kvs, d = .dt kvs ∧ Q δ1 (kvs.map fun kv => D.tup [.tup (kv.1.map keyD), kv.2])
theorem zno {elts : List Expr} {kk : Nat} {tpos : Pos} (hl : PE X e (upE K te)) (hbase : attributeBase e "items" X.env (eval e X.env) = eval e X.env := by rfl) (hline : (apos.endLine == cpos.line) = true := by rfl) :
    PI X (.Tuple elts kk tpos) (.Call (.Attribute e "items" apos) [] [] cpos) (upI K (zpu te)) := by
  refine iimp (zvs hl hbase hline) fun σ H R ⟨F0, H0, P, δ, F, Q', Rp, ht, k⟩ => ?_
  refine ⟨F0, H0, P, δ, F, _, Rp, ht, fun δ1 F1 H1 v d R1 e1 r ⟨kvs, ed, q⟩ => ?_⟩
  subst ed
  cases r with
  | @dt a od ws _ h rg =>
    have rg := rg.g
    refine ⟨a, od, ws, rfl, R1.e3 _ _ h, k δ1 F1 H1 _ _ R1 e1 ⟨fun i H hi ex => ⟨ex _ _ h, by rw [rg.length]; simpa using hi⟩, fun H ex => ⟨ex _ _ h, by rw [rg.length]; simp⟩, fun i d F2 H x H' hd x1 x2 tp ⟨T, kk, vv, qq, hk, ex, hT, hq, eH⟩ => ?_⟩ q⟩
    subst eH ex
    rw [List.getElem?_map] at hd
    cases hz : kvs[i]? with
    | none => rw [hz] at hd; simp at hd
    | some z =>
      obtain ⟨zk, zd⟩ := z
      rw [hz] at hd
      simp at hd
      subst hd
      obtain ⟨v, hv, rv⟩ := rg.get hz
      rw [hk] at hv; cases hv
      exact .pair hT (.cons (.tup (tp _ _ hq) (zbw _)) (.cons (rv.mono x1) .nil))
end
end Mv
namespace Mv
open PySem PySem.Spec PyProof.Rows L2
theorem zuk {P : Program} {w : World} {es : List DictEntry} {vs : List (Key × Value)} (h : Pairs (mixKind P w) es vs) : Pairs (noneKind P w) es (vs.map fun q => (some q.1, q.2)) := by
  induction h with
  | nil => exact .nil
  | cons h1 h2 _ ih => exact .cons h1 h2 ih
theorem zvt {P : Program} {w : World} {h : Heap} {a : Addr} {vs : List (Key × Value)} (d : h.DictOf (mixKind P w) a vs) : h.DictOf (noneKind P w) a (vs.map fun q => (some q.1, q.2)) := by
  obtain ⟨o, es, ep, ho, hx, hdt, hk, hp, hn⟩ := d
  refine ⟨o, es, ep, ho, hx, hdt, fun e he => ?_, zuk hp, ?_⟩
  · obtain ⟨k, h1, h2⟩ := hk e he
    exact ⟨some k, h1, h2⟩
  · rw [List.map_map]
    have : ((fun x : Option Key × Value => x.1) ∘ fun q : Key × Value => (some q.1, q.2)) = some ∘ fun q : Key × Value => q.1 := rfl
    rw [this, ← List.map_map]
    exact List.Pairwise.map some (fun a b ne e => ne (Option.some.inj e)) hn
section
variable {X : Cx} {pins : List (Addr × Obj)} {σ : L2.St} {H : Hp} {s : Shared} {a : Addr} {kvs : List (Key × V)} {A : Around} {E : Value → Shared → Prop}
theorem z1i {r : Value} {Q : Value → Shared → Prop} (I : Inv X pins σ H s) (e : H a = some (.dK kvs)) (h : ∀ s', Inv X pins σ H s' → Q r s') :
    wpAny (model X.prog X.w) A (call (.builtin "dict.pop") [.ref a, .none, r]) Q E s := by
  obtain ⟨z, hd, vs, rel, dd⟩ := dk_of I.hok e
  have hn : valueAt (vs.map fun q => (some q.1, q.2)) (none : Option Key) = none := by
    unfold valueAt
    rw [List.find?_eq_none.mpr]
    · rfl
    · intro x hx
      obtain ⟨q, _, rfl⟩ := List.mem_map.mp hx
      simp
  exact call_meetsIn PySem.F.slot_dict_pop dd.typeIs PySem.F.entry_dict_pop (PySem.F.args_dict_pop_3 _ _ _) (meets_dict_pop_default (noneKind X.prog X.w) a (show (noneKind X.prog X.w).is none .none = true from rfl) hd rfl r) ⟨_, zvt dd, hn, h _ (I.tok _)⟩
end
section
variable {X : Cx} {K : PySem.W.Frag} {e a b c o f : Expr} {ta tb tc te tk tx : DE} {tw : DV} {pos p apos cpos : Pos}
def gInN (neg : Bool) : D → D → (D → Prop) → Prop := fun x y Q => match x with
  | .non => ∃ kvs, y = .dk kvs ∧ Q (.bl neg)
  | _ => gInB neg x y Q
def zqi (neg : Bool) : R2 := fun y x H Q => ∃ a kvs, y = .non ∧ x = .ref a ∧ Rd H a (.dK kvs) ∧ Q (.bl neg) H
theorem zxg : OpR X (compareOp .In) (zqi false) := by
  intro pins s σ H x y v u Q I rx ry ⟨a, kvs, e1, e2, hd, q⟩
  subst e1 e2
  cases rx; cases ry
  exact d_inNone I hd fun s3 I3 => ⟨.bl _, H, I3, rfl, q⟩
theorem zvu : OpR X (compareOp .NotIn) (zqi true) := by
  intro pins s σ H x y v u Q I rx ry ⟨a, kvs, e1, e2, hd, q⟩
  subst e1 e2
  cases rx; cases ry
  exact d_notInNone I hd fun s3 I3 => ⟨.bl _, H, I3, rfl, q⟩
theorem zvv (neg : Bool) : Op2W K (fun x y H Q => (rIn K neg x y H Q ∨ rSgn neg x y H Q ∨ rDIn neg x y H Q) ∨ zqi neg x y H Q) (gInN neg) := by
  intro x y F H dx dy Q Q' rx ry ex g k
  unfold gInN at g
  split at g
  · obtain ⟨kvs, e, g⟩ := g
    subst e
    obtain ⟨a, ws, rfl, hd, _⟩ := ry.dk'
    cases rx
    exact .inr ⟨a, ws, rfl, rfl, hd, k _ _ (.bl _) g⟩
  · exact .inl (zpn neg x y F H _ dy Q Q' rx ry ex g k)
theorem z1j (hu : X.A.units + 1 < cLine) (ha : PE X a (upE K ta)) (hb : PE X b (upV K tw)) (hm : behindInMarks .In b = false := by rfl) (hK : X.K = K := by rfl) : PT X (.Compare a [.In] [b] pos) (upT K (dTst (d2W (gInN false) ta tw))) := by
  subst hK
  exact qt_w (OpR.or (zp5 hu) zxg) (zvv false) ha hb hm
theorem zzl (hu : X.A.units + 1 < cLine) (ha : PE X a (upE K ta)) (hb : PE X b (upV K tw)) (hm : behindInMarks .NotIn b = false := by rfl) (hK : X.K = K := by rfl) : PT X (.Compare a [.NotIn] [b] pos) (upT K (dTst (d2W (gInN true) ta tw))) := by
  subst hK
  exact qt_w (OpR.or (zs5 hu) zvu) (zvv true) ha hb hm
def zvw (td ty tx : TE) : TE := fun σ H Q => td σ H fun x H1 => ∃ a, x = .ref a ∧ IsD H1 a ∧ ty σ H1 fun y H2 => tx σ H2 fun z H3 => ∃ kvs, H3 a = some (.dK kvs) ∧ ((∃ k, y = kV k ∧
  (∀ v, valV kvs k = some v → Q v (upd H3 a (.dK (dropK kvs k)))) ∧ (valV kvs k = none → Q z H3)) ∨ (y = .non ∧ Q z H3))
theorem zxh {td ty tx : TE} (ho : PE X o td) (he : PE X e ty) (hf : PE X f tx) (m : M2 X o "pop" apos e f cpos := by exact ⟨rfl, rfl, rfl, rfl⟩) : PE X (.Call (.Attribute o "pop" apos) [e, f] [] cpos) (zvw td ty tx) := by
  refine ⟨fun pins s σ H Q I h => ?_⟩
  refine wpAny_Call_method m.base m.few m.line PySem.F.plainAttrs_dict PySem.F.slot_dict_pop PySem.F.type_dict_pop (thn (ho.run pins s σ H _ I h) fun u s1 ⟨x, H1, I1, rx, a, ex, d, q1⟩ => ?_)
  subst ex
  obtain rfl : u = Value.ref a := rx
  obtain ⟨t1, t2, _⟩ := isD_at I1 d
  refine ⟨t1, t2, ?_⟩
  rw [m.trees]
  refine Calls.callWith_builtin rfl (Calls.evalArgs_plain (Calls.spliced_cons (thn (he.run pins s1 σ H1 _ I1 q1) fun iv s2 ⟨y, H2, I2, ry, q2⟩ =>
    Calls.spliced_cons (thn (hf.run pins s2 σ H2 _ I2 q2) fun fv s3 ⟨z, H3, I3, rz, kvs, ea, q3⟩ => Calls.spliced_nil ?_))))
  rcases q3 with ⟨k, ey, q3, q4⟩ | ⟨ey, q4⟩
  · subst ey
    cases l : valV kvs k with
    | some v => exact d_pop I3 ea ry l (.inr ⟨fv, rfl⟩) fun w' s4 I4 rw' => ⟨v, _, I4, rw', q3 v l⟩
    | none => exact d_popD I3 ea ry l fun s4 I4 => ⟨z, H3, I4, rz, q4 l⟩
  · subst ey
    cases ry
    exact z1i I3 ea fun s4 I4 => ⟨z, H3, I4, rz, q4⟩
def zjy (i : Nat) (tk tx : DE) : DE := fun δ Q => match δ[i]? with
  | some (some (.own (.dk _))) => tk δ fun δ1 kd => tx δ1 fun δ2 xd => match δ2[i]? with
    | some (some (.own (.dk kvs))) => (∃ k, dkey kd = some k ∧ (∀ v, valG kvs k = some v → Q (δ2.set i (some (.own (.dk (vz kvs k))))) v) ∧ (valG kvs k = none → Q δ2 xd)) ∨ (kd = .non ∧ Q δ2 xd)
    | _ => False
  | _ => False
theorem zzm {i : Nat} (h : PE X (.Call (.Attribute o "pop" apos) [e, f] [] pos) (zvw (tVar i) (upE K tk) (upE K tx))) : PE X (.Call (.Attribute o "pop" apos) [e, f] [] pos) (upE K (zjy i tk tx)) := pimp h fun σ H Q ⟨F0, H0, P, δ, F, Q', R, ht, k⟩ => by
  unfold zjy at ht
  split at ht
  · rename_i ds0 e1
    obtain ⟨a, ea, ⟨vs, hv, rs⟩, n1, n2⟩ := R.ownd e1
    refine ⟨_, ea, a, rfl, .inl ⟨vs, .inl hv⟩, F0, H0, P, δ, F, _, R, ht, fun δ1 F1 H1 x dx R1 ex1 rx ht => ?_⟩
    refine ⟨F0, H0, P, δ1, F1, _, R1, ht, fun δ2 F2 H2 z dz R2 ex2 rz ht => ?_⟩
    split at ht
    · rename_i kvs e2
      obtain ⟨b, eb, ⟨ws, hw, rw⟩, n3, n4⟩ := R2.ownd e2
      rw [ea] at eb; cases eb
      refine ⟨ws, hw, ?_⟩
      rcases ht with ⟨kk, hk, q1, q2⟩ | ⟨en, q2⟩
      · refine .inl ⟨kk, zax rx hk, fun v hv => ?_, fun hn => ?_⟩
        · rcases rw.g.val kk with ⟨u, d', h1, h2, r⟩ | ⟨h1, h2⟩
          · rw [hv] at h1; cases h1
            exact k _ F2 _ v d' (R2.write e2 ea (o' := .dk (vz kvs kk)) (show OwnAt K F2 _ a (.dk _) from ⟨_, upd_same, (rw.g.drop kk).k⟩)) (ex1.trans ex2) r (q1 _ h2)
          · rw [hv] at h1; cases h1
        · rcases rw.g.val kk with ⟨u, d', h1, h2, r⟩ | ⟨h1, h2⟩
          · rw [hn] at h1; cases h1
          · exact k _ F2 _ z dz R2 (ex1.trans ex2) rz (q2 h2)
      · subst en
        cases rx
        exact .inr ⟨rfl, k _ F2 _ z dz R2 (ex1.trans ex2) rz q2⟩
    · exact ht.elim
  · exact ht.elim
end
end Mv
namespace Mv
open PySem PySem.Spec PyProof.Rows L2
def kOf (v : Value) : Key := match v with
  | .int k _ => .inl k
  | .str x _ => .inr x
  | _ => .inl 0
theorem zms {k : Key} {v : Value} (r : RelV (kV k) v) : kOf v = k := by
  cases k with
  | inl i => obtain ⟨t, rfl⟩ := (show ∃ t, v = Value.int i t from r); rfl
  | inr x => obtain ⟨t, rfl⟩ := (show ∃ t, v = Value.str x t from r); rfl
open Classical in
noncomputable def insK (k : Key) (ks : List Key) : List Key := if k ∈ ks then ks else k :: ks
def KEl (P : Program) (w : World) (es : List (Int × Value)) : Prop := ∀ e ∈ es, ∃ k, RelV (kV k) e.2 ∧ e.1 = (mixKind P w).hash k
def SetQ (P : Program) (w : World) (h : Heap) (a : Addr) (ks : List Key) : Prop :=
  ∃ o es ep t, h.get? a = some o ∧ o.ExactSet ∧ o.data = .set es ep t ∧ KEl P w es.toList ∧ (es.toList.map fun e => kOf e.2).Perm ks ∧ ks.Nodup ∧
    es.size < scanBound ∧ t.fits es.size = true ∧ Ris t.place.toList ∧ (w.params.followText "set-order" = true ∨ t.led = true)
section
variable {P : Program} {w : World} {h h' : Heap} {a : Addr} {ks : List Key}
theorem SetQ.at (R : SetQ P w h a ks) (k : ∀ o, h.get? a = some o → h'.get? a = some o) : SetQ P w h' a ks := by
  obtain ⟨o, es, ep, t, ho, r⟩ := R
  exact ⟨o, es, ep, t, k o ho, r⟩
theorem zvx {l : List (Int × Value)} (g : KEl P w l) : ElemsOf (mixKind P w) l := fun e he => by
  obtain ⟨k, r, q⟩ := g e he
  exact ⟨⟨k, kV_is r, q⟩, key_scan r⟩
theorem zvy {e : Int × Value} (g : ∃ k, RelV (kV k) e.2 ∧ e.1 = (mixKind P w).hash k) (k : Key) : (mixKind P w).is k e.2 = true ↔ kOf e.2 = k := by
  obtain ⟨k0, r, _⟩ := g
  rw [zms r]
  exact ⟨fun z => ((mixKind P w).inj _ _ _ z (kV_is r)).symm, fun z => z ▸ kV_is r⟩
theorem zxi (ho : h.get? a = some { cls := .type "set", dict := none, data := .set #[] 0 (.fresh 0 0 (!w.params.followText "set-order")) }) : SetQ P w h a [] :=
  ⟨_, #[], 0, _, ho, ⟨rfl, rfl, rfl⟩, rfl, (fun e he => by simp at he), .nil, .nil, (by decide), (by rfl), List.Pairwise.nil, by
    show _ ∨ (!w.params.followText "set-order") = true
    cases w.params.followText "set-order"
    · exact .inr rfl
    · exact .inl rfl⟩
end
section
variable {P : Program} {w : World} {A : Around} {E : Value → Shared → Prop} {s : Shared} {a : Addr} {ks : List Key}
theorem znp {g : Bool → Sem Unit} (hg : ∀ (b : Bool) (s₁ : Shared) (Q' : Unit → Shared → Prop), Q' () s₁ → wpAny (model P w) A (g b) Q' E s₁)
    {o : Obj} {es : Array (Int × Value)} {ep : Nat} {t : SetTable} (ho : s.heap.get? a = some o) (hex : o.ExactSet) (hd : o.data = .set es ep t)
    {es1 : Array (Int × Value)} {t2 : SetTable} (g1 : KEl P w es1.toList) (p1 : (es1.toList.map fun e => kOf e.2).Perm ks) (nd : ks.Nodup)
    (hb1 : es1.size < scanBound) (hf2 : t2.fits es1.size = true) (hr : Ris t2.place.toList) (hl : w.params.followText "set-order" = true ∨ t2.led = true) {wasDummy : Bool} {R : Option Bool → Shared → Prop}
    (hR : ∀ h', Heap.SameBut a s.heap h' → SetQ P w h' a ks → R (some true) { s with heap := h' }) :
    wpAny (model P w) A (do
        storeSet a es1 t2
        if (!wasDummy && t2.tooFull) = true then do
            g (relayAll t2 es1 (SetTable.grown es1.size)).2.2
            storeSet a (relayAll t2 es1 (SetTable.grown es1.size)).1 (relayAll t2 es1 (SetTable.grown es1.size)).2.1
            pure (some true)
          else pure (some true)) R E s := by
  refine wpAny_bind (wpAny_storeSet_of ho hd ?_ (fits_of_scanBound hb1))
  have ho1 := store_at (es' := es1) (t' := t2) ho hd
  have sb1 := Heap.SameBut.update s.heap a (Obj.putSet es1 t2)
  split
  · have pm := relayAll_perm t2 es1 (SetTable.grown es1.size)
    have hf3 := relayAll_fits t2 es1 (SetTable.grown es1.size)
    have hr3 := relayAll_ris t2 es1 (SetTable.grown es1.size)
    have hl3 := relayAll_led t2 es1 (SetTable.grown es1.size)
    generalize relayAll t2 es1 (SetTable.grown es1.size) = Z at pm hf3 hr3 hl3 ⊢
    obtain ⟨es2, t3, gave⟩ := Z
    dsimp only at pm hf3 hr3 hl3 ⊢
    have hb2 : es2.size < scanBound := by rw [← Array.length_toList, pm.length_eq, Array.length_toList]; exact hb1
    refine wpAny_bind (hg _ _ _ ?_)
    refine wpAny_bind (wpAny_storeSet_of ho1 rfl ?_ (fits_of_scanBound hb2))
    exact wpAny_pure (hR _ (sb1.trans (Heap.SameBut.update _ a _)) ⟨_, es2, _, t3, store_at (es' := es2) (t' := t3) ho1 rfl, hex, rfl, fun e he => g1 e (pm.mem_iff.mp he), (pm.map _).trans p1, nd, hb2, hf3, hr3,
      hl.imp id fun z => by rw [hl3]; exact z⟩)
  · exact wpAny_pure (hR _ sb1 ⟨_, es1, _, t2, ho1, hex, rfl, g1, p1, nd, hb1, hf2, hr, hl⟩)
theorem zxj {k : Key} {v : Value} {Q : Bool → Shared → Prop} (rv : RelV (kV k) v) (R : SetQ P w s.heap a ks) (room : ks.length + 1 < scanBound)
    (hQ : ∀ h' b, Heap.SameBut a s.heap h' → SetQ P w h' a (insK k ks) → Q b { s with heap := h' }) :
    wpAny (model P w) A (setAddHashed a v ((mixKind P w).hash k)) Q E s := by
  obtain ⟨o, es, ep, t, ho, hex, hd, g, pk, nd, hb, hf, hr, hl⟩ := R
  have hkey : (mixKind P w).is k v = true := kV_is rv
  have hsc : v.scannable = true := key_scan rv
  have hel : ElemsOf (mixKind P w) es.toList := zvx g
  have hn : es.size = ks.length := by rw [← pk.length_eq, List.length_map, Array.length_toList]
  unfold setAddHashed setAddHashedIn
  refine wpAny_holding (wpAny_bind (wpAny_setState_of ho hd hf ?_))
  dsimp only
  rw [byScan_of hsc hb hel]
  simp only [↓reduceIte]
  unfold setAddByScan
  refine wpAny_bind ?_
  refine wpAny_bind (wpAny_rule ?_)
  refine wpAny_bind (wpAny_setScan_of hkey ho hd hf hel ?_)
  cases hfi : List.findIdx? (fun e => (mixKind P w).is k e.2) es.toList with
  | some j =>
    dsimp only
    obtain ⟨hj, pj, _⟩ := List.findIdx?_eq_some_iff_getElem.mp hfi
    have hm : k ∈ ks := pk.mem_iff.mp (List.mem_map.mpr ⟨_, List.getElem_mem hj, (zvy (g _ (List.getElem_mem hj)) k).1 pj⟩)
    have e : insK k ks = ks := by unfold insK; rw [if_pos hm]
    exact wpAny_pure (wpAny_pure (hQ s.heap _ (Heap.SameBut.refl a s.heap) (by rw [e]; exact ⟨o, es, ep, t, ho, hex, hd, g, pk, nd, hb, hf, hr, hl⟩)))
  | none =>
    dsimp only
    have hnk : k ∉ ks := fun z => by
      obtain ⟨e, he, q⟩ := List.mem_map.mp (pk.mem_iff.mpr z)
      have c := List.findIdx?_eq_none_iff.mp hfi e he
      rw [(zvy (g e he) k).2 q] at c
      cases c
    have e : insK k ks = k :: ks := by unfold insK; rw [if_neg hnk]
    rw [e] at hQ
    have hgw : ∀ (b : Bool) {s₁ : Shared} {Q' : Unit → Shared → Prop}, Q' () s₁ → wpAny (model P w) A (match b with | true => rule "set.scan.the-table-gave-way" | false => pure ()) Q' E s₁ :=
      fun b s₁ Q' q => by cases b <;> first | exact wpAny_pure q | exact wpAny_rule q
    have pm := layNew_perm t es ((mixKind P w).hash k) v
    have hf1 := layNew_fits t es ((mixKind P w).hash k) v
    have hr1 := layNew_ris t es ((mixKind P w).hash k) v hr
    have hl1 := layNew_led t es ((mixKind P w).hash k) v
    generalize layNew t es ((mixKind P w).hash k) v = Z at pm hf1 hr1 hl1 ⊢
    obtain ⟨es1, t1, wasDummy, gave⟩ := Z
    dsimp only at pm hf1 hr1 hl1 ⊢
    rw [Array.toList_push] at pm
    have pc : es1.toList.Perm (((mixKind P w).hash k, v) :: es.toList) := pm.trans (List.perm_append_singleton _ _)
    have p1 : (es1.toList.map fun e => kOf e.2).Perm (k :: ks) := by
      have q := pc.map fun e => kOf e.2
      rw [List.map_cons, zms rv] at q
      exact q.trans (pk.cons k)
    have g1 : KEl P w es1.toList := fun e he => by
      rcases List.mem_cons.mp (pc.mem_iff.mp he) with z | z
      · rw [z]; exact ⟨k, rv, rfl⟩
      · exact g e z
    have nd1 : (k :: ks).Nodup := List.nodup_cons.mpr ⟨hnk, nd⟩
    have hb1 : es1.size < scanBound := by rw [← Array.length_toList, pc.length_eq, List.length_cons, Array.length_toList, hn]; exact room
    have hled : w.params.followText "set-order" = true ∨ t1.led = true := hl.imp id fun z => by rw [hl1]; exact z
    refine wpAny_bind (hgw _ ?_)
    split
    · refine wpAny_bind ?_
      rw [hashByValue_scannable 8 hsc]
      refine wpAny_pure ?_
      refine znp ?_ ho hex hd g1 p1 nd1 hb1 ?_ ?_ ?_ ?_
      · intro b s₁ Q' q; cases b <;> first | exact wpAny_pure q | exact wpAny_rule q
      · first | (split <;> first | exact hf1 | exact SetTable.fits_plain_off hf1) | exact hf1
      · first | (split <;> exact hr1) | exact hr1
      · first | (split <;> exact hled) | exact hled
      · intro h' sb r; dsimp only; exact wpAny_pure (hQ h' _ sb r)
    · refine wpAny_bind (wpAny_pure ?_)
      simp only [↓reduceIte]
      refine znp ?_ ho hex hd g1 p1 nd1 hb1 hf1 hr1 hled ?_
      · intro b s₁ Q' q; cases b <;> first | exact wpAny_pure q | exact wpAny_rule q
      · intro h' sb r; dsimp only; exact wpAny_pure (hQ h' _ sb r)
noncomputable def x6 (ks : List Key) : List Key := ks.foldl (fun a k => insK k a) []
theorem zxk (k : Key) (a : List Key) : (insK k a).length ≤ a.length + 1 := by unfold insK; split <;> simp
theorem zka (ks : List Key) : (x6 ks).length ≤ ks.length := by
  have : ∀ (ks a : List Key), (ks.foldl (fun a k => insK k a) a).length ≤ ks.length + a.length := by
    intro ks
    induction ks with
    | nil => intro a; simp
    | cons k t ih => intro a; have := ih (insK k a); have h := zxk k a; simp only [List.foldl_cons, List.length_cons]; omega
  have h := this ks []
  simpa [x6] using h
theorem zqj (ks : List Key) (k : Key) : x6 (ks ++ [k]) = insK k (x6 ks) := by simp [x6, List.foldl_append]
theorem zsr {I : Addr} {fp wr : List Addr} {G : Array GenState → Array GenState → Prop} {n : Nat} {Pv : Nat → Value → Prop} {St : Nat → Shared → Prop} {R : Result → Shared → Prop}
    (W : WalksS P w A.in1 I fp wr G n Pv St) (S : Addr) (hSf : S ∉ fp) (ks : List Key) (hn : n = ks.length) (hb : ks.length + 1 < scanBound) (hval : ∀ i v, Pv i v → ∃ k, ks[i]? = some k ∧ RelV (kV k) v) :
    ∀ (k i : Nat) (s : Shared), n - i = k → i ≤ n → St i s → SetQ P w s.heap S (x6 (ks.take i)) →
      (∀ s', Moved (S :: wr) G s s' → SetQ P w s'.heap S (x6 ks) → R (.ok (.ret .none)) s') →
      codeAny (model P w) A (.builtin "set.update.loop" ⟨[.ref S, .ref I], []⟩) R s := by
  have hSw : S ∉ wr := fun h => hSf (W.sub _ h)
  have hsub : ∀ b ∈ wr, b ∈ S :: wr := fun b hb => List.mem_cons_of_mem _ hb
  intro k
  induction k with
  | zero =>
    intro i s hk' hi hst hS hR
    have hin : i = n := by omega
    subst hin
    refine codeAny_builtin F.entry_set_update_loop ?_
    rw [Around.under_plainId F.plain_set_update_loop _]
    show wpAny _ A.in1 (pyNext (.ref I) >>= _) _ _ s
    refine wpAny_bind (W.done s _ _ hst fun s' hm => ?_)
    show wpAny _ A.in1 (ret Value.none) _ _ s'
    have e : ks.take i = ks := List.take_of_length_le (by omega)
    rw [e] at hS
    exact wpAny_pure (hR s' (hm.mono hsub) (hS.at fun o e => hm.heap S o hSw e))
  | succ k ih =>
    intro i s hk' hi hst hS hR
    have hlt : i < n := by omega
    refine codeAny_builtin F.entry_set_update_loop ?_
    rw [Around.under_plainId F.plain_set_update_loop _]
    show wpAny _ A.in1 (pyNext (.ref I) >>= _) _ _ s
    refine wpAny_bind (W.item i s _ _ hlt hst fun v s' hP hst' hm => ?_)
    obtain ⟨z, hz, rz⟩ := hval i v hP
    have hS' : SetQ P w s'.heap S (x6 (ks.take i)) := hS.at fun o e => hm.heap S o hSw e
    show wpAny _ A.in1 (holding [v] (setAdd S v) >>= _) _ _ s'
    refine wpAny_bind (wpAny_holding ?_)
    unfold setAdd
    refine wpAny_holding ?_
    refine wpAny_bind ((mixKind P w).pyHash (k := z) (kV_is rz) ?_)
    have hlen : (x6 (ks.take i)).length + 1 < scanBound := by
      have := zka (ks.take i); have h2 : (ks.take i).length ≤ ks.length := by simp [List.length_take]; omega
      omega
    refine zxj (s := { s' with toks := s'.toks + 1 }) rz hS' hlen fun h' b hsb hS2 => ?_
    have hS3 : SetQ P w h' S (x6 (ks.take (i + 1))) := by
      rw [List.take_add_one, hz]
      show SetQ P w h' S (x6 (ks.take i ++ [z]))
      rw [zqj]; exact hS2
    refine wpAny_pure ⟨plainId_quiet F.plain_set_update_loop _, ih (i + 1) _ (by omega) hlt (W.frame _ s' _ _ hst' (Nat.le_succ _) fun b hb o e => ?_) hS3 fun s'' hm'' hS'' => ?_⟩
    · rw [hsb.2 b (fun h : b = S => hSf (by rw [← h]; exact hb))]; exact e
    · refine hR s'' (Moved.trans W.gtrans ((hm.mono hsub).then_heap (Nat.le_succ _) fun b o hb e => ?_) hm'') hS''
      rw [hsb.2 b (fun h : b = S => hb (by rw [h]; exact List.mem_cons_self))]; exact e
end
end Mv
namespace Mv
open PySem PySem.Spec PyProof.Rows L2
section
variable {P : Program} {w : World} {A : Around} {E : Value → Shared → Prop} {s : Shared}
set_option maxHeartbeats 3200000 in
theorem zvz {l : Addr} {items : Array Value} (ks : List Key) {Q : Value → Shared → Prop} (hh : A.handled = none) (hl : s.heap.IsList l items) (hit : Vals (ks.map kV) items.toList) (hb : ks.length + 1 < scanBound)
    (h : ∀ (h' : Heap) (tk : Nat), SetQ P w h' s.heap.objs.size (x6 ks) → (∀ b o, s.heap.get? b = some o → h'.get? b = some o) → Q (.ref s.heap.objs.size) { s with heap := h', toks := tk }) :
    wpAny (model P w) A (call (.type "set") [.ref l]) Q E s := by
  have hisz : items.size = ks.length := by
    have q : (ks.map kV).length = items.toList.length := Paired.length hit
    rw [List.length_map] at q
    exact q.symm
  obtain ⟨c, tl, hmro⟩ := F.called_set.mro
  have hmade := F.called_set.made
  have hsub := F.called_set.sub
  refine wpAny_call (codeAny_of_tree ?_)
  show wpAny _ _ (callAny (.type "set") _) _ _ _
  refine wpAny_pure ⟨Code.quiet_builtin _ (by decide +kernel), codeAny_builtin F.entry_type_call ?_⟩
  rw [Around.under_plain (weight_type_call_type "set" [.ref l] []) rfl]
  have h1 := F.called_set.notType
  have h2 := F.called_set.canCreate
  have hct := F.typeCall_set_1 (.ref l)
  repeat (any_goals (first | assumption | wp_step))
  refine codeAny_mono (code_set_led1 (.ref l) (E := E) (Q₁ := fun obj s₁ => obj = .ref s.heap.objs.size ∧ s₁ = { s with heap := s.heap.push { cls := .type "set", dict := none, data := .set #[] 0 (.fresh 0 0 (!w.params.followText "set-order")) } }) ⟨rfl, rfl⟩) fun r s₁ hr => ?_
  cases r with
  | error e => exact hr
  | ok fl =>
    cases fl with
    | ret obj =>
      obtain ⟨rfl, rfl⟩ := hr
      have hS : (s.heap.push { cls := .type "set", dict := none, data := .set #[] 0 (.fresh 0 0 (!w.params.followText "set-order")) }).get? s.heap.objs.size = some { cls := .type "set", dict := none, data := .set #[] 0 (.fresh 0 0 (!w.params.followText "set-order")) } := Heap.get?_push_size _ rfl
      have hT : Shared.TypeIs { s with heap := s.heap.push { cls := .type "set", dict := none, data := .set #[] 0 (.fresh 0 0 (!w.params.followText "set-order")) } } (.ref s.heap.objs.size) "set" := ⟨_, hS, rfl⟩
      have hli := F.called_set.init.lookup
      have hbi := F.called_set.init.bind (.ref s.heap.objs.size)
      repeat (any_goals (first | assumption | wp_step))
      refine codeAny_mono (codeAny_call_builtin (R := wants (fun r s₂ => r = .none ∧ ∃ h' tk, s₂ = { s with heap := h', toks := tk } ∧ SetQ P w h' s.heap.objs.size (x6 ks) ∧
          (∀ b o, s.heap.get? b = some o → h'.get? b = some o)) E) F.called_set.init.plain F.entry_set_init (check_set_init_1 hT ?_)) fun r₂ s₂ hr₂ => ?_
      · obtain ⟨ol, hol, hcl, nl, hdl⟩ := hl
        obtain ⟨ocls, odict, odata, oslots⟩ := ol
        simp only at hcl hdl
        subst hcl; subst hdl
        have hol' : (s.heap.push { cls := .type "set", dict := none, data := .set #[] 0 (.fresh 0 0 (!w.params.followText "set-order")) }).get? l = some { cls := .type "list", dict := odict, data := .seq items nl, slots := oslots } := Heap.get?_push_of_some _ hol
        have hsls := F.sub_list_set
        have hslf := F.sub_list_frozenset
        have hne : (Value.type "list" == Value.type "dict") = false := by decide
        have hl1 : (s.heap.push { cls := .type "set", dict := none, data := .set #[] 0 (.fresh 0 0 (!w.params.followText "set-order")) }).IsList l items := ⟨_, hol', rfl, nl, rfl⟩
        unfold Builtin.«set.__init__» noKeywords Builtin.Frozenset.updateFrom
        generalize hPI : pyIter = PI
        wp_walk
        subst hPI
        refine wpAny_pyIter_list hl1 ?_
        refine wpAny_bind (wpAny_runValue ?_)
        have hlS : l < s.heap.objs.size := Heap.lt_size hol
        have hh3 : A.in1.in1.in1.handled = none := by simp [hh]
        have hneI : l ≠ (s.heap.push { cls := .type "set", dict := none, data := .set #[] 0 (.fresh 0 0 (!w.params.followText "set-order")) }).objs.size := by
          rw [Heap.size_push]; exact Nat.ne_of_lt (Nat.lt_succ_of_lt hlS)
        have hSf : s.heap.objs.size ∉ [(s.heap.push { cls := .type "set", dict := none, data := .set #[] 0 (.fresh 0 0 (!w.params.followText "set-order")) }).objs.size, l] := by
          rw [Heap.size_push]; simp only [List.mem_cons, List.mem_singleton, List.not_mem_nil, or_false, not_or]
          exact ⟨Nat.ne_of_lt (Nat.lt_succ_self _), Nat.ne_of_gt hlS⟩
        have hval : ∀ (i : Nat) (v : Value), items[i]? = some v → ∃ k, ks[i]? = some k ∧ RelV (kV k) v := fun i v hv => by
          have hi : i < ks.length := by rw [← hisz]; exact (Array.getElem?_eq_some_iff.mp hv).1
          refine ⟨ks[i], List.getElem?_eq_getElem hi, ?_⟩
          obtain ⟨u, e1, e2⟩ := Vals.get (i := i) (x := kV ks[i]) hit (by rw [List.getElem?_map, List.getElem?_eq_getElem hi]; rfl)
          have e3 : items.toList[i]? = some v := by rw [Array.getElem?_toList]; exact hv
          rw [e3] at e1; cases e1; exact e2
        refine zsr ((Walks.list hh3 _ l hneI items).toS) s.heap.objs.size
          hSf ks hisz hb hval (items.size - 0) 0 _ (by omega) (Nat.zero_le _)
          ⟨⟨_, Heap.get?_push_size _ rfl, rfl, rfl⟩, (hl1.push _)⟩ ?hS0 ?hR
        case hS0 =>
          have hget : ((s.heap.push { cls := .type "set", dict := none, data := .set #[] 0 (.fresh 0 0 (!w.params.followText "set-order")) }).push { cls := .type "list_iterator", data := .fields #[.ref l, .int 0 0] }).get? s.heap.objs.size
              = some { cls := .type "set", dict := none, data := .set #[] 0 (.fresh 0 0 (!w.params.followText "set-order")) } := Heap.get?_push_of_some _ hS
          exact zxi hget
        case hR =>
          intro s' hm hS'
          obtain ⟨h', g2, d', tk', os'⟩ := s'
          have eg : g2 = s.gens := hm.gens
          have ed : d' = s.drawn := hm.drawn
          have eo : os' = s.os := hm.os
          subst eg; subst ed; subst eo
          show wpAny _ _ _ _ _ _
          refine wpAny_pure ?_
          show wpAny _ _ (ret Value.none) _ _ _
          refine wpAny_pure ⟨rfl, h', tk', rfl, hS', fun b o e => ?_⟩
          have hb0 : b < s.heap.objs.size := Heap.lt_size e
          have hb1 : b ≠ s.heap.objs.size := Nat.ne_of_lt hb0
          have hb2 : b ≠ (s.heap.push { cls := .type "set", dict := none, data := .set #[] 0 (.fresh 0 0 (!w.params.followText "set-order")) }).objs.size := by
            rw [Heap.size_push]; exact Nat.ne_of_lt (Nat.lt_succ_of_lt hb0)
          exact hm.heap b o (by simp only [List.mem_cons, List.mem_singleton, List.not_mem_nil, or_false, not_or]; exact ⟨hb1, hb2⟩) (Heap.get?_push_of_some _ (Heap.get?_push_of_some _ e))
      · cases r₂ with
        | error e => exact hr₂
        | ok fl₂ =>
          cases fl₂ with
          | ret r =>
            obtain ⟨rfl, h', tk, rfl, hS', hk'⟩ := hr₂
            repeat (any_goals (first | assumption | wp_step))
            exact h _ _ hS' hk'
          | _ => exact hr₂.elim
    | _ => exact hr.elim
end
end Mv
namespace Mv
open PySem PySem.Spec PyProof.Rows L2
section
variable {X : Cx} {K : PySem.W.Frag}
theorem zqk {pins : List (Addr × Obj)} {σ : L2.St} {F H : Hp} {s : Shared} {u : Value} {G : List D → Prop} {Q : VK} (I : Inv X pins σ H s) (st : Std F H) (okG : ∀ ds, G ds → SortOk ds) (hu : X.A.units + 200 < cLine) (hin : X.A.in1.units ≤ X.A.units + 8)
    (hcol : ∀ R : List Value → Shared → Prop, (∀ h' g' d' tk o' acc vs ds, G ds → g' = s.gens → o' = s.os → (∀ b o, s.heap.get? b = some o → h'.get? b = some o) → Vals vs acc → RepL X.K F vs ds → R acc { heap := h', gens := g', drawn := d', toks := tk, os := o' }) → wpAny (model X.prog X.w) X.A.in1 (collect u) R X.xe s)
    (k : ∀ p vs ds, G ds → H p = none → RepL X.K F vs (zch ds) → Q (.ref p) (upd H p (.lst vs))) : wpAny (model X.prog X.w) X.A (call (.builtin "sorted") [u]) (EP X pins σ Q) X.xe s := by
  refine Calls.call_function_entry PyProof.Rows.kind_sorted PyProof.Rows.plain_sorted PyProof.Rows.entry_sorted (PyProof.Rows.args_sorted1 _) ?_
  unfold Builtin.«sorted»
  refine wpAny_bind (m := checkCount "sorted" 1 1 _) (wpAny_pure ?_)
  refine wpAny_bind (hcol _ fun h' g' d' tk o' acc vs ds hG eg eo hk rv rs => ?_)
  subst eg eo
  have ok := okG ds hG
  have J := I.kept (t' := tk) hk
  have I1 : Inv X pins σ H { s with heap := h', drawn := d', toks := tk } := ⟨J.ok, J.os, J.bare, J.base, J.loc, J.cell, J.free, J.freeC, J.pin, J.hok, J.len⟩
  have hl : acc.length = ds.length := by rw [← rv.length, rs.length]
  refine wpAny_bind (wpAny_newList ?_ (by rw [hl]; exact ok.sz))
  have hoL : (h'.push (seqObj "list" acc.toArray 0)).get? h'.objs.size = some (seqObj "list" acc.toArray 0) := Heap.get?_push_size _ rfl
  show wpAny _ _ _ _ _ { s with heap := h'.push (seqObj "list" acc.toArray 0), drawn := d', toks := tk }
  have es := zgy rv rs
  have er := zgz (h' := h'.push (seqObj "list" acc.toArray 0)) (a := h'.objs.size) I1.hok st (fun b o e => Heap.get?_push_of_some _ e) (Nat.le_refl _) es ok.pu
  refine wpAny_bind (wpAny_holding (PySem.W.list_sort_data (s := { s with heap := h'.push (seqObj "list" acc.toArray 0), drawn := d', toks := tk }) hoL es er ok.al ok.so ok.sz (fun d hd => ?_) fun out h1 h2 => ?_))
  · obtain ⟨p, e, sh⟩ := ok.pu d hd
    have e2 : toPD d = p := by unfold toPD; rw [e]; rfl
    have := SeqAt.depth_of_shaped sh
    rw [e2]; omega
  · obtain ⟨e', he'⟩ := PyProof.Rows.sortedHeap_at (vs := acc) (out := out.toArray) hoL
    obtain ⟨vs', rv', rs'⟩ := zfm h2
    have hlen : vs'.length ≤ sizeLine := by rw [rv'.length, h1]; exact ok.sz
    have hn : H h'.objs.size = none := I1.hok.fresh (Nat.le_refl _)
    refine wpAny_pure ⟨_, rfl, .ref h'.objs.size, upd H h'.objs.size (.lst vs'), I1.laid (t' := tk) (fun b u e => ?_) (Nat.le_refl _)
      (show ObjOk X.prog X.w _ _ _ (.lst vs') from ⟨hlen, out, e', rv', he'⟩), rfl, k _ vs' ds hG hn rs'⟩
    have hb : b < h'.objs.size := Heap.lt_size e
    show (sortedHeap (h'.push (seqObj "list" acc.toArray 0)) h'.objs.size acc out.toArray).get? b = some u
    rw [PyProof.Rows.sortedHeap_old (Nat.ne_of_lt hb) (by rw [size_push']; exact Nat.lt_succ_of_lt hb)]
    exact Heap.get?_push_of_some _ e
def zkk (tw : DV) : DOw := fun δ Q => tw δ fun δ1 x => ∃ ds ks, vwD δ1 x = some (.lst ds) ∧ ze6 ds = some ks ∧ ks.length + 1 < scanBound ∧ ∀ ys : List Key, ys.Perm (x6 ks) → SortOk (ys.map keyD) ∧ Q δ1 (.lst (zch (ys.map keyD)))
variable {e a b c o f : Expr} {tw : DV} {pos p p2 q apos cpos pos' : Pos}
theorem zql : ∀ {us : List Value}, (∀ v ∈ us, ∃ k, RelV (kV k) v) → Vals ((us.map kOf).map kV) us
  | [], _ => .nil
  | v :: us, h => by
    obtain ⟨k, r⟩ := h v (by simp)
    rw [List.map_cons, List.map_cons, zms r]
    exact .cons r (zql fun u hu => h u (by simp [hu]))
theorem zul (hc : X.calm = true) (hu : X.A.units + 200 < cLine) (hg : Gl X "sorted") (hm : X.mg "sorted" = none) (hg2 : Gl X "set") (hm2 : X.mg "set" = none) (ha : PE X a (upV K tw)) (hK : X.K = K := by rfl)
    (hin : X.A.in1.units ≤ X.A.units + 8 := by exact Nat.add_le_add_left (show 1 ≤ 8 by decide) _) (hh : X.A.in1.handled = X.A.handled := by rfl)
    (na : starEach [a] X.env = (false, eval a X.env) :: starEach [] X.env := by rfl) : PE X (.Call (.Name "sorted" p) [.Call (.Name "set" p2) [a] [] q] [] pos) (upO K (zkk tw)) := by
  subst hK
  refine ⟨fun pins s σ H Q I ⟨F0, H0, P, δ, F, Q', R, ht, k⟩ => ?_⟩
  refine Call_ (ld_blt I hg hm (show bootBuiltins "sorted" = some (.builtin "sorted") by decide +kernel) ?_)
  refine PyProof.Rows.callWith_builtin1 (PyProof.Rows.args_cons ?_ rfl) rfl rfl
  refine Call_ (ld_blt I hg2 hm2 PyProof.Rows.boot_set ?_)
  have hrun := ha.run pins s σ H (fun v H1 => ∃ F1 δ1 l ks, v = .ref l ∧ RepS X.K F0 H0 P δ1 σ F1 H1 ∧ Ex F F1 ∧ SqL X.K H1 l (ks.map kV) ∧ ks.length + 1 < scanBound ∧ ∀ ys : List Key, ys.Perm (x6 ks) → SortOk (ys.map keyD) ∧ Q' δ1 (.lst (zch (ys.map keyD)))) I ⟨F0, H0, P, δ, F, _, R, ht, fun δ1 F1 H1 v x R1 e1 ok ⟨ds, ks, hd, hn, hb, q⟩ => by
    obtain ⟨l, vs, rfl, hs, rs⟩ := (R1.view ok (Ex.refl F1) hd).lst'
    obtain rfl := zkg rs hn
    exact ⟨F1, δ1, l, ks, rfl, R1, e1, .inl hs, hb, q⟩⟩
  refine PyProof.Rows.callWith_type1 (PyProof.Rows.args_cons (thn hrun fun v s1 ⟨x, H1, I1, r1, q1⟩ => PyProof.Rows.args_nil ?_) na) na rfl
  obtain ⟨F1, δ1, l, ks, rfl, R1, e1, hq, hb, q1⟩ := q1
  cases r1
  obtain ⟨its, r, pl, hz⟩ := I1.list hq
  refine zvz ks (I1.ok.hd hc) pl.isList (by simpa using r) hb fun h' tk hS hk => ?_
  refine PyProof.Rows.args_nil ?_
  have I2 : Inv X pins σ H1 { s1 with heap := h', toks := tk } := I1.kept hk
  obtain ⟨o, es, ep, t, ho, hex, hd, g, pk, nd, hb2, hf, hr, hl⟩ := hS
  refine zqk (G := fun ds => ∃ ys : List Key, ds = ys.map keyD ∧ ys.Perm (x6 ks)) I2 R1.std (fun ds ⟨ys, e, hp⟩ => e ▸ (q1 ys hp).1) hu hin (fun R hR => ?_) fun p vs ds ⟨ys, e, hp⟩ hn rs => ?_
  · refine collect_set (hh.trans (I1.ok.hd hc)) ⟨o, ho, hex.1, hd⟩ hf hb2 hr hl fun s' out k1 k2 k3 k4 pm => ?_
    obtain ⟨h2, g2, d2, t2, o2⟩ := s'
    have hv : ∀ v ∈ out, ∃ k, RelV (kV k) v := fun v hv => by
      obtain ⟨en, he, q⟩ := List.mem_map.mp (pm.mem_iff.mp hv)
      obtain ⟨k, r, _⟩ := g en he
      exact ⟨k, q ▸ r⟩
    have hpk : (out.map kOf).Perm (x6 ks) := by
      have z := pm.map kOf
      rw [List.map_map] at z
      exact z.trans pk
    exact hR h2 g2 d2 t2 o2 out ((out.map kOf).map kV) ((out.map kOf).map keyD) ⟨_, rfl, hpk⟩ k3 k4 k1 (zql hv) (zbw _)
  · subst e
    exact k δ1 F1 _ p _ _ (R1.newP hn) (R1.fresh hn) e1 (show OwnAt X.K F1 _ p (.lst _) from ⟨vs, upd_same, rs⟩) (q1 ys hp).2
end
end Mv
namespace Mv
open PySem PySem.Spec PyProof.Rows L2
section
variable {K : PySem.W.Frag} {F0 H0 F H F' H' : Hp} {P : Pl} {δ : Dl} {σ : L2.St} {κ : Type}
inductive NP (K : PySem.W.Frag) (F : Hp) {κ : Type} : List (κ × V) → List (κ × O) → Pl → Prop
  | nil : NP K F [] [] []
  | cons {k : κ} {b : Addr} {ho : HO} {o : O} {ws : List (κ × V)} {kvs : List (κ × O)} {Ps : Pl} : OwnO K F ho o → NP K F ws kvs Ps → NP K F ((k, .ref b) :: ws) ((k, o) :: kvs) ((b, ho) :: Ps)
theorem NP.mono (e : Ex F F') : ∀ {ws : List (κ × V)} {kvs : List (κ × O)} {Ps : Pl}, NP K F ws kvs Ps → NP K F' ws kvs Ps
  | _, _, _, .nil => .nil
  | _, _, _, .cons h t => .cons (h.mono e) (NP.mono e t)
theorem NP.app : ∀ {ws us : List (κ × V)} {kvs es : List (κ × O)} {Ps Qs : Pl}, NP K F ws kvs Ps → NP K F us es Qs → NP K F (ws ++ us) (kvs ++ es) (Ps ++ Qs)
  | _, _, _, _, _, _, .nil, t => t
  | _, _, _, _, _, _, .cons h r, t => .cons h (NP.app r t)
theorem NP.length : ∀ {ws : List (κ × V)} {kvs : List (κ × O)} {Ps : Pl}, NP K F ws kvs Ps → ws.length = kvs.length
  | _, _, _, .nil => rfl
  | _, _, _, .cons h r => by simp [NP.length r]
theorem OwnAt.own {a : Addr} {o : O} (h : OwnAt K F H a o) : ∃ ho, H a = some ho ∧ OwnO K F ho o := by
  cases o <;> (obtain ⟨vs, h1, h2⟩ := h; exact ⟨_, h1, vs, rfl, h2⟩)
theorem NG.np {w : Addr → Option Nat} {i : Nat} : ∀ {ws : List (κ × V)} {kvs : List (κ × O)} {bs : List Addr}, NG K F H w i ws kvs bs → ∃ Ps, NP K F ws kvs Ps ∧ pk Ps = bs ∧ ∀ q ∈ Ps, H q.1 = some q.2 ∧ w q.1 = some i
  | _, _, _, .nil => ⟨[], .nil, rfl, fun _ h => nomatch h⟩
  | _, _, _, .cons h q t => by
    obtain ⟨Ps, a, b, c⟩ := NG.np t
    obtain ⟨ho, h1, h2⟩ := q.own
    exact ⟨(_, ho) :: Ps, .cons h2 a, by simp [pk] at b ⊢; exact b, fun x hx => by
      rcases List.mem_cons.mp hx with rfl | hx
      · exact ⟨h1, h⟩
      · exact c x hx⟩
theorem NP.ng {w : Addr → Option Nat} {i : Nat} : ∀ {ws : List (κ × V)} {kvs : List (κ × O)} {Ps : Pl}, NP K F ws kvs Ps → (∀ q ∈ Ps, H q.1 = some q.2 ∧ w q.1 = some i) → NG K F H w i ws kvs (pk Ps)
  | _, _, _, .nil, _ => .nil
  | _, _, _, .cons h r, hp => .cons (hp _ List.mem_cons_self).2 (h.own (hp _ List.mem_cons_self).1) (NP.ng r fun q hq => hp q (by simp [hq]))
theorem set_same {i : Nat} {v : V} (e : σ[i]? = some (some v)) : σ.set i (some v) = σ := by
  apply List.ext_getElem?
  intro j
  by_cases hj : i = j
  · subst hj
    rw [List.getElem?_set_self (List.getElem?_eq_some_iff.mp e).1, e]
  · rw [List.getElem?_set_ne hj]
theorem RepS.disown (R : RepS K F0 H0 P δ σ F H) {i : Nat} {kvs : List (Key × O)} (h : δ[i]? = some (some (.nk kvs))) : ∃ a ws Ps, σ[i]? = some (some (.ref a)) ∧ NP K F ws kvs Ps ∧ RepS K F0 H0 ((a, .dK ws) :: (Ps ++ P)) (δ.set i none) σ F H ∧
    (a :: pk Ps).Nodup ∧ (kvs.map (·.1)).Nodup ∧ ∀ x ∈ a :: pk Ps, x ∉ pk P := by
  obtain ⟨w, h1, hw⟩ := R.own
  obtain ⟨v, ev, a, ws, bs, rfl, ew, hh, ng, nd, nk⟩ := hw i _ h
  obtain ⟨Ps, np, e, hp⟩ := ng.np
  subst e
  have all : ∀ x ∈ a :: pk Ps, w x = some i := fun x hx => by
    rcases List.mem_cons.mp hx with rfl | hx
    · exact ew
    · obtain ⟨q, hq, rfl⟩ := List.mem_map.mp hx
      exact (hp q hq).2
  refine ⟨a, ws, Ps, ev, np, ⟨R.e1, R.e2, R.e3, R.fr, R.tp, by simp [R.len], ⟨fun x => if w x = some i then none else w x, fun x j e => ?_, fun j s e => ?_⟩, R.low, fun p ho hq => ?_⟩, nd, nk, fun x hx => (h1 x i (all x hx)).2.2.2⟩
  · by_cases z : w x = some i
    · replace e := (if_pos z).symm.trans e; cases e
    · replace e := (if_neg z).symm.trans e
      obtain ⟨a1, a2, a3, a4⟩ := h1 x j e
      refine ⟨a1, a2, a3, fun q => ?_⟩
      have q' : x ∈ a :: pk Ps ∨ x ∈ pk P := by simpa [pk, or_assoc] using q
      rcases q' with q | q
      · exact z (all x q)
      · exact a4 q
  · by_cases hj : i = j
    · subst hj
      have hi : i < δ.length := by
        have := (List.getElem?_eq_some_iff.mp e).1
        simpa using this
      rw [List.getElem?_set_self hi] at e
      cases e
    · rw [List.getElem?_set_ne hj] at e
      obtain ⟨u, eu, q⟩ := hw j s e
      refine ⟨u, eu, q.keep (Ex.refl F) fun b ew2 => ⟨(if_neg fun z => ?_).trans ew2, fun _ => rfl⟩⟩
      rw [ew2] at z; cases z; exact hj rfl
  · have hq' : (p, ho) = (a, .dK ws) ∨ (p, ho) ∈ Ps ∨ (p, ho) ∈ P := by simpa using hq
    rcases hq' with e | hq | hq
    · cases e
      obtain ⟨a1, a2, _⟩ := h1 a i ew
      exact ⟨a1, a2, hh⟩
    · obtain ⟨b1, b2⟩ := hp _ hq
      obtain ⟨a1, a2, _⟩ := h1 p i b2
      exact ⟨a1, a2, b1⟩
    · exact R.rsv p ho hq
theorem RepS.reown {a : Addr} {ws : List (Key × V)} {kvs : List (Key × O)} {Ps : Pl} (R : RepS K F0 H0 ((a, .dK ws) :: (Ps ++ P)) δ σ F H) {i : Nat} (ev : σ[i]? = some (some (.ref a))) (np : NP K F ws kvs Ps)
    (nd : (a :: pk Ps).Nodup) (nk : (kvs.map (·.1)).Nodup) (di : ∀ x ∈ a :: pk Ps, x ∉ pk P) : RepS K F0 H0 P (δ.set i (some (.nk kvs))) σ F H := by
  obtain ⟨w, h1, hw⟩ := R.own
  have mem : ∀ x, x ∈ a :: pk Ps → x ∈ pk ((a, HO.dK ws) :: (Ps ++ P)) := fun x hx => by
    have : x ∈ a :: pk Ps ∨ x ∈ pk P := .inl hx
    simpa [pk, or_assoc] using this
  refine ⟨R.e1, R.e2, R.e3, R.fr, R.tp, by simp [R.len], ⟨fun x => if x ∈ a :: pk Ps then some i else w x, fun x j e => ?_, fun j s e => ?_⟩, R.low, fun p ho hq => R.rsv p ho (by simp [hq])⟩
  · by_cases z : x ∈ a :: pk Ps
    · replace e := (if_pos z).symm.trans e
      obtain ⟨a1, a2, a3⟩ := R.rsv' (mem x z)
      exact ⟨a1, a2, a3, di x z⟩
    · replace e := (if_neg z).symm.trans e
      obtain ⟨a1, a2, a3, a4⟩ := h1 x j e
      refine ⟨a1, a2, a3, fun q => a4 ?_⟩
      have : x ∈ a :: pk Ps ∨ x ∈ pk P := .inr q
      simpa [pk, or_assoc] using this
  · by_cases hj : i = j
    · subst hj
      have hi : i < δ.length := by
        have := (List.getElem?_eq_some_iff.mp e).1
        simpa using this
      rw [List.getElem?_set_self hi] at e
      cases e
      refine ⟨.ref a, ev, a, ws, pk Ps, rfl, if_pos (by simp), (R.rsv a _ (by simp)).2.2, np.ng fun q hq => ⟨(R.rsv q.1 q.2 (by simp [hq])).2.2, if_pos (List.mem_cons_of_mem _ (List.mem_map.mpr ⟨q, hq, rfl⟩))⟩, nd, nk⟩
    · rw [List.getElem?_set_ne hj] at e
      obtain ⟨u, eu, q⟩ := hw j s e
      refine ⟨u, eu, q.keep (Ex.refl F) fun b ew2 => ⟨(if_neg fun z => ?_).trans ew2, fun _ => rfl⟩⟩
      exact (h1 b j ew2).2.2.2 (mem b z)
section
variable [DecidableEq κ]
theorem NP.val {ws : List (κ × V)} {kvs : List (κ × O)} {Ps : Pl} (h : NP K F ws kvs Ps) (k : κ) : (∃ b ho o, valV ws k = some (.ref b) ∧ valG kvs k = some o ∧ (b, ho) ∈ Ps ∧ OwnO K F ho o) ∨ (valV ws k = none ∧ valG kvs k = none) := by
  induction h with
  | nil => exact .inr ⟨rfl, rfl⟩
  | @cons k' b ho o ws kvs Ps r t ih =>
    by_cases e : k' = k
    · exact .inl ⟨b, ho, o, by simp [valV, e], by simp [valG, e], by simp, r⟩
    · have e1 : valV ((k', V.ref b) :: ws) k = valV ws k := by simp [valV, e]
      have e2 : valG ((k', o) :: kvs) k = valG kvs k := by simp [valG, e]
      rw [e1, e2]
      rcases ih with ⟨b, ho, o, a1, a2, a3, a4⟩ | ih
      · exact .inl ⟨b, ho, o, a1, a2, by simp [a3], a4⟩
      · exact .inr ih
theorem ztf {α : Type} {kvs : List (κ × α)} {k : κ} {x : α} (h : valG kvs k = some x) (y : α) : putG kvs k y = kvs.map fun (kv : κ × α) => if kv.1 = k then (kv.1, y) else kv := by
  unfold putG
  rw [if_pos]
  unfold valG at h
  cases q : kvs.find? fun kv => decide (kv.1 = k) with
  | none => rw [q] at h; cases h
  | some z => exact List.any_eq_true.mpr ⟨z, List.mem_of_find?_eq_some q, List.find?_some (p := fun (kv : κ × α) => decide (kv.1 = k)) q⟩
theorem zxl {α : Type} {kvs : List (κ × α)} {k : κ} (h : valG kvs k = none) (y : α) : putG kvs k y = kvs ++ [(k, y)] := by
  unfold putG
  rw [if_neg]
  intro z
  obtain ⟨x, hx, e⟩ := List.any_eq_true.mp z
  unfold valG at h
  have := List.find?_eq_none.mp (Option.map_eq_none_iff.mp h) x hx
  exact this e
theorem zv0 {α : Type} {kvs : List (κ × α)} {k : κ} {x : α} (h : valG kvs k = some x) (y : α) : (putG kvs k y).map (·.1) = kvs.map (·.1) := by
  rw [ztf h, List.map_map]
  apply List.map_congr_left
  intro a _
  show (if a.1 = k then (a.1, y) else a).1 = a.1
  split <;> rfl
theorem NP.upd {ws : List (κ × V)} {kvs : List (κ × O)} {Ps : Pl} (h : NP K F ws kvs Ps) {k : κ} {b : Addr} (hb : valV ws k = some (.ref b)) (nk : (kvs.map (·.1)).Nodup) (nd : (pk Ps).Nodup) {ho' : HO} {o' : O} (q : OwnO K F ho' o') :
    ∃ Ps', NP K F ws (kvs.map fun (kv : κ × O) => if kv.1 = k then (kv.1, o') else kv) Ps' ∧ pk Ps' = pk Ps ∧ ∀ x ∈ Ps', x = (b, ho') ∨ (x ∈ Ps ∧ x.1 ≠ b) := by
  induction h with
  | nil => cases hb
  | @cons k' b' ho o ws kvs Ps r t ih =>
    by_cases e : k' = k
    · subst e
      have : b' = b := by simpa [valV] using hb
      subst this
      have hk : ∀ kv ∈ kvs, kv.1 ≠ k' := fun kv hkv z => by
        have := (List.nodup_cons.mp nk).1
        exact this (z ▸ List.mem_map.mpr ⟨kv, hkv, rfl⟩)
      have em : (kvs.map fun (kv : κ × O) => if kv.1 = k' then (kv.1, o') else kv) = kvs := by
        conv => rhs; rw [← List.map_id kvs]
        apply List.map_congr_left
        intro a ha
        show (if a.1 = k' then (a.1, o') else a) = a
        rw [if_neg (hk a ha)]
      refine ⟨(b', ho') :: Ps, ?_, rfl, fun x hx => ?_⟩
      · rw [List.map_cons, em]
        show NP K F _ ((if k' = k' then (k', o') else (k', o)) :: kvs) _
        rw [if_pos rfl]
        exact .cons q t
      · rcases List.mem_cons.mp hx with rfl | hx
        · exact .inl rfl
        · exact .inr ⟨by simp [hx], fun z => (List.nodup_cons.mp nd).1 (z ▸ List.mem_map.mpr ⟨x, hx, rfl⟩)⟩
    · have hb2 : valV ws k = some (.ref b) := by simpa [valV, e] using hb
      obtain ⟨Ps', a1, a2, a3⟩ := ih hb2 (List.nodup_cons.mp nk).2 (List.nodup_cons.mp nd).2
      have hbm : b ∈ pk Ps := by
        have : ∀ {ws : List (κ × V)} {kvs : List (κ × O)} {Ps : Pl}, NP K F ws kvs Ps → valV ws k = some (.ref b) → b ∈ pk Ps := fun h e => by
          rcases h.val k with ⟨b2, ho, o, c1, c2, c3, c4⟩ | ⟨c1, c2⟩
          · rw [e] at c1; cases c1; exact zei c3
          · rw [e] at c1; cases c1
        exact this t hb2
      refine ⟨(b', ho) :: Ps', ?_, by simp [pk] at a2 ⊢; exact a2, fun x hx => ?_⟩
      · rw [List.map_cons]
        show NP K F _ ((if k' = k then (k', o') else (k', o)) :: _) _
        rw [if_neg e]
        exact .cons r a1
      · rcases List.mem_cons.mp hx with rfl | hx
        · exact .inr ⟨by simp, fun z => (List.nodup_cons.mp nd).1 (by show b' ∈ pk Ps; have z : b' = b := z; rw [z]; exact hbm)⟩
        · rcases a3 x hx with z | ⟨z1, z2⟩
          · exact .inl z
          · exact .inr ⟨by simp [z1], z2⟩
end
end
end Mv
namespace Mv
open PySem PySem.Spec PyProof.Rows L2
inductive LQ (G : Hp → Prop) : Hp → Prop
  | done {H : Hp} : G H → LQ G H
  | lock {H : Hp} {d : Addr} {u : HO} : H d = some u → Mut (some u) → (∀ od, LQ G (upd H d (.frz od u))) → LQ G H
def z1k (t : TE) : TE := fun σ H Q => t σ H fun v H' => LQ (Q v) H'
section
variable {X : Cx} {e : Expr}
theorem z1l {pins : List (Addr × Obj)} {σ : L2.St} {s : Shared} {G : Hp → Prop} {H : Hp} (q : LQ G H) : Inv X pins σ H s → ∃ H', Inv X pins σ H' s ∧ G H' := by
  induction q with
  | done g => exact fun I => ⟨_, I, g⟩
  | lock h mu _ ih => exact fun I => let ⟨od, I2⟩ := I.lock h mu; ih od I2
theorem zxm {t : TE} (h : PE X e t) : PE X e (z1k t) := ⟨fun pins s σ H Q I q => thn (h.run pins s σ H _ I q) fun u s1 ⟨v, H1, I1, r1, q1⟩ => by
  obtain ⟨H2, I2, g⟩ := z1l q1 I1
  exact ⟨v, H2, I2, r1, g⟩⟩
end
section
variable {K : PySem.W.Frag} {F0 H0 F H F' H' : Hp} {P : Pl} {δ : Dl} {σ : L2.St} {κ : Type} {G : Hp → Prop}
theorem OwnO.mut {ho : HO} {o : O} (h : OwnO K F ho o) : Mut (some ho) := by
  cases o <;> (obtain ⟨vs, rfl, _⟩ := h; exact trivial)
theorem OwnO.rep {ho : HO} {o : O} (h : OwnO K F ho o) {b : Addr} {od : Obj} (e : F b = some (.frz od ho)) : Rep K F (.ref b) o.d := by
  cases o with
  | lst ds => obtain ⟨vs, rfl, r⟩ := h; exact .lst e r
  | dk ds => obtain ⟨vs, rfl, r⟩ := h; exact .dk e r
  | dt ds => obtain ⟨vs, rfl, r⟩ := h; exact .dt e r
  | ins C fs => obtain ⟨vs, rfl, r⟩ := h; exact .ins e r
theorem zv1 (e : Ex F F') {ws : List (κ × V)} {kvs : List (κ × D)} (h : RepG K F ws kvs) : RepG K F' ws kvs := by
  induction h with
  | nil => exact .nil
  | cons r _ ih => exact .cons (r.mono e) ih
theorem zkb : ∀ {ws : List (κ × V)} {kvs : List (κ × O)} {Ps : Pl} {F H : Hp}, NP K F ws kvs Ps → RepS K F0 H0 (Ps ++ P) δ σ F H → (pk Ps).Nodup → (∀ x ∈ pk Ps, x ∉ pk P) →
    (∀ F' H', RepS K F0 H0 P δ σ F' H' → Ex F F' → RepG K F' ws (kvs.map fun x => (x.1, x.2.d)) → LQ G H') → LQ G H
  | _, _, _, F, H, .nil, R, _, _, k => k F H R (Ex.refl F) .nil
  | _, _, _, F, H, .cons (b := b) (ho := ho) (o := o) (Ps := Ps) q t, R, nd, di, k => by
    have hb := R.rsv b ho (by simp)
    have hP : b ∉ pk (Ps ++ P) := fun z => by
      have z' : b ∈ pk Ps ∨ b ∈ pk P := by simpa [pk] using z
      rcases z' with z | z
      · exact (List.nodup_cons.mp nd).1 z
      · exact di b (by simp [pk]) z
    refine .lock hb.2.2 q.mut fun od => ?_
    have e1 : Ex F (upd F b (.frz od ho)) := Ex.new hb.2.1
    have R1 : RepS K F0 H0 (Ps ++ P) δ σ (upd F b (.frz od ho)) (upd H b (.frz od ho)) := RepS.frzP (P := Ps ++ P) R hP _
    refine zkb (t.mono e1) R1 (List.nodup_cons.mp nd).2 (fun x hx => di x (by simp [pk] at hx ⊢; exact .inr hx)) fun F' H' R' ex rg => ?_
    exact k F' H' R' (e1.trans ex) (.cons ((q.mono (e1.trans ex)).rep (ex _ _ upd_same)) rg)
theorem RepS.freezeN (R : RepS K F0 H0 P δ σ F H) {i : Nat} {kvs : List (Key × O)} (h : δ[i]? = some (some (.nk kvs))) : ∃ a, σ[i]? = some (some (.ref a)) ∧ ∀ G : Hp → Prop,
    (∀ F' H', RepS K F0 H0 P (δ.set i (some (.fz (S.nk kvs).d))) σ F' H' → Ex F F' → Rep K F' (.ref a) (S.nk kvs).d → LQ G H') → LQ G H := by
  obtain ⟨a, ws, Ps, ev, np, R1, nd, nk, di⟩ := R.disown h
  refine ⟨a, ev, fun G k => ?_⟩
  obtain ⟨nd1, nd2⟩ := List.nodup_cons.mp nd
  have R2 : RepS K F0 H0 (Ps ++ (a, .dK ws) :: P) (δ.set i none) σ F H := R1.unP fun q hq => by
    have : q ∈ Ps ∨ q = (a, .dK ws) ∨ q ∈ P := by simpa using hq
    rcases this with h | h | h <;> simp [h]
  refine zkb np R2 nd2 (fun x hx z => ?_) fun F' H' R3 ex rg => ?_
  · have z' : x = a ∨ x ∈ pk P := by simpa [pk] using z
    rcases z' with z | z
    · exact nd1 (z ▸ hx)
    · exact di x (by simp [hx]) z
  · have ha := R3.rsv a (.dK ws) List.mem_cons_self
    refine .lock ha.2.2 (by trivial) fun od => ?_
    have e1 : Ex F' (upd F' a (.frz od (.dK ws))) := Ex.new ha.2.1
    have R4 := R3.frzP (di a (by simp)) (.frz od (.dK ws))
    have rp : Rep K (upd F' a (.frz od (.dK ws))) (.ref a) (S.nk kvs).d := by
      exact .dk upd_same (zv1 e1 rg).k
    have R5 := R4.setF i rp
    rw [set_same ev, List.set_set] at R5
    exact k _ _ R5 (ex.trans e1) rp
end
section
variable {X : Cx} {K : PySem.W.Frag} {e a b c o f : Expr} {ta tb tc te tk tx tk2 : DE} {to : DOw} {pos p apos cpos pos' : Pos}
def zlp (i : Nat) : DE := fun δ Q => match δ[i]? with
  | some (some (.nk kvs)) => Q (δ.set i (some (.fz (S.nk kvs).d))) (S.nk kvs).d
  | some (some (.fz d)) => Q δ d
  | _ => False
theorem zzn {i : Nat} (h : PE X e (tVar i)) : PE X e (upE K (zlp i)) := pimp (zxm h) fun σ H Q ⟨F0, H0, P, δ, F, Q', R, ht, k⟩ => by
  unfold zlp at ht
  split at ht
  · rename_i kvs e1
    obtain ⟨a, ev, fr⟩ := R.freezeN e1
    exact ⟨_, ev, fr _ fun F' H' R' ex rp => .done (k _ F' H' _ _ R' ex rp ht)⟩
  · rename_i d e1
    obtain ⟨v, ev, r⟩ := R.fz e1
    exact ⟨v, ev, .done (k δ F H v d R (Ex.refl F) r ht)⟩
  · exact ht.elim
def zqm (i : Nat) : DS := fun D δ => D.nx (δ.set i (some (.nk [])))
theorem RepS.nk0 {F0 H0 F H : Hp} {P : Pl} {δ : Dl} {σ : L2.St} (R : RepS K F0 H0 P δ σ F H) {i : Nat} (h : δ[i]? = some (some (.own (.dk [])))) : RepS K F0 H0 P (δ.set i (some (.nk []))) σ F H := by
  obtain ⟨w, h1, hw⟩ := R.own
  refine ⟨R.e1, R.e2, R.e3, R.fr, R.tp, by simp [R.len], ⟨w, h1, fun j s e => ?_⟩, R.low, R.rsv⟩
  by_cases hj : i = j
  · subst hj
    have hi : i < δ.length := by
      have := (List.getElem?_eq_some_iff.mp e).1
      simpa using this
    rw [List.getElem?_set_self hi] at e
    cases e
    obtain ⟨v, ev, a, rfl, ew, ws, hh, r⟩ := hw i _ h
    cases r
    exact ⟨_, ev, a, [], [], rfl, ew, hh, .nil, by simp, by simp⟩
  · rw [List.getElem?_set_ne hj] at e
    exact hw j s e
theorem zxn {i : Nat} {x : Str} (hN : X.N.Nodup) (hi : X.N[i]? = some x) (hx : Loc X.env.scope x) (hs : swapsWith (.Dict [] [] p) (some (.Name x pos')) pos.line X.env = pure false := by rfl) (hf : X.fn x = true ∨ X.env.scope.names.lookup x = some .local := by first | exact .inl rfl | exact .inr rfl) :
    PS X (.Assign [.Name x pos'] (.Dict [] [] p) pos) (upS K (zqm i)) := vu (ps_set hN hi hx (u8 (K := K)) hs hf) fun D σ H ⟨F0, H0, δ, F, D', W⟩ =>
  ⟨F0, H0, [], δ, F, fun δ' o => o = .dk [] ∧ D'.nx (δ'.set i (some (.nk []))), W.rep, ⟨rfl, W.t⟩, fun δ1 F1 H1 p hp0 o R1 hP e1 q ⟨eo, ht⟩ => by
    subst eo
    have R2 := R1.setO hP i q
    by_cases hl : i < δ1.length
    · have R3 := R2.nk0 (i := i) (by rw [List.getElem?_set_self hl])
      rw [List.set_set] at R3
      exact W.nx _ _ F1 H1 R3 e1 ht
    · have e3 : ∀ s, δ1.set i s = δ1 := fun s => List.set_eq_of_length_le (by omega)
      rw [e3] at ht R2
      exact W.nx _ _ F1 H1 R2 e1 ht⟩
end
end Mv
namespace Mv
open PySem PySem.Spec PyProof.Rows L2
def setG {κ α : Type} [DecidableEq κ] (kvs : List (κ × α)) (k : κ) (o : α) : List (κ × α) := if (valG kvs k).isSome = true then kvs else kvs ++ [(k, o)]
theorem zf7 {κ α : Type} [DecidableEq κ] {kvs : List (κ × α)} {k : κ} (h : valG kvs k = none) : k ∉ kvs.map (·.1) := fun z => by
  obtain ⟨x, hx, e⟩ := List.mem_map.mp z
  unfold valG at h
  have := List.find?_eq_none.mp (Option.map_eq_none_iff.mp h) x hx
  simp at this
  exact this e
section
variable {X : Cx} {K : PySem.W.Frag} {e a b c o f e1 e2 : Expr} {ta tb tc te tk tx tk1 tk2 : DE} {to : DOw} {pos p apos cpos pos' p1 p2 : Pos}
def zd9 (i : Nat) (tk : DE) (to : DOw) : DS := fun D δ => match δ[i]? with
  | some (some (.nk _)) => tk δ fun δ1 kd => to δ1 fun δ2 o => match δ2[i]? with
    | some (some (.nk kvs)) => ∃ k, dkey kd = some k ∧ kvs.length < sizeLine ∧ D.nx (δ2.set i (some (.nk (setG kvs k o))))
    | _ => False
  | _ => False
theorem RepS.nkd {F0 H0 F H : Hp} {P : Pl} {δ : Dl} {σ : L2.St} (R : RepS K F0 H0 P δ σ F H) {i : Nat} {kvs : List (Key × O)} (h : δ[i]? = some (some (.nk kvs))) : ∃ a ws, σ[i]? = some (some (.ref a)) ∧ H a = some (.dK ws) := by
  obtain ⟨a, ws, Ps, ev, np, R1, _⟩ := R.disown h
  exact ⟨a, ws, ev, (R1.rsv a (.dK ws) List.mem_cons_self).2.2⟩
theorem zv2 {i : Nat} (h : PE X (.Call (.Attribute o "setdefault" apos) [e, f] [] cpos) (tDSetd (tVar i) (upE K tk) (upO K to))) (hs : swapsWith (.Call (.Attribute o "setdefault" apos) [e, f] [] cpos) none pos'.line X.env = pure false := by rfl) :
    PS X (.Expr (.Call (.Attribute o "setdefault" apos) [e, f] [] cpos) pos') (upS K (zd9 i tk to)) := vu (ps_expr h hs) fun D σ H ⟨F0, H0, δ, F, D', W⟩ => by
  have ht := W.t
  unfold zd9 at ht
  split at ht
  · rename_i kvs0 e1
    obtain ⟨a, ws0, ea, hw⟩ := W.rep.nkd e1
    refine ⟨_, ea, a, rfl, .inl ⟨ws0, .inl hw⟩, F0, H0, [], δ, F, _, W.rep, ht, fun δ1 F1 H1 y dy R1 ex1 ry ht => ?_⟩
    refine ⟨F0, H0, [], δ1, F1, _, R1, ht, fun δ2 F2 H2 p ho ob R2 hP ex2 oa ht => ?_⟩
    split at ht
    · rename_i kvs e2
      obtain ⟨k, hk, hl, q⟩ := ht
      obtain ⟨a', ws, Ps, ea', np, R3, nd, nk, di⟩ := R2.disown e2
      rw [ea] at ea'; cases ea'
      have ha := R3.rsv a (.dK ws) List.mem_cons_self
      refine ⟨ws, k, ha.2.2, zax ry hk, by rw [np.length]; exact hl, fun v hv => ?_, fun hn => ?_⟩
      · rcases np.val k with ⟨b, ho2, o2, c1, c2, _⟩ | ⟨c1, c2⟩
        · have R4 : RepS K F0 H0 ((a, .dK ws) :: (Ps ++ [])) (δ2.set i none) σ F2 H2 := R3.unP fun x hx => by
            have : x = (a, .dK ws) ∨ x ∈ Ps := by simpa using hx
            rcases this with h | h <;> simp [h]
          have R5 := R4.reown ea np nd nk (fun _ _ z => nomatch z)
          rw [List.set_set] at R5
          have es : setG kvs k ob = kvs := by unfold setG; rw [c2]; rfl
          rw [es] at q
          exact W.nx _ _ F2 _ R5 (ex1.trans ex2) q
        · rw [hv] at c1; cases c1
      · rcases np.val k with ⟨b, ho2, o2, c1, c2, _⟩ | ⟨c1, c2⟩
        · rw [hn] at c1; cases c1
        · have hp : p ∉ a :: pk Ps := fun z => di p z (by simp [pk])
          have ha2 : a ∉ pk (Ps ++ [(p, ho)]) := fun z => by
            have : a ∈ pk Ps ∨ a = p := by simpa [pk] using z
            rcases this with z | z
            · exact (List.nodup_cons.mp nd).1 z
            · exact hp (z ▸ List.mem_cons_self)
          have R4 := RepS.wrP (P := Ps ++ [(p, ho)]) R3 ha2 (.dK (putK ws k (.ref p)))
          obtain ⟨ho', hh, oo⟩ := oa.own
          have hp2 := R2.rsv p ho (by simp)
          rw [hp2.2.2] at hh; cases hh
          have np2 : NP K F2 (putK ws k (.ref p)) (kvs ++ [(k, ob)]) (Ps ++ [(p, ho)]) := by
            have e3 : putK ws k (.ref p) = ws ++ [(k, .ref p)] := zxl (show valG ws k = none from hn) _
            rw [e3]
            exact np.app (.cons oo .nil)
          have R4' : RepS K F0 H0 ((a, .dK (putK ws k (.ref p))) :: ((Ps ++ [(p, ho)]) ++ [])) (δ2.set i none) σ F2 (upd H2 a (.dK (putK ws k (.ref p)))) := by
            rw [List.append_nil]; exact R4
          have R5 := R4'.reown ea np2 (List.nodup_cons.mpr ⟨ha2, by
            have : pk (Ps ++ [(p, ho)]) = pk Ps ++ [p] := by simp [pk]
            rw [this, List.nodup_append]
            exact ⟨(List.nodup_cons.mp nd).2, by simp, fun x hx y hy z => by
              have hy : y = p := by simpa using hy
              subst hy; exact hp (z ▸ List.mem_cons_of_mem _ hx)⟩⟩) (by
            rw [List.map_append, List.nodup_append]
            exact ⟨nk, by simp, fun x hx y hy z => by
              have hy : y = k := by simpa using hy
              subst hy; exact zf7 c2 (z ▸ hx)⟩) (fun _ _ z => nomatch z)
          rw [List.set_set] at R5
          have es : setG kvs k ob = kvs ++ [(k, ob)] := by unfold setG; rw [c2]; rfl
          rw [es] at q
          exact W.nx _ _ F2 _ R5 (ex1.trans ex2) q
    · exact ht.elim
  · exact ht.elim
def zum (i : Nat) (tk1 tk2 : DE) : DG := fun d δ Q => (∃ kvs, δ[i]? = some (some (.nk kvs))) ∧ tk1 δ fun δ1 kd => match δ1[i]? with
  | some (some (.nk kvs)) => ∃ k g, dkey kd = some k ∧ valG kvs k = some (.dk g) ∧ tk2 (δ1.set i none) fun δ2 kd2 => ∃ k2, dkey kd2 = some k2 ∧ g.length < sizeLine ∧ Q (δ2.set i (some (.nk (putG kvs k (.dk (putG g k2 d))))))
  | _ => False
theorem zzo {i : Nat} (hu : X.A.units + 1 < cLine) (ho : PE X o (tVar i)) (h1 : PE X e1 (upE K tk1)) (h2 : PE X e2 (upE K tk2)) (hs : PlainIx e1 := by exact fun _ _ => rfl) (ha : ∀ v, assign (.Subscript (.Subscript o e1 p1) e2 pos) X.env v = (do
      let ov ← holding [v] (eval (.Subscript o e1 p1) X.env)
      let iv ← holding [v, ov] (eval e2 X.env)
      standAt pos
      holding [v, ov, iv] (setItem ov iv v)
      release [v, ov, iv] []) := by intro _; rfl) : PG X (.Subscript (.Subscript o e1 p1) e2 pos) (upG K (zum i tk1 tk2)) := by
  refine gimp (pg_sub (pe_ix (zs3 hu) ho h1 hs) h2 (set_dict hu) ha) fun v σ H Q ⟨F0, H0, P, δ, F, d, Q', R, r, ⟨⟨kvs0, eo⟩, g⟩, k⟩ => ?_
  obtain ⟨a, ws0, ea, hw0⟩ := R.nkd eo
  refine ⟨_, ea, F0, H0, P, δ, F, _, R, g, fun δ1 F1 H1 y yd R1 ex1 ry g => ?_⟩
  split at g
  · rename_i kvs eq1
    obtain ⟨kk, gg, hk, hv, ht⟩ := g
    obtain ⟨a', ws, Ps, ea', np, R2, nd, nk, di⟩ := R1.disown eq1
    rw [ea] at ea'; cases ea'
    have haw := R2.rsv a (.dK ws) List.mem_cons_self
    rcases np.val kk with ⟨b, hob, ob, c1, c2, hmb, oo⟩ | ⟨c1, c2⟩
    · rw [hv] at c2; cases c2
      obtain ⟨gs, rfl, rg⟩ := oo
      refine ⟨a, .ref b, rfl, .inl ⟨ws, kk, .inl haw.2.2, zax ry hk, c1.symm⟩, F0, H0, _, _, F1, _, R2, ht, fun δ2 F2 H2 z dz R3 ex2 rz ⟨k2, hk2, hl, q⟩ => ?_⟩
      have hb := R3.rsv b (.dK gs) (by simp [hmb])
      refine ⟨b, _, rfl, .inl ⟨gs, k2, hb.2.2, zax rz hk2, by rw [rg.g.length]; exact hl, rfl⟩, ?_⟩
      obtain ⟨nd1, nd2⟩ := List.nodup_cons.mp nd
      have np2 := np.mono ex2
      obtain ⟨Ps', np3, epk, hmem⟩ := np2.upd (k := kk) c1 nk nd2 (ho' := .dK (putK gs k2 v)) (o' := .dk (putG gg k2 d)) ⟨_, rfl, (RepG.put (rg.mono ex2).g k2 (r.mono (ex1.trans ex2))).k⟩
      have hbPs : b ∈ pk Ps := zei hmb
      -- the reserved ones but b
      have nb : b ∉ pk ((a, HO.dK ws) :: (Ps.filter (fun x => decide (x.1 ≠ b)) ++ P)) := fun z => by
        have z' : b = a ∨ b ∈ pk (Ps.filter fun x => decide (x.1 ≠ b)) ∨ b ∈ pk P := by simpa [pk] using z
        rcases z' with z | z | z
        · exact nd1 (z ▸ hbPs)
        · obtain ⟨x, hx, e⟩ := List.mem_map.mp z
          have := (List.mem_filter.mp hx).2
          simp [e] at this
        · exact di b (List.mem_cons_of_mem _ hbPs) z
      have R4 : RepS K F0 H0 ((b, .dK gs) :: ((a, .dK ws) :: (Ps.filter (fun x => decide (x.1 ≠ b)) ++ P))) δ2 σ F2 H2 := R3.unP fun x hx => by
        have : x = (b, .dK gs) ∨ x = (a, .dK ws) ∨ x ∈ Ps.filter (fun x => decide (x.1 ≠ b)) ∨ x ∈ P := by simpa using hx
        rcases this with h | h | h | h
        · subst h; simp [hmb]
        · simp [h]
        · simp [(List.mem_filter.mp h).1]
        · simp [h]
      have R5 := R4.wrP nb (.dK (putK gs k2 v))
      have R6 : RepS K F0 H0 ((a, .dK ws) :: (Ps' ++ P)) δ2 σ F2 (upd H2 b (.dK (putK gs k2 v))) := R5.unP fun x hx => by
        have : x = (a, .dK ws) ∨ x ∈ Ps' ∨ x ∈ P := by simpa using hx
        rcases this with h | h | h
        · simp [h]
        · rcases hmem x h with h | ⟨h1, h2⟩
          · simp [h]
          · exact List.mem_cons_of_mem _ (List.mem_cons_of_mem _ (List.mem_append_left _ (List.mem_filter.mpr ⟨h1, by simpa using h2⟩)))
        · simp [h]
      have ekm : (kvs.map fun (kv : Key × O) => if kv.1 = kk then (kv.1, O.dk (putG gg k2 d)) else kv) = putG kvs kk (.dk (putG gg k2 d)) := (ztf hv _).symm
      rw [ekm] at np3
      have R7 := R6.reown ea np3 (by rw [epk]; exact nd) (by rw [zv0 hv]; exact nk) (by rw [epk]; exact di)
      exact k _ _ F2 _ R7 (ex1.trans ex2) q
    · rw [hv] at c2; cases c2
  · exact g.elim
end
end Mv
namespace Mv
open PySem PySem.Spec PyProof.Rows L2
section
variable {X : Cx} {K : PySem.W.Frag} {e o : Expr} {td : TE} {pins : List (Addr × Obj)} {σ : L2.St} {H : Hp} {s : Shared} {a : Addr} {pos p apos cpos mpos : Pos}
end
end Mv
namespace Mv
open PySem PySem.Spec PyProof.Rows L2
section
variable {P : Program} {w : World} {A : Around} {E : Value → Shared → Prop} {s : Shared}
end
end Mv
namespace Mv
open PySem PySem.Spec PyProof.Rows L2
section
variable {X : Cx} {K : PySem.W.Frag} {e a b c o : Expr} {tw : DV} {ta : DE} {pos p apos cpos mpos : Pos}
end
end Mv
namespace Mv
open PySem PySem.Spec PyProof.Rows L2
section
variable {X : Cx} {K : PySem.W.Frag} {e : Expr} {es : List Expr} {tw : DV} {pos p p2 p3 pt : Pos} {n m : String} {x y z : Str}
end
end Mv
namespace Mv
open PySem PySem.Spec PyProof.Rows L2
def gInE (neg : Bool) : D → D → (D → Prop) → Prop := fun x y Q => match y with
  | .emp => (∃ v, zd0 x = some v) ∧ Q (.bl neg)
  | _ => gInB neg x y Q
section
variable {X : Cx} {K : PySem.W.Frag} {a b : Expr} {ta : DE} {tw : DV} {pos : Pos}
theorem z1m (neg : Bool) : Op2W K (fun x y H Q => rIn K neg x y H Q ∨ rSgn neg x y H Q ∨ rDIn neg x y H Q) (gInE neg) := by
  intro x y F H dx dy Q Q' rx ry ex g k
  unfold gInE at g
  split at g
  · obtain ⟨⟨v, h1⟩, g⟩ := g
    obtain ⟨e1, f1⟩ := zek rx h1
    subst e1
    cases ry with
    | flat r e =>
      cases r with
      | emp h =>
        obtain ⟨o, n, h1, h2, h4⟩ := h
        refine .inl ⟨_, [], rfl, .inr (.inr ⟨o, #[], n, h1, h2, h4, Nat.zero_le _, .nil⟩), f1, rfl, k _ _ (.bl _) ?_⟩
        cases neg <;> exact g
  · exact zpn neg x y F H dx _ Q Q' rx ry ex g k
theorem ztg (hu : X.A.units + 1 < cLine) (ha : PE X a (upE K ta)) (hb : PE X b (upV K tw)) (hm : behindInMarks .NotIn b = false := by rfl) (hK : X.K = K := by rfl) : PT X (.Compare a [.NotIn] [b] pos) (upT K (dTst (d2W (gInE true) ta tw))) := by
  subst hK
  exact qt_w (zs5 hu) (z1m true) ha hb hm
end
end Mv
namespace Mv
open PySem PySem.Spec PyProof.Rows L2
def zg1 {α : Type} (p : Nat × Nat) (us mv ws : List α) : Option α := if p.1 = 0 then us[p.2]? else if p.1 = 1 then mv[p.2]? else ws[p.2]?
def ord3 {α : Type} : List (Nat × Nat) → List α → List α → List α → List α
  | [], _, _, _ => []
  | p :: pat, us, mv, ws => (zg1 p us mv ws).toList ++ ord3 pat us mv ws
theorem zkl {xs : List V} {us : List Value} (r : Vals xs us) (i : Nat) : (∃ x u, xs[i]? = some x ∧ us[i]? = some u ∧ RelV x u) ∨ (xs[i]? = none ∧ us[i]? = none) := by
  cases h : xs[i]? with
  | none => exact .inr ⟨rfl, Vals.none_of r h⟩
  | some x => obtain ⟨u, h1, h2⟩ := Vals.get r h; exact .inl ⟨x, u, rfl, h1, h2⟩
theorem zca {vs mz zs : List V} {us mv ws : List Value} (r1 : Vals vs us) (r2 : Vals mz mv) (r3 : Vals zs ws) : ∀ pat : List (Nat × Nat), Vals (ord3 pat vs mz zs) (ord3 pat us mv ws)
  | [] => .nil
  | p :: pat => by
    have ih := zca r1 r2 r3 pat
    have key : ∀ {a : Option V} {b : Option Value}, ((∃ x u, a = some x ∧ b = some u ∧ RelV x u) ∨ (a = none ∧ b = none)) → Vals (a.toList ++ ord3 pat vs mz zs) (b.toList ++ ord3 pat us mv ws) := by
      rintro a b (⟨x, u, rfl, rfl, r⟩ | ⟨rfl, rfl⟩)
      · exact .cons r ih
      · exact ih
    show Vals ((zg1 p vs mz zs).toList ++ _) ((zg1 p us mv ws).toList ++ _)
    refine key ?_
    unfold zg1
    split
    · exact zkl r1 _
    · split
      · exact zkl r2 _
      · exact zkl r3 _
section
variable {K : PySem.W.Frag}
theorem zg2 {F : Hp} : ∀ {vs : List V} {ds : List D} (r : RepL K F vs ds) (i : Nat), (∃ x u, vs[i]? = some x ∧ ds[i]? = some u ∧ Rep K F x u) ∨ (vs[i]? = none ∧ ds[i]? = none)
  | _, _, .nil, i => .inr ⟨by simp, by simp⟩
  | _, _, .cons h t, 0 => .inl ⟨_, _, rfl, rfl, h⟩
  | _, _, .cons h t, i + 1 => by
    rcases zg2 t i with ⟨x, u, a, b, c⟩ | ⟨a, b⟩
    · exact .inl ⟨x, u, by simpa using a, by simpa using b, c⟩
    · exact .inr ⟨by simpa using a, by simpa using b⟩
theorem zqn {F : Hp} {vs mz zs : List V} {us mv ws : List D} (r1 : RepL K F vs us) (r2 : RepL K F mz mv) (r3 : RepL K F zs ws) : ∀ pat : List (Nat × Nat), RepL K F (ord3 pat vs mz zs) (ord3 pat us mv ws)
  | [] => .nil
  | p :: pat => by
    have ih := zqn r1 r2 r3 pat
    have key : ∀ {a : Option V} {b : Option D}, ((∃ x u, a = some x ∧ b = some u ∧ Rep K F x u) ∨ (a = none ∧ b = none)) → RepL K F (a.toList ++ ord3 pat vs mz zs) (b.toList ++ ord3 pat us mv ws) := by
      rintro a b (⟨x, u, rfl, rfl, r⟩ | ⟨rfl, rfl⟩)
      · exact .cons r ih
      · exact ih
    show RepL K F ((zg1 p vs mz zs).toList ++ _) ((zg1 p us mv ws).toList ++ _)
    refine key ?_
    unfold zg1
    split
    · exact zg2 r1 _
    · split
      · exact zg2 r2 _
      · exact zg2 r3 _
theorem zf8 {pat : List (Nat × Nat)} {dv : List V} {dz : List D} (h : ∀ F, RepL K F dv dz) : zyq K (fun vs zs => ord3 pat vs dv zs) (fun ds zs => ord3 pat ds dz zs) := fun r1 r2 => zqn r1 (h _) r2 pat
theorem zit : ∀ F, RepL K F [] [] := fun F => .nil
theorem zmt {dv : List V} {dz : List D} (h : ∀ F, RepL K F dv dz) : ∀ F, RepL K F (.non :: dv) (.non :: dz) := fun F => .cons .non (h F)
end
end Mv
namespace Mv
open PySem PySem.Spec PyProof.Rows L2
def zqo (t : TE) : Nat → TE
  | 0 => t
  | n + 1 => tLockE (zqo t n)
theorem zqp {X : Cx} {e : Expr} {t : TE} (h : PE X e t) : ∀ n, PE X e (zqo t n)
  | 0 => h
  | n + 1 => pe_lock (zqp h n)
theorem zjz {α β : Type} {M : List (α × β)} {x : α × β} (h : x ∈ M) {a : α} (e : x.1 = a) : a ∈ M.map (·.1) := List.mem_map.mpr ⟨x, h, e⟩
abbrev Lk := Addr × Obj × HO
def y4 : List Lk → Hp → Hp
  | [], H => H
  | x :: M, H => y4 M (upd H x.1 (.frz x.2.1 x.2.2))
def zaf : List Lk → Hp → Hp
  | [], H => H
  | x :: M, H => upd (zaf M H) x.1 x.2.2
theorem zc9 {M : List Lk} {H : Hp} {a : Addr} (h : ∀ x ∈ M, x.1 ≠ a) : zaf M H a = H a := by
  induction M with
  | nil => rfl
  | cons x M ih =>
    show upd (zaf M H) x.1 x.2.2 a = _
    rw [upd_ne (Ne.symm (h x (by simp))), ih fun y hy => h y (by simp [hy])]
theorem zag {M : List Lk} : ∀ {H : Hp} {a : Addr}, (∀ x ∈ M, x.1 ≠ a) → y4 M H a = H a := by
  induction M with
  | nil => intro H a _; rfl
  | cons x M ih =>
    intro H a h
    show y4 M (upd H x.1 _) a = _
    rw [ih fun y hy => h y (by simp [hy]), upd_ne (Ne.symm (h x (by simp)))]
theorem znq {M : List Lk} {H : Hp} (nd : (M.map (·.1)).Nodup) : ∀ x ∈ M, zaf M H x.1 = some x.2.2 := by
  induction M with
  | nil => intro x h; cases h
  | cons y M ih =>
    intro x hx
    obtain ⟨n1, n2⟩ := List.nodup_cons.mp nd
    show upd (zaf M H) y.1 y.2.2 x.1 = _
    rcases List.mem_cons.mp hx with rfl | hx
    · rw [upd_same]
    · rw [upd_ne (fun z => n1 (zjz hx z)), ih n2 x hx]
theorem zf9 {M : List Lk} : ∀ {H : Hp}, (M.map (·.1)).Nodup → ∀ x ∈ M, y4 M H x.1 = some (.frz x.2.1 x.2.2) := by
  induction M with
  | nil => intro H _ x h; cases h
  | cons y M ih =>
    intro H nd x hx
    obtain ⟨n1, n2⟩ := List.nodup_cons.mp nd
    show y4 M (upd H y.1 _) x.1 = _
    rcases List.mem_cons.mp hx with rfl | hx
    · rw [zag fun z hz e => n1 (zjz hz e), upd_same]
    · exact ih n2 x hx
theorem zqq {t : TE} {σ : L2.St} : ∀ (L : List (Addr × HO)) (H : Hp) (Q : VK), (∀ p ∈ L, H p.1 = some p.2 ∧ Mut (some p.2)) → (L.map (·.1)).Nodup →
    (∀ M : List Lk, M.map (fun x => (x.1, x.2.2)) = L → t σ (y4 M H) fun v H' => (∀ x ∈ M, H' x.1 = some (.frz x.2.1 x.2.2)) ∧ Q v (zaf M H')) → ∀ (mono : ∀ (H : Hp) (Q Q' : VK), t σ H Q → (∀ v H', Q v H' → Q' v H') → t σ H Q'), zqo t L.length σ H Q
  | [], H, Q, _, _, k, mono => mono _ _ _ (k [] rfl) fun v H' q => q.2
  | p :: L, H, Q, hp, nd, k, mono => by
    obtain ⟨n1, n2⟩ := List.nodup_cons.mp nd
    refine ⟨p.1, p.2, (hp p (by simp)).1, (hp p (by simp)).2, fun od => ?_⟩
    refine zqq L _ _ (fun q hq => ?_) n2 (fun M hM => ?_) mono
    · have ne : q.1 ≠ p.1 := fun z => n1 (zjz hq z)
      exact ⟨by rw [upd_ne ne]; exact (hp q (by simp [hq])).1, (hp q (by simp [hq])).2⟩
    · have nM : ∀ x ∈ M, x.1 ≠ p.1 := fun x hx z => by
        have : (x.1, x.2.2) ∈ L := hM ▸ List.mem_map.mpr ⟨x, hx, rfl⟩
        exact n1 (zjz this z)
      have q := k ((p.1, od, p.2) :: M) (by rw [List.map_cons, hM])
      refine mono _ _ _ q fun v H' ⟨q1, q2⟩ => ⟨fun x hx => q1 x (by simp [hx]), ?_, q2⟩
      rw [zc9 nM]
      exact q1 (p.1, od, p.2) (by simp)
section
variable {K : PySem.W.Frag} {F0 H0 F H : Hp} {P : Pl} {δ : Dl} {σ : L2.St}
def zun (is : List Nat) (n : Nat) : Option S → Option S
  | some (.fz d) => some (.fz d)
  | some (.own o) => if is.contains n = true then some (.fz o.d) else none
  | _ => none
def zby (is : List Nat) : Nat → Dl → Dl
  | _, [] => []
  | n, s :: r => zun is n s :: zby is (n + 1) r
theorem zqr (is : List Nat) : ∀ (n : Nat) (δ : Dl), (zby is n δ).length = δ.length
  | _, [] => rfl
  | n, s :: r => congrArg (· + 1) (zqr is (n + 1) r)
theorem zth (is : List Nat) : ∀ (n : Nat) (δ : Dl) (j : Nat), (zby is n δ)[j]? = (δ[j]?).map (zun is (n + j))
  | _, [], j => rfl
  | n, x :: r, 0 => rfl
  | n, x :: r, j + 1 => by
    have h := zth is (n + 1) r j
    have e : n + 1 + j = n + (j + 1) := by omega
    rw [e] at h
    exact h
theorem zxo (is : List Nat) (n : Nat) (δ : Dl) (j : Nat) (s : S) (h : (zby is n δ)[j]? = some (some s)) : (∃ d, s = .fz d ∧ δ[j]? = some (some (.fz d))) ∨ ∃ o, s = .fz o.d ∧ δ[j]? = some (some (.own o)) ∧ n + j ∈ is := by
  rw [zth] at h
  obtain ⟨x, hx, e⟩ := Option.map_eq_some_iff.mp h
  unfold zun at e
  split at e
  · cases e; exact .inl ⟨_, rfl, hx⟩
  · split at e
    · rename_i hc
      cases e; exact .inr ⟨_, rfl, hx, List.contains_iff_mem.mp hc⟩
    · cases e
  · cases e
def zpv : O → Prop
  | .lst ds => ∃ vs, ym ds = some vs
  | .dk kvs => ∃ vs, ym (kvs.map (·.2)) = some vs
  | .dt kvs => ∃ vs, ym (kvs.map (·.2)) = some vs
  | .ins _ _ => False
theorem zqs {F' : Hp} {v u : V} {d : D} (r : Rep K F v d) (h : zd0 d = some u) : Rep K F' v d := by
  cases r <;> first | exact .non | exact .bl _ | exact .int _ | exact .str _ | cases h
theorem znr {F' : Hp} : ∀ {vs : List V} {ds : List D} {us : List V}, RepL K F vs ds → ym ds = some us → RepL K F' vs ds
  | _, _, _, .nil, _ => .nil
  | _, _, _, .cons r t, h => by
    unfold ym at h
    split at h
    · rename_i e1 e2
      exact .cons (zqs r e1) (znr t e2)
    · cases h
theorem zns {κ : Type} {F' : Hp} {ws : List (κ × V)} {kvs : List (κ × D)} (r : RepG K F ws kvs) : ∀ {us : List V}, ym (kvs.map (·.2)) = some us → RepG K F' ws kvs := by
  induction r with
  | nil => intro us _; exact .nil
  | cons r t ih =>
    intro us h
    rw [List.map_cons] at h
    unfold ym at h
    split at h
    · rename_i e1 e2
      exact .cons (zqs r e1) (ih e2)
    · cases h
theorem OwnAt.flat {F' H' : Hp} {a : Addr} {o : O} (h : OwnAt K F H a o) (f : zpv o) (e : H' a = H a) : OwnAt K F' H' a o := by
  cases o with
  | lst ds => obtain ⟨vs, h1, h2⟩ := h; obtain ⟨us, f⟩ := f; exact ⟨vs, e.trans h1, znr h2 f⟩
  | dk ds => obtain ⟨vs, h1, h2⟩ := h; obtain ⟨us, f⟩ := f; exact ⟨vs, e.trans h1, (zns h2.g f).k⟩
  | dt ds => obtain ⟨vs, h1, h2⟩ := h; obtain ⟨us, f⟩ := f; exact ⟨vs, e.trans h1, (zns h2.g f).t⟩
  | ins _ _ => exact f.elim
theorem RepS.lent (R : RepS K F0 H0 P δ σ F H) : ∀ (is : List Nat), is.Nodup → (∀ i ∈ is, ∃ o, δ[i]? = some (some (.own o))) → ∃ L : List (Addr × HO), L.length = is.length ∧ (L.map (·.1)).Nodup ∧ (∀ p ∈ L, H p.1 = some p.2 ∧ Mut (some p.2) ∧ F p.1 = none) ∧
    (∀ p ∈ L, ∃ i ∈ is, σ[i]? = some (some (.ref p.1))) ∧ ∀ i ∈ is, ∀ o, δ[i]? = some (some (.own o)) → ∃ p ∈ L, σ[i]? = some (some (.ref p.1)) ∧ ∀ F' od, Ex F F' → F' p.1 = some (.frz od p.2) → Rep K F' (.ref p.1) o.d := by
  have R' := R
  obtain ⟨w, h1, hw⟩ := R.own
  intro is
  induction is with
  | nil => intro _ _; exact ⟨[], rfl, .nil, (fun _ h => nomatch h), (fun _ h => nomatch h), fun _ h => nomatch h⟩
  | cons i is ih =>
    intro nd ho
    obtain ⟨n1, n2⟩ := List.nodup_cons.mp nd
    obtain ⟨L, l0, l1, l2, l3, l4⟩ := ih n2 fun j hj => ho j (by simp [hj])
    obtain ⟨o, eo⟩ := ho i (by simp)
    obtain ⟨v, ev, a, rfl, ew, q⟩ := hw i _ eo
    obtain ⟨a1, a2, a3, a4⟩ := h1 a i ew
    obtain ⟨hob, hh, oo⟩ : ∃ ho, H a = some ho ∧ OwnO K F ho o := q.own
    have na : a ∉ L.map (·.1) := fun z => by
      obtain ⟨p, hp, e⟩ := List.mem_map.mp z
      obtain ⟨j, hj, ej⟩ := l3 p hp
      obtain ⟨o2, eo2⟩ := ho j (by simp [hj])
      obtain ⟨v2, ev2, b, rfl, ew2, _⟩ := hw j _ eo2
      rw [ev2] at ej
      have hb : b = p.1 := by injection (Option.some.inj (Option.some.inj ej))
      rw [hb, e, ew] at ew2
      cases ew2
      exact n1 hj
    refine ⟨(a, hob) :: L, by simp [l0], List.nodup_cons.mpr ⟨na, l1⟩, fun p hp => ?_, fun p hp => ?_, fun j hj o' eo' => ?_⟩
    · rcases List.mem_cons.mp hp with rfl | hp
      · exact ⟨hh, oo.mut, a2⟩
      · exact l2 p hp
    · rcases List.mem_cons.mp hp with rfl | hp
      · exact ⟨i, by simp, ev⟩
      · obtain ⟨j, hj, e⟩ := l3 p hp; exact ⟨j, by simp [hj], e⟩
    · rcases List.mem_cons.mp hj with rfl | hj
      · rw [eo] at eo'; cases eo'
        exact ⟨(a, hob), List.mem_cons_self, ev, fun F' od ex e => (oo.mono ex).rep e⟩
      · obtain ⟨p, hp, e, k⟩ := l4 j hj o' eo'
        exact ⟨p, by simp [hp], e, k⟩
end
section
variable {X : Cx} {K : PySem.W.Frag} {e : Expr} {to : DOw}
def zuo (is : List Nat) (to : DOw) : DOw := fun δ Q => is.Nodup ∧ (∀ i ∈ is, ∃ o, δ[i]? = some (some (.own o))) ∧ to (zby is 0 δ) fun _ r => zpv r ∧ Q δ r
theorem zxp {σ : L2.St} (H : Hp) (Q Q' : VK) (h : upO K to σ H Q) (i : ∀ v H', Q v H' → Q' v H') : upO K to σ H Q' := by
  obtain ⟨F0, H0, P, δ, F, Q1, R, ht, k⟩ := h
  exact ⟨F0, H0, P, δ, F, Q1, R, ht, fun δ' F' H' p ho o a b c d q => i _ _ (k δ' F' H' p ho o a b c d q)⟩
theorem zzp (is : List Nat) (h : PE X e (upO K to)) : PE X e (upO K (zuo is to)) := pimp (zqp h is.length) fun σ H Q ⟨F0, H0, P, δ, F, Q', R, ⟨nd, ho, ht⟩, k⟩ => by
  obtain ⟨L, l0, l1, l2, l3, l4⟩ := R.lent is nd ho
  rw [← l0]
  refine zqq L H Q (fun p hp => ⟨(l2 p hp).1, (l2 p hp).2.1⟩) l1 (fun M hM => ?_) zxp
  have ndM : (M.map (·.1)).Nodup := by
    have : M.map (·.1) = L.map (·.1) := by rw [← hM, List.map_map]; rfl
    rw [this]; exact l1
  have inL : ∀ x ∈ M, (x.1, x.2.2) ∈ L := fun x hx => hM ▸ List.mem_map.mpr ⟨x, hx, rfl⟩
  have inM : ∀ p ∈ L, ∃ od, (p.1, od, p.2) ∈ M := fun p hp => by
    rw [← hM] at hp
    obtain ⟨x, hx, rfl⟩ := List.mem_map.mp hp
    exact ⟨x.2.1, hx⟩
  have FM : ∀ x ∈ M, F x.1 = none := fun x hx => (l2 _ (inL x hx)).2.2
  have HM : ∀ x ∈ M, H x.1 = some x.2.2 := fun x hx => (l2 _ (inL x hx)).1
  have cas : ∀ a, (∃ x ∈ M, x.1 = a) ∨ ∀ x ∈ M, x.1 ≠ a := fun a => by
    by_cases q : ∃ x ∈ M, x.1 = a
    · exact .inl q
    · exact .inr fun x hx e => q ⟨x, hx, e⟩
  have exF : Ex F (y4 M F) := fun a o e => by
    rcases cas a with ⟨x, hx, rfl⟩ | n
    · rw [FM x hx] at e; cases e
    · rw [zag n]; exact e
  have exFH : Ex (y4 M F) (y4 M H) := fun a o e => by
    rcases cas a with ⟨x, hx, rfl⟩ | n
    · rw [zf9 ndM x hx] at e ⊢; exact e
    · rw [zag n] at e ⊢; exact R.e3 _ _ e
  have tpM : Tp (y4 M F) (y4 M H) := fun a vs e => by
    rcases cas a with ⟨x, hx, rfl⟩ | n
    · rw [zf9 ndM x hx] at e; cases e
    · rw [zag n] at e ⊢; exact R.tp _ _ e
  have R0 : RepS K (y4 M F) (y4 M H) [] (zby is 0 δ) σ (y4 M F) (y4 M H) := by
    refine ⟨Ex.refl _, Ex.refl _, exFH, fun a o e => .inl e, tpM, by rw [zqr]; exact R.len, ⟨fun _ => none, (fun _ _ h => nomatch h), fun j s hs => ?_⟩, (R.low.mono R.e1).mono exF, fun _ _ h => nomatch h⟩
    rcases zxo is 0 δ j s hs with ⟨d, rfl, hd⟩ | ⟨o, rfl, hd, hj⟩
    · obtain ⟨v, ev, r⟩ := R.fz hd
      exact ⟨v, ev, r.mono exF⟩
    · rw [Nat.zero_add] at hj
      obtain ⟨p, hp, ev, q⟩ := l4 j hj o hd
      obtain ⟨od, hm⟩ := inM p hp
      exact ⟨_, ev, q _ od exF (zf9 ndM _ hm)⟩
  refine ⟨_, _, [], _, _, _, R0, ht, fun δ1 F1 H1 p hob o R1 hP ex1 oa ⟨hf, q⟩ => ?_⟩
  have h1M : ∀ x ∈ M, H1 x.1 = some (.frz x.2.1 x.2.2) := fun x hx => R1.e2 _ _ (zf9 ndM x hx)
  refine ⟨h1M, ?_⟩
  have rp := R1.rsv p hob (by simp)
  have pM : ∀ x ∈ M, x.1 ≠ p := fun x hx z => by
    have := rp.1
    rw [← z, zf9 ndM x hx] at this; cases this
  let F2 : Hp := fun a => if H a = none ∨ F a ≠ none then F1 a else none
  have f2M : ∀ x ∈ M, F2 x.1 = none := fun x hx => if_neg (by rw [HM x hx, FM x hx]; simp)
  have f2 : ∀ a o, F2 a = some o → F1 a = some o ∧ ∀ x ∈ M, x.1 ≠ a := fun a o e => by
    have e' : (if H a = none ∨ F a ≠ none then F1 a else none) = some o := e
    split at e'
    · exact ⟨e', fun x hx z => by subst z; rw [f2M x hx] at e; cases e⟩
    · cases e'
  have eF : Ex F F2 := fun a o e => by
    have : F2 a = F1 a := if_pos (.inr (by rw [e]; simp))
    rw [this]; exact R1.e1 _ _ (exF _ _ e)
  have eH : Ex H (zaf M H1) := fun a o e => by
    rcases cas a with ⟨x, hx, rfl⟩ | n
    · rw [znq ndM x hx, ← HM x hx]; exact e
    · rw [zc9 n]; exact R1.e2 _ _ (by rw [zag n]; exact e)
  have eFH : Ex F2 (zaf M H1) := fun a o e => by
    obtain ⟨e1, n⟩ := f2 a o e
    rw [zc9 n]; exact R1.e3 _ _ e1
  have fr : ∀ a o, F2 a = some o → F a = some o ∨ H a = none := fun a o e => by
    obtain ⟨e1, n⟩ := f2 a o e
    rcases R1.fr a o e1 with z | z
    · rw [zag n] at z; exact .inl z
    · rw [zag n] at z; exact .inr z
  have tp : Tp F2 (zaf M H1) := fun a vs e => by
    rcases cas a with ⟨x, hx, rfl⟩ | n
    · rw [znq ndM x hx] at e
      have mu := (l2 _ (inL x hx)).2.1
      have e2 : x.2.2 = .tup vs := Option.some.inj e
      rw [show (x.1, x.2.2).2 = x.2.2 from rfl, e2] at mu
      exact False.elim mu
    · rw [zc9 n] at e
      have e1 := R1.tp _ _ e
      have : F2 a = F1 a := by
        refine if_pos ?_
        rcases R1.fr a _ e1 with z | z
        · rw [zag n] at z; exact .inr (by rw [z]; simp)
        · rw [zag n] at z; exact .inl z
      rw [this]; exact e1
  have hp0 : H p = none := by have := rp.1; rw [zag pM] at this; exact this
  have hp2 : zaf M H1 p = some hob := by rw [zc9 pM]; exact rp.2.2
  have fp2 : F2 p = none := by
    have : F2 p = F1 p := if_pos (.inl hp0)
    rw [this]; exact rp.2.1
  obtain ⟨R2, hP2⟩ := R.growP ⟨eF, eH, eFH, fr, tp⟩ hp0 hp2 fp2
  exact k δ F2 _ p hob o R2 hP2 eF (oa.flat hf (by rw [hp2, rp.2.2])) q
end
end Mv
namespace Mv
open PySem PySem.Spec PyProof.Rows L2
section
variable {X : Cx} {K : PySem.W.Frag} {a o : Expr} {tw : DV} {ta : DE} {pos apos mpos : Pos}
end
end Mv
namespace Mv
open PySem PySem.Spec PyProof.Rows L2
def zga : List D → Option (List (Key × D))
  | [] => some []
  | .tup [k, v] :: xs => match dkey k, zga xs with
    | some k, some t => some ((k, v) :: t)
    | _, _ => none
  | _ => none
def qg {κ α : Type} [DecidableEq κ] (t kvs : List (κ × α)) : List (κ × α) := kvs.foldl (fun t q => putG t q.1 q.2) t
def yg {κ : Type} [DecidableEq κ] (t kvs : List (κ × V)) : List (κ × V) := kvs.foldl (fun t q => putK t q.1 q.2) t
section
variable {K : PySem.W.Frag} {F : Hp}
theorem RepG.merge {κ : Type} [DecidableEq κ] : ∀ {ws us : List (κ × V)} {kvs es : List (κ × D)}, RepG K F us es → RepG K F ws kvs → RepG K F (yg us ws) (qg es kvs)
  | _, _, _, _, h, .nil => h
  | _, _, _, _, h, .cons (k := k) r t => by
    have := RepG.merge (h.put k r) t
    exact this
theorem zlq : ∀ {vs : List V} {xs : List D} {kvs : List (Key × D)}, RepL K F vs xs → zga xs = some kvs →
    ∃ (ps : List Addr) (ws : List (Key × V)), vs = ps.map V.ref ∧ RepG K F ws kvs ∧ Paired (fun p (kv : Key × V) => F p = some (.tup [kV kv.1, kv.2])) ps ws
  | _, _, _, .nil, h => by cases h; exact ⟨[], [], rfl, .nil, .nil⟩
  | _, _, _, .cons (d := d) (ds := ds) r t, h => by
    unfold zga at h
    split at h
    · cases ‹_ :: _ = []›
    · rename_i k v xs e
      cases e
      split at h
      · rename_i k' t' e1 e2
        cases h
        obtain ⟨ps, ws, rfl, h2, h3⟩ := zlq t e2
        cases r with
        | @tup a vs2 ds2 ha rl =>
          cases rl with
          | cons r1 rl =>
            cases rl with
            | cons r2 rl =>
              cases rl
              have := zax r1 e1
              subst this
              exact ⟨a :: ps, (k', _) :: ws, rfl, .cons r2 h2, .cons ha h3⟩
      · cases h
    · cases h
end
def zmu : G1O := fun ds Q => ∃ xs kvs, ds = [.lst xs] ∧ zga xs = some kvs ∧ Q (.dk (qg [] kvs))
section
variable {X : Cx}
theorem zxq (hcalm : X.calm = true) : CallR X (.type "dict") (cNO X.K zmu) := by
  intro pins s σ H xs us Q I r h
  obtain ⟨F, ds, Q', st, vw, ⟨xs, kvs, ed, hp, g⟩, k⟩ := h
  subst ed
  cases vw with
  | cons v1 t =>
    cases t
    obtain ⟨a, vs, rfl, hs, rs⟩ := v1.lst'
    obtain ⟨ps, ws, rfl, h2, h3⟩ := zlq rs hp
    refine call_dictP hcalm pins s σ H _ us Q I r ⟨a, ps, ws, rfl, .inl hs, Paired.mapP h3 (fun p kv h => .inl (.inl (st.ex _ _ h))), fun p hp => ?_⟩
    exact k F _ p _ (.dk _) (Grown.newO st hp) hp upd_same (st.ex.nn hp) ⟨_, upd_same, (RepG.merge .nil h2).k⟩ g
end
end Mv
namespace Mv
open PySem PySem.Spec PyProof.Rows L2
section
variable {X : Cx} {K : PySem.W.Frag} {e a b c o : Expr} {te ta tb tk : DE} {to : DOw} {tw : DV} {pos p apos cpos : Pos}
end
end Mv
namespace Mv
open PySem PySem.Spec PyProof.Rows L2
section
variable {X : Cx} {K : PySem.W.Frag}
end
end Mv
namespace Mv
open PySem PySem.Spec PyProof.Rows L2 PySem.SeqAt
open PySem.AutoSeq1 (wpAny_loadPart')
open PySem.MeetsSeq PySem.MeetsSeq2 PySem.MeetsSeq3
section
variable {P : Program} {w : World} {a c : Addr} {us vs : Array Value} {m m2 : Nat} {da dc : Option Addr} {la lc : Array (Option Value)} {f : Nat → Bool}
end
end Mv
namespace Mv
open PySem PySem.Spec PyProof.Rows L2
section
variable {P : Program} {w : World} {K : PySem.W.Frag} {F H : Hp} {s : Shared}
end
end Mv
namespace Mv
open PySem PySem.Spec PyProof.Rows L2
section
variable {X : Cx}
end
end Mv
namespace Mv
open PySem PySem.Spec PyProof.Rows L2
section
variable {X : Cx} {K : PySem.W.Frag}
end
end Mv
namespace Mv
open PySem PySem.Spec PyProof.Rows L2
section
variable {X : Cx} {K : PySem.W.Frag}
end
end Mv
namespace Mv
open PySem PySem.Spec PyProof.Rows L2
section
variable {prog : Program} {w : World} {K : Type} [DecidableEq K] {knd : KeyKind prog w K} {A : Around} {E : Value → Shared → Prop} {s : Shared}
theorem zv3 {d : Addr} {kvs : List (K × Value)} {k : K} {key v : Value} {Q : Unit → Shared → Prop} (is : knd.is k key = true) (at_ : s.heap.DictOf knd d kvs) (len : kvs.length ≤ sizeLine)
    (go : ∀ h', h'.DictOf knd d (stored kvs k v) → Heap.SameBut d s.heap h' → Q () { s with heap := h' }) : wpAny (model prog w) A (dictPut d (knd.hash k) key v) Q E s := by
  obtain ⟨ob, ents, n, get, cls, dat, keys, pairs, once⟩ := at_
  have few : ents.size ≤ sizeLine := by
    have := pairs.length
    rw [Array.length_toList] at this
    omega
  have same : (ents.findIdx? fun e => knd.is k e.key) = kvs.findIdx? fun kv => decide (kv.1 = k) := by
    have := pairs.findIdx k
    rw [← this]
    cases ents; simp
  unfold dictPut
  refine wpAny_bind (wpAny_dictFind_of is get dat keys ?_)
  cases f : ents.findIdx? fun e => knd.is k e.key with
  | none =>
    have out : k ∉ kvs.map (·.1) := not_mem_of_findIdx_none (same ▸ f)
    have no : ¬ (kvs.any fun kv => decide (kv.1 = k)) = true := fun z => by
      obtain ⟨q, hq, e⟩ := List.any_eq_true.mp z
      exact out (of_decide_eq_true e ▸ List.mem_map.mpr ⟨q, hq, rfl⟩)
    have est : stored kvs k v = kvs ++ [(k, v)] := by unfold stored; rw [if_neg no]
    refine wpAny_updateDictKeys (hz := few) get dat (go _ ?_ (Heap.SameBut.update ..))
    refine ⟨_, _, n + 1, Heap.get?_update_self _ get (Obj.isFreed_of_dict (Obj.data_mapDictKeys dat _)), cls.mapDictKeys _, Obj.data_mapDictKeys dat _, keys.push is _, ?_, ?_⟩
    · rw [est]
      have := pairs.append is (knd.hash k) v
      cases ents; simpa using this
    · rw [est, List.map_append]
      refine List.nodup_append.mpr ⟨once, by simp, fun a ha b hb e => out ?_⟩
      have : b = k := by simpa using hb
      rw [← this, ← e]; exact ha
  | some i =>
    have est : stored kvs k v = kvs.map fun kv => if kv.1 = k then (kv.1, v) else kv := by unfold stored; rw [if_pos (any_of_findIdx_some (same ▸ f))]
    refine wpAny_updateDict get dat (go _ ?_ (Heap.SameBut.update ..))
    refine ⟨_, _, n, Heap.get?_update_self _ get (Obj.isFreed_of_dict (Obj.data_mapDict dat _)), cls.mapDict _, Obj.data_mapDict dat _, keys.modify _ _, ?_, ?_⟩
    · rw [est]
      have fl : ents.toList.findIdx? (fun e => knd.is k e.key) = some i := by rw [← f]; cases ents; simp
      have := pairs.modify once fl v
      cases ents; simpa using this
    · rw [est, keys_map_store]; exact once
end
section
variable {prog : Program} {w : World} {A : Around} {E : Value → Shared → Prop} {s : Shared}
theorem zv4 {k : Key} {v : Value} (h : (mixKind prog w).is k v = true) : ∀ a, v ≠ .ref a := fun a e => by
  rcases keyIs_shape h with ⟨i, t, rfl, rfl⟩ | ⟨x, t, rfl, rfl⟩ <;> cases e
theorem zv5 {d o : Addr} {kvs more : List (Key × Value)} {Q : Unit → Shared → Prop} (ne : d ≠ o) (sys : (o == sysModules) = false) (hd : s.heap.DictOf (mixKind prog w) d kvs) (ho : s.heap.DictOf (mixKind prog w) o more)
    (len : kvs.length + more.length ≤ sizeLine) (go : ∀ h', h'.DictOf (mixKind prog w) d (merged kvs more) → Heap.SameBut d s.heap h' → Q () { s with heap := h' }) : wpAny (model prog w) A (mergeMapping d (.ref o) false) Q E s := by
  obtain ⟨ob1, ents1, n1, get1, cls1, dat1, keys1, pairs1, once1⟩ := id hd
  obtain ⟨ob2, ents2, n2, get2, cls2, dat2, keys2, pairs2, once2⟩ := id ho
  unfold mergeMapping
  refine wpAny_bind (wpAny_isInstance ho.typeIs isSubtype_dict_dict ?_)
  rw [if_pos rfl]
  refine wpAny_bind (wpAny_specialOf ho.typeIs F.slot_dict_iter.lookup ?_)
  refine wpAny_bind (wpAny_pure ?_)
  simp only [beq_self_eq_true]
  rw [if_neg (by rw [sys]; decide)]
  refine wpAny_bind (wpAny_dictEntries get1 dat1 ?_)
  have loop : wpAny (model prog w) A (do
      let l ← dictEntries o
      let epoch ← dictEpoch o
      forIn (List.range l.size) PUnit.unit fun i (_ : PUnit) => (do
        let l' ← dictEntries o
        match l'[i]? with
          | some e => do
            holding [e.key, e.val] (dictPut d e.hash e.key e.val)
            let ep ← dictEpoch o
            if (ep != epoch) = true then do
              (unsupported "dict.changed-during-merge" : Sem PUnit)
              pure (ForInStep.yield PUnit.unit)
            else pure (ForInStep.yield PUnit.unit)
          | _ => do
            (unsupported "dict.changed-during-merge" : Sem PUnit)
            pure (ForInStep.yield PUnit.unit) : Sem (ForInStep PUnit))
      pure ()) Q E s := by
    have size : more.length = ents2.size := by rw [← pairs2.length, Array.length_toList]
    refine wpAny_bind (wpAny_dictEntries get2 dat2 (wpAny_bind (wpAny_dictEpoch get2 dat2 (wpAny_bind ?_))))
    refine wpAny_forIn_list _ (fun rest _ s' => ∃ (h' : Heap) (i : Nat), s' = { s with heap := h' } ∧ rest = List.range' i (ents2.size - i) ∧ i ≤ ents2.size ∧ h'.get? o = some ob2 ∧ Heap.SameBut d s.heap h' ∧ h'.DictOf (mixKind prog w) d (merged kvs (more.take i))) _ ?_ ?_ _ _ ?_
    · rintro x rest b s' ⟨h', i, rfl, er, hi, g2, sb, dd⟩
      have hlt : i < ents2.size := by
        rcases Nat.lt_or_ge i ents2.size with z | z
        · exact z
        · rw [Nat.sub_eq_zero_of_le z] at er; cases er
      have e1 : ents2.size - i = (ents2.size - (i + 1)) + 1 := by omega
      rw [e1, List.range'_succ] at er
      obtain ⟨rfl, er⟩ := List.cons.inj er
      obtain ⟨⟨mk, mv⟩, at_⟩ : ∃ q, more[x]? = some q := ⟨_, List.getElem?_eq_getElem (by omega)⟩
      obtain ⟨q1, q2⟩ := pairs2.get? (e := ents2[x]) (by simp [hlt]) at_
      obtain ⟨k', q3, q4⟩ := keys2 ents2[x] (Array.getElem_mem hlt)
      obtain rfl : k' = mk := (mixKind prog w).inj _ _ _ q3 q1
      refine wpAny_bind (wpAny_dictEntries g2 dat2 ?_)
      rw [Array.getElem?_eq_getElem hlt]
      have few : (merged kvs (more.take x)).length ≤ sizeLine := by
        have a1 := merged_length_le kvs (more.take x)
        have a2 : (more.take x).length ≤ more.length := by rw [List.length_take]; omega
        omega
      show wpAny _ _ (holding [ents2[x].key, ents2[x].val] (dictPut d ents2[x].hash ents2[x].key ents2[x].val) >>= _) _ _ _
      rw [q4, q2]
      refine wpAny_bind (wpAny_holding (zv3 q1 dd few fun h'' dd'' sb'' => ?_))
      have g3 : h''.get? o = some ob2 := (sb''.2 o (Ne.symm ne)).trans g2
      refine wpAny_bind (wpAny_dictEpoch g3 dat2 ?_)
      rw [if_neg (by simp)]
      exact wpAny_pure ⟨h'', x + 1, rfl, er, hlt, g3, sb.trans sb'', by rw [merged_take_succ kvs more x (k', mv) at_]; exact dd''⟩
    · rintro b s' ⟨h', i, rfl, er, hi, g2, sb, dd⟩
      have hin : i = ents2.size := by
        rcases Nat.lt_or_ge i ents2.size with z | z
        · rw [show ents2.size - i = (ents2.size - (i + 1)) + 1 by omega, List.range'_succ] at er; cases er
        · omega
      rw [hin, ← size, List.take_length] at dd
      exact wpAny_pure (go h' dd sb)
    · exact ⟨s.heap, 0, rfl, by rw [List.range_eq_range']; rfl, Nat.zero_le _, get2, Heap.SameBut.refl _ _, by simpa [merged] using hd⟩
  split
  · refine wpAny_bind (wpAny_dictEntries get2 dat2 ?_)
    refine wpAny_bind ?_
    rw [← Array.forIn_toList]
    refine wpAny_forIn_list _ (fun rest _ s' => s' = s ∧ ∀ e ∈ rest, e ∈ ents2) _ ?_ ?_ _ _ ⟨rfl, fun e he => by simpa using he⟩
    · rintro e rest b s' ⟨rfl, hm⟩
      obtain ⟨k, hk, _⟩ := keys2 e (hm e (List.mem_cons_self ..))
      have nr := zv4 hk
      have keep : ∀ e' ∈ rest, e' ∈ ents2 := fun e' he => hm e' (List.mem_cons_of_mem _ he)
      split
      · rename_i a he; exact absurd he (nr a)
      · exact wpAny_pure ⟨rfl, keep⟩
    · rintro b s' ⟨rfl, _⟩
      exact loop
  · exact loop
end
end Mv
namespace Mv
open PySem PySem.Spec PyProof.Rows L2
section
variable {prog : Program} {w : World} {A : Around} {E : Value → Shared → Prop} {s : Shared}
theorem zxr {m1 m2 : Sem Value} {Q : Value → Shared → Prop}
    (h : wpAny (model prog w) A (alloc { cls := .type "dict", data := .dict #[] }) (fun d s1 => wpAny (model prog w) A m1 (fun x s2 => wpAny (model prog w) A (mergeMapping d x false) (fun _ s3 => wpAny (model prog w) A m2 (fun y s4 => wpAny (model prog w) A (mergeMapping d y false) (fun _ s5 => Q (.ref d) s5) (fun _ _ => False) s4) E s3) (fun _ _ => False) s2) E s1) E s) :
    wpAny (model prog w) A (dictDisplay [(none, m1), (none, m2)]) Q E s := by
  unfold dictDisplay
  simp only [List.forIn_cons, List.forIn_nil, bind_assoc, pure_bind, List.isEmpty_nil, if_true]
  refine wpAny_bind (wpAny_mono h (fun d s1 h1 => ?_) fun _ _ e => e)
  refine wpAny_bind (wpAny_holding (wpAny_mono h1 (fun x s2 h2 => ?_) fun _ _ e => e))
  refine wpAny_bind (wpAny_onRaise (wpAny_tryCatch (wpAny_onRaise (wpAny_holding (wpAny_mono h2 (fun _ s3 h3 => ?_) fun _ _ e => e.elim)))))
  refine wpAny_bind (wpAny_holding (wpAny_mono h3 (fun y s4 h4 => ?_) fun _ _ e => e))
  refine wpAny_bind (wpAny_onRaise (wpAny_tryCatch (wpAny_onRaise (wpAny_holding (wpAny_mono h4 (fun _ s5 h5 => ?_) fun _ _ e => e.elim)))))
  exact wpAny_pure h5
end
section
variable {X : Cx} {e1 e2 : Expr} {t1 t2 : TE} {pos : Pos}
def tMrg (t1 t2 : TE) : TE := fun σ H Q => ∀ p, H p = none → t1 σ (upd H p (.dK [])) fun x H1 => ∃ a ws1, x = .ref a ∧ Rd H1 a (.dK ws1) ∧ a ≠ p ∧ H1 p = some (.dK []) ∧
  t2 σ (upd H1 p (.dK (yg [] ws1))) fun y H2 => ∃ b ws2, y = .ref b ∧ Rd H2 b (.dK ws2) ∧ b ≠ p ∧ H2 p = some (.dK (yg [] ws1)) ∧ ws1.length + ws2.length ≤ sizeLine ∧ Q (.ref p) (upd H2 p (.dK (yg (yg [] ws1) ws2)))
theorem z1n (h1 : PE X e1 t1) (h2 : PE X e2 t2) : PE X (.Dict [none, none] [e1, e2] pos) (tMrg t1 t2) := ⟨fun pins s σ H Q I h => by
  rw [arm_eval_Dict]
  refine wpAny_bind (wpAny_standAt ?_)
  show wpAny _ _ (dictDisplay [(none, do let x ← eval e1 X.env; standAt pos; pure x), (none, do let x ← eval e2 X.env; standAt pos; pure x)]) _ _ _
  refine zxr (wpAny_alloc ?_)
  have I1 : Inv X pins σ (upd H s.heap.objs.size (.dK [])) { s with heap := s.heap.push { cls := .type "dict", data := .dict #[] } } :=
    I.laid (a := s.heap.objs.size) (o := .dK []) (t' := s.toks) (fun _ _ q => Heap.get?_push_of_some _ q) (Nat.le_refl _) (dk_empty s.heap I.big)
  have step : ∀ {s2 : Shared} {H2 : Hp} {p a : Addr} {ws0 ws1 : List (Key × V)} {R : Unit → Shared → Prop}, Inv X pins σ H2 s2 → Rd H2 a (.dK ws1) → a ≠ p → H2 p = some (.dK ws0) → ws0.length + ws1.length ≤ sizeLine →
      (∀ s3, Inv X pins σ (upd H2 p (.dK (yg ws0 ws1))) s3 → R () s3) → wpAny (model X.prog X.w) X.A (mergeMapping p (.ref a) false) R (fun _ _ => False) s2 := by
    intro s2 H2 p a ws0 ws1 R I2 rd ne hp len go
    obtain ⟨z1, lo1, vs1, rel1, dd1⟩ := dk_rd I2.hok rd
    obtain ⟨z0, lo0, vs0, rel0, dd0⟩ := dk_of I2.hok hp
    have l0 := rel0.length
    have l1 := rel1.length
    refine zv5 (Ne.symm ne) lo1 dd0 dd1 (by omega) fun h' dd sb => ?_
    have rm : KV (yg ws0 ws1) (merged vs0 vs1) := KV.merge rel1 rel0
    have lm := merged_length_le vs0 vs1
    have lr := rm.length
    have he : ∃ q, h'.get? p = some q := by obtain ⟨ob, _, _, g, _⟩ := dd; exact ⟨ob, g⟩
    exact go _ (d_write (t' := s2.toks) I2 (by rw [hp]; trivial) sb he (dk_new (by omega) lo0 rm dd))
  refine wpAny_bind (thn (h1.run pins _ σ _ _ I1 (h _ (I.hok.fresh (Nat.le_refl _)))) fun v s2 ⟨x, H2, I2, r2, q2⟩ => wpAny_bind (wpAny_standAt (wpAny_pure ?_)))
  obtain ⟨a, ws1, rfl, rd, ne, hp, q2⟩ := q2
  cases (show v = .ref a from r2)
  have z1 := (dk_rd I2.hok rd).1
  refine step I2 rd ne hp (by simpa using z1) fun s3 I3 => ?_
  refine wpAny_bind (thn (h2.run pins _ σ _ _ I3 q2) fun v s4 ⟨y, H4, I4, r4, q4⟩ => wpAny_bind (wpAny_standAt (wpAny_pure ?_)))
  obtain ⟨b, ws2, rfl, rd2, ne2, hp2, len, q4⟩ := q4
  cases (show v = .ref b from r4)
  have lm : (yg [] ws1).length + ws2.length ≤ sizeLine := by
    obtain ⟨_, _, vs1, rel1, _⟩ := dk_rd I2.hok rd
    have rm : KV (yg [] ws1) (merged [] vs1) := KV.merge rel1 .nil
    have := merged_length_le ([] : List (Key × Value)) vs1
    have := rm.length
    have := rel1.length
    simp at *
    omega
  exact step I4 rd2 ne2 hp2 lm fun s5 I5 => ⟨.ref _, _, I5, rfl, q4⟩⟩
end
section
variable {X : Cx} {K : PySem.W.Frag} {e1 e2 : Expr} {ta tb : DE} {pos : Pos}
def dMrg (ta tb : DE) : DOw := fun δ Q => ta δ fun δ1 x => ∃ k1, x = .dk k1 ∧ tb δ1 fun δ2 y => ∃ k2, y = .dk k2 ∧ k1.length + k2.length ≤ sizeLine ∧ Q δ2 (.dk (qg (qg [] k1) k2))
theorem z1o (h1 : PE X e1 (upE K ta)) (h2 : PE X e2 (upE K tb)) : PE X (.Dict [none, none] [e1, e2] pos) (upO K (dMrg ta tb)) := pimp (z1n h1 h2) fun σ H Q ⟨F0, H0, P, δ, F, Q', R, ht, k⟩ => fun p hp => by
  have hP := R.fresh hp
  refine ⟨F0, H0, (p, .dK []) :: P, δ, F, _, R.newP hp, ht, fun δ1 F1 H1 v d R1 ex1 r ⟨k1, ed, ht⟩ => ?_⟩
  subst ed
  cases r with
  | @dk a od ws _ h rg =>
    have rs1 := R1.rsv p _ (List.mem_cons_self ..)
    refine ⟨a, ws, rfl, .inr ⟨_, R1.e3 _ _ h⟩, (fun z => by rw [z, rs1.2.1] at h; cases h), rs1.2.2, F0, H0, _, δ1, F1, _, R1.wrP hP (.dK (yg [] ws)), ht, fun δ2 F2 H2 v2 d2 R2 ex2 r2 ⟨k2, ed2, len, ht⟩ => ?_⟩
    subst ed2
    cases r2 with
    | @dk b od2 ws2 _ h2 rg2 =>
      have rs2 := R2.rsv p _ (List.mem_cons_self ..)
      have l1 := rg.g.length
      have l2 := rg2.g.length
      refine ⟨b, ws2, rfl, .inr ⟨_, R2.e3 _ _ h2⟩, (fun z => by rw [z, rs2.2.1] at h2; cases h2), rs2.2.2, by omega, ?_⟩
      have r12 : RepG K F2 (yg (yg [] ws) ws2) (qg (qg [] k1) k2) := ((RepG.nil).merge (rg.mono ex2).g).merge rg2.g
      exact k δ2 F2 _ p _ _ (R2.wrP hP (.dK (yg (yg [] ws) ws2))) hP (ex1.trans ex2) (show OwnAt K F2 _ p (.dk _) from ⟨_, upd_same, r12.k⟩) ht
end
end Mv
namespace Mv
open PySem PySem.Spec PyProof.Rows L2
section
variable {K : PySem.W.Frag} {F0 H0 F H F' H' : Hp} {P : Pl} {δ : Dl} {σ : L2.St} {κ : Type}
end
section
variable {X : Cx} {K : PySem.W.Frag} {e a b c o f : Expr} {ta tb tc te tk tx tk2 : DE} {to : DOw} {pos p apos cpos pos' : Pos}
end
end Mv
namespace Mv
open PySem PySem.Spec PyProof.Rows L2
section
variable {X : Cx} {pins : List (Addr × Obj)} {σ : L2.St} {H : Hp} {s : Shared} {a b : Addr} {r : Value} {d : V} {A : Around} {E : Value → Shared → Prop}
end
section
variable {X : Cx} {o e f : Expr} {td ty tx : TE} {apos cpos : Pos}
end
end Mv
namespace Mv
open PySem PySem.Spec PyProof.Rows L2
section
variable {X : Cx} {K : PySem.W.Frag} {e f o nm : Expr} {tk : DE} {to : DOw} {apos cpos pos' a2 c2 : Pos}
end
end Mv
namespace Mv
open PySem PySem.Spec PyProof.Rows L2
theorem paired_get {α β : Type} {R : α → β → Prop} {xs : List α} {ys : List β} (p : Paired R xs ys) : ∀ (i : Nat) (y : β), ys[i]? = some y → ∃ x, xs[i]? = some x ∧ R x y := by
  induction p with
  | nil => intro i y h; simp at h
  | cons r t ih =>
    intro i y h
    cases i with
    | zero => simp at h; subst h; exact ⟨_, rfl, r⟩
    | succ i => exact ih i y (by simpa using h)
section
variable {X : Cx} {K : PySem.W.Frag} {e : Expr} {td : TE} {pins : List (Addr × Obj)} {σ : L2.St} {H : Hp} {s : Shared} {a : Addr} {apos cpos : Pos}
end
section
variable {X : Cx} {K : PySem.W.Frag} {o : Expr} {tw : DV} {pos p apos mpos : Pos}
end
end Mv
namespace Mv
open PySem PySem.Spec PyProof.Rows L2 PySem.W
section
variable {X : Cx} {K : PySem.W.Frag}
end
end Mv
namespace Mv
open PySem PySem.Spec PyProof.Rows L2
def wset (δ : Dl) (W : Wl) : Dl := δ.set (δ.length - 1) (some (.wld W))
def hasW (δ : Dl) (W : Wl) : Prop := δ.getLast? = some (some (.wld W))
theorem hasW.at {δ : Dl} {W : Wl} (h : hasW δ W) : δ[δ.length - 1]? = some (some (.wld W)) := by
  have h : δ.getLast? = _ := h
  rwa [List.getLast?_eq_getElem?] at h
theorem hasW.pos {δ : Dl} {W : Wl} (h : hasW δ W) : δ.length - 1 < δ.length := (List.getElem?_eq_some_iff.mp h.at).1
theorem z2w (W : Wl) (a : Addr) (o : O) : (putG W a o).map (·.1) = if a ∈ W.map (·.1) then W.map (·.1) else W.map (·.1) ++ [a] := by
  by_cases h : a ∈ W.map (·.1)
  · rw [if_pos h]
    have : (W.any fun kv => decide (kv.1 = a)) = true := by
      obtain ⟨q, hq, e⟩ := List.mem_map.mp h
      exact List.any_eq_true.mpr ⟨q, hq, by simpa using e⟩
    unfold putG
    rw [if_pos this, List.map_map]
    refine List.map_congr_left fun q _ => ?_
    simp only [Function.comp]
    split <;> rfl
  · rw [if_neg h]
    have : ¬ (W.any fun kv => decide (kv.1 = a)) = true := fun z => by
      obtain ⟨q, hq, e⟩ := List.any_eq_true.mp z
      exact h (List.mem_map.mpr ⟨q, hq, by simpa using e⟩)
    unfold putG
    rw [if_neg this, List.map_append]; rfl
theorem zxs {W : Wl} {a : Addr} {o : O} {x : Addr × O} (h : x ∈ putG W a o) : (x.1 = a ∧ x.2 = o) ∨ (x ∈ W ∧ x.1 ≠ a) := by
  unfold putG at h
  split at h
  · obtain ⟨q, hq, e⟩ := List.mem_map.mp h
    split at e
    · rename_i z; subst e; exact .inl ⟨z, rfl⟩
    · rename_i z; subst e; exact .inr ⟨hq, z⟩
  · rename_i z
    rcases List.mem_append.mp h with h | h
    · exact .inr ⟨h, fun e => z (List.any_eq_true.mpr ⟨x, h, by simpa using e⟩)⟩
    · simp at h; subst h; exact .inl ⟨rfl, rfl⟩
theorem zup {W : Wl} (nd : (W.map (·.1)).Nodup) (a : Addr) (o : O) : ((putG W a o).map (·.1)).Nodup := by
  rw [z2w]
  split
  · exact nd
  · rename_i h
    rw [List.nodup_append]
    exact ⟨nd, by simp, fun x hx y hy e => by simp at hy; subst hy; subst e; exact h hx⟩
section
variable {K : PySem.W.Frag} {F0 H0 F H F' H' : Hp} {P : Pl} {δ : Dl} {σ : L2.St} {W : Wl} {a : Addr} {o o' : O} {ho : HO}
theorem RepS.wat (R : RepS K F0 H0 P δ σ F H) (h : hasW δ W) : σ[δ.length - 1]? = some (some .non) ∧ (W.map (·.1)).Nodup ∧ ∀ x ∈ W, OwnAt K F H x.1 x.2 ∧ F x.1 = none ∧ H0 x.1 = none ∧ x.1 ∉ pk P := by
  obtain ⟨w, h1, hw⟩ := R.own
  obtain ⟨v, ev, rfl, q, nd⟩ := hw _ _ h.at
  exact ⟨ev, nd, fun x hx => by
    obtain ⟨q1, q2⟩ := q x hx
    obtain ⟨a1, a2, a3, a4⟩ := h1 _ _ q1
    exact ⟨q2, a2, a1, a4⟩⟩
theorem RepS.wput (R : RepS K F0 H0 P δ σ F H) (hw : hasW δ W) (ha : (a, o) ∈ W) (n : OwnAt K F (upd H a ho) a o') : RepS K F0 H0 P (wset δ (putG W a o')) σ F (upd H a ho) := by
  obtain ⟨w, h1, hws⟩ := R.own
  obtain ⟨v, ev, rfl, q, nd⟩ := hws _ _ hw.at
  have ew : w a = some (δ.length - 1) := (q _ ha).1
  obtain ⟨a1, a2, a3, a4⟩ := h1 _ _ ew
  have no : ∀ vs, ho ≠ .tup vs := fun vs z => by
    subst z
    cases o' <;> (obtain ⟨_, q, _⟩ := n; rw [upd_same] at q; cases q)
  refine ⟨R.e1, R.e2.mut a1, R.e3.mut a2, R.fr, R.tp.put no, by simp [wset, R.len], ⟨w, fun b j e => ?_, fun j s e => ?_⟩, R.low, fun p hp' hp => ?_⟩
  · obtain ⟨b1, b2, b3, b4⟩ := h1 b j e
    refine ⟨b1, b2, ?_, b4⟩
    by_cases z : b = a
    · subst z; rw [upd_same]; exact fun z => nomatch z
    · rw [upd_ne z]; exact b3
  · by_cases hj : δ.length - 1 = j
    · subst hj
      unfold wset at e
      rw [List.getElem?_set_self hw.pos] at e
      cases e
      refine ⟨.non, ev, rfl, fun x hx => ?_, zup nd _ _⟩
      rcases zxs hx with ⟨e1, e2⟩ | ⟨hm, ne⟩
      · obtain ⟨x1, x2⟩ := x
        obtain rfl : x1 = a := e1
        obtain rfl : x2 = o' := e2
        exact ⟨ew, n⟩
      · obtain ⟨q1, q2⟩ := q x hm
        exact ⟨q1, q2.mono (Ex.refl F) (upd_ne ne).symm⟩
    · unfold wset at e
      rw [List.getElem?_set_ne hj] at e
      obtain ⟨u, eu, q⟩ := hws j s e
      exact ⟨u, eu, q.keep (Ex.refl F) fun b ew2 => ⟨ew2, fun _ => upd_ne fun z => by subst z; rw [ew] at ew2; cases ew2; exact hj rfl⟩⟩
  · obtain ⟨b1, b2, b3⟩ := R.rsv p hp' hp
    exact ⟨b1, b2, by rw [upd_ne (show p ≠ a from fun z => by subst z; exact a4 (zei hp))]; exact b3⟩
theorem RepS.wnew {p : Addr} (R : RepS K F0 H0 ((p, ho) :: P) δ σ F H) (hP : p ∉ pk P) (hw : hasW δ W) (n : OwnAt K F H p o) : p ∉ W.map (·.1) ∧ RepS K F0 H0 P (wset δ (W ++ [(p, o)])) σ F H := by
  obtain ⟨r1, r2, r3⟩ := R.rsv p ho (by simp)
  obtain ⟨w, h1, hws⟩ := R.own
  obtain ⟨v, ev, rfl, q, nd⟩ := hws _ _ hw.at
  have np : p ∉ W.map (·.1) := fun z => by
    obtain ⟨x, hx, e⟩ := List.mem_map.mp z
    have := (h1 _ _ (q x hx).1).2.2.2
    rw [e] at this
    exact this (by simp [pk])
  refine ⟨np, R.e1, R.e2, R.e3, R.fr, R.tp, by simp [wset, R.len], ⟨fun b => if b = p then some (δ.length - 1) else w b, fun b j e => ?_, fun j s e => ?_⟩, R.low, fun q hq hm => R.rsv q hq (List.mem_cons_of_mem _ hm)⟩
  · by_cases z : b = p
    · subst z; exact ⟨r1, r2, by rw [r3]; exact (nomatch ·), hP⟩
    · replace e := (if_neg z).symm.trans e
      obtain ⟨a1, a2, a3, a4⟩ := h1 b j e
      exact ⟨a1, a2, a3, fun q => a4 (List.mem_cons_of_mem _ q)⟩
  · have kp : ∀ b j, w b = some j → b ≠ p := fun b j e z => (h1 b j e).2.2.2 (by simp [pk, z])
    by_cases hj : δ.length - 1 = j
    · subst hj
      unfold wset at e
      rw [List.getElem?_set_self hw.pos] at e
      cases e
      refine ⟨.non, ev, rfl, fun x hx => ?_, ?_⟩
      · rcases List.mem_append.mp hx with hm | hm
        · obtain ⟨q1, q2⟩ := q x hm
          exact ⟨(if_neg (kp _ _ q1)).trans q1, q2⟩
        · simp at hm; subst hm; exact ⟨if_pos rfl, n⟩
      · rw [List.map_append, List.nodup_append]
        exact ⟨nd, by simp, fun x hx y hy e => by simp at hy; subst hy; subst e; exact np hx⟩
    · unfold wset at e
      rw [List.getElem?_set_ne hj] at e
      obtain ⟨u, eu, q⟩ := hws j s e
      exact ⟨u, eu, q.keep (Ex.refl F) fun b ew2 => ⟨(if_neg (kp _ _ ew2)).trans ew2, fun _ => rfl⟩⟩
end
section
variable {X : Cx} {K : PySem.W.Frag} {e a b c o : Expr} {es : List Expr} {ta tb tc te tk tv : DE} {tw : DV} {to : DOw} {st : Stmt} {rest body : List Stmt} {t u : DS} {ts : DA} {pos p apos cpos : Pos}
def dCel (t : DOw) : DE := fun δ Q => t δ fun δ1 o => ∃ W, hasW δ1 W ∧ ∀ a, a ∉ W.map (·.1) → Q (wset δ1 (W ++ [(a, o)])) (.cel a)
theorem pcl (h : PE X e (upO K to)) : PE X e (upE K (dCel to)) := pimp h fun σ H Q ⟨F0, H0, P, δ, F, Q', R, ht, k⟩ => by
  refine ⟨F0, H0, P, δ, F, _, R, ht, fun δ1 F1 H1 p hp0 o R1 hP e1 q ⟨W, hw, ht⟩ => ?_⟩
  obtain ⟨np, R2⟩ := R1.wnew hP hw q
  exact k _ _ _ _ _ R2 e1 (.cel p) (ht p np)
def dVC (te : DE) : DV := fun δ Q => te δ fun δ1 d => ∃ a, d = .cel a ∧ Q δ1 (.cel a)
theorem vcl (h : PE X e (upE K te)) : PE X e (upV K (dVC te)) := pimp h fun σ H Q ⟨F0, H0, P, δ, F, Q', R, ht, k⟩ =>
  ⟨F0, H0, P, δ, F, _, R, ht, fun δ1 F1 H1 v d R1 e1 r ⟨a, ed, q⟩ => by
    subst ed
    cases r
    exact k δ1 F1 H1 _ (.cel a) R1 e1 rfl q⟩
end
end Mv
namespace Mv
open PySem PySem.Spec PyProof.Rows L2
section
variable {K : PySem.W.Frag} {F H : Hp}
end
section
variable {P : Program} {w : World} {H : Hp} {h : Heap} {a C dx : Addr} {fs : List (Str × V)}
end
section
variable {X : Cx} {pins : List (Addr × Obj)} {σ : L2.St} {H : Hp} {s : Shared} {a C dx : Addr} {fs : List (Str × V)} {f : Str} {v : V} {A : Around} {E : Value → Shared → Prop}
end
section
variable {X : Cx} {K : PySem.W.Frag} {e o value : Expr} {f : Str} {C : Addr} {pos pos' tpos : Pos} {ta tv te : DE} {tw : DV} {t0 : TE} {v : V} {u : Value} {d : D}
end
end Mv
namespace Mv
open PySem PySem.Spec PyProof.Rows L2
def setO (o : O) (kd d : D) (Q : O → Prop) : Prop := match o with
  | .lst ds => ∃ (z : Int) (k : Nat), kd = .int z ∧ ixN ds.length z = some k ∧ Q (.lst (ds.set k d))
  | .dk kvs => ∃ k, dkey kd = some k ∧ kvs.length < sizeLine ∧ Q (.dk (putG kvs k d))
  | .dt kvs => ∃ k, tkey kd = some k ∧ kvs.length < sizeLine ∧ Q (.dt (putG kvs k d))
  | .ins _ _ => False
section
variable {X : Cx} {K : PySem.W.Frag} {e o : Expr} {pos : Pos} {to tk : DE}
end
abbrev DSpW := List D → Wl → (S → Prop) → Prop
def zpw (L : Wl) (H : Hp) : Hp := fun a => if a ∈ L.map (·.1) then none else H a
theorem zti {L : Wl} {H : Hp} {a : Addr} (h : a ∈ L.map (·.1)) : zpw L H a = none := if_pos h
theorem zqt {L : Wl} {H : Hp} {a : Addr} (h : a ∉ L.map (·.1)) : zpw L H a = H a := if_neg h
section
variable {K : PySem.W.Frag} {F0 H0 F H F' H' : Hp} {P : Pl} {δ : Dl} {σ : L2.St} {W L L' W' : Wl}
end
end Mv
namespace Mv
open PySem PySem.Spec PyProof.Rows L2
section
variable {K : PySem.W.Frag} {F0 H0 F H : Hp} {P : Pl} {δ : Dl} {σ : L2.St} {W : Wl} {n : Nat} {sp : DSpW} {Q : VK} {E : XK} {vs : List V} {ds : List D} {Qd : Wl → S → Prop}
end
section
variable {X : Cx} {K : PySem.W.Frag} {e a b c o : Expr} {es : List Expr} {ta tb tc te tk tv : DE} {tw : DV} {st : Stmt} {rest body : List Stmt} {t u : DS} {ts : DA} {pos p apos cpos : Pos} {C g : Addr} {m x : Str} {n k : Nat} {sp : DSpW} {spd : DSp} {E : XK}
variable {t0 : TE} {t1 : TA} {s0 : Sp}
end
end Mv
namespace Mv
open PySem PySem.Spec PyProof.Rows L2
theorem zv6 {X : Cx} {pins : List (Addr × Obj)} {σ : L2.St} {H : Hp} {s : Shared} {g : Nat} {x : Option V} (I : Inv X pins σ H s) (hx : ∀ y, X.N[g]? = some y → ¬ Vis X.env.scope y) : Inv X pins (σ.set g x) H s := by
  obtain ⟨m, hn, hl⟩ := I.loc
  refine ⟨I.ok, I.os, I.bare, I.base, ⟨m, hn, fun i y v e1 e2 e3 => ?_⟩, I.cell, I.free, I.freeC, I.pin, I.hok, by rw [List.length_set]; exact I.len⟩
  by_cases q : g = i
  · subst q; exact absurd e3 (hx y e1)
  · rw [List.getElem?_set_ne q] at e2
    exact hl i y v e1 e2 e3
theorem zv7 {X : Cx} {b : List Stmt} {t : TS} {g : Nat} {x : Option V} (h : PSs X b t) (hx : ∀ y, X.N[g]? = some y → ¬ Vis X.env.scope y) : PSs X b (fun D σ H => t D (σ.set g x) H) :=
  ⟨fun pins s σ H D I q => h.run pins s _ H D (zv6 I hx) q⟩
def zal (n : Nat) (ds : List D) (L : Wl) : Dl := ds.map (fun d => some (S.fz d)) ++ (List.replicate (n - ds.length - 1) none ++ [some (.wld L)])
theorem zuq (n : Nat) (ds : List D) (L : Wl) : hasW (zal n ds L) L := by
  unfold hasW zal
  rw [← List.append_assoc, List.getLast?_append]; rfl
section
variable {K : PySem.W.Frag}
theorem zur {N : List Str} {vs : List V} {ds : List D} {L : Wl} {F H : Hp} (e : Ex F H) (tp : Tp F H) (lo : Low F) (r : RepL K F vs ds) (hN : ds.length < N.length) (hL : ∀ x ∈ L, F x.1 = none ∧ OwnAt K F H x.1 x.2) (nd : (L.map (·.1)).Nodup) :
    RepS K F (zpw L H) [] (zal N.length ds L) ((L2.start N vs).set (N.length - 1) (some .non)) F H := by
  have ls : (zal N.length ds L).length = N.length := by simp [zal]; omega
  have lσ : (L2.start N vs).length = N.length := by simp [L2.start, r.length]; omega
  have hat : (zal N.length ds L)[N.length - 1]? = some (some (.wld L)) := by
    have := (zuq N.length ds L).at
    rwa [ls] at this
  refine ⟨Ex.refl F, fun a u h => ?_, e, fun a o h => .inl h, tp, by rw [ls, List.length_set, lσ], ⟨fun a => if a ∈ L.map (·.1) then some (N.length - 1) else none, fun a i h => ?_, fun i s h => ?_⟩, lo, fun _ _ h => nomatch h⟩
  · by_cases z : a ∈ L.map (·.1)
    · rw [zti z] at h; cases h
    · rw [zqt z] at h; exact h
  · by_cases z : a ∈ L.map (·.1)
    · obtain ⟨x, hx, rfl⟩ := List.mem_map.mp z
      obtain ⟨ho, hh, _⟩ := (hL x hx).2.there
      exact ⟨zti z, (hL x hx).1, by rw [hh]; exact (nomatch ·), fun h => nomatch h⟩
    · replace h := (if_neg z).symm.trans h; cases h
  · by_cases hi : N.length - 1 = i
    · subst hi
      rw [hat] at h
      cases h
      exact ⟨.non, by rw [List.getElem?_set_self (by omega)], rfl, fun x hx => ⟨if_pos (List.mem_map.mpr ⟨x, hx, rfl⟩), (hL x hx).2⟩, nd⟩
    · unfold zal at h
      by_cases hd : i < ds.length
      · rw [List.getElem?_append_left (by simpa using hd), List.getElem?_map] at h
        cases hq : ds[i]? with
        | none => rw [hq] at h; simp at h
        | some d =>
          rw [hq] at h
          simp at h
          subst h
          obtain ⟨v, hv, rv⟩ := r.get hq
          refine ⟨v, ?_, rv⟩
          rw [List.getElem?_set_ne hi]
          unfold L2.start
          rw [List.getElem?_append_left (by simp [r.length]; exact hd), List.getElem?_map, hv]; rfl
      · rw [List.getElem?_append_right (by simpa using hd)] at h
        simp only [List.length_map] at h
        have hlt := (List.getElem?_eq_some_iff.mp h).1
        simp at hlt
        rw [List.getElem?_append_left (by simp; omega)] at h
        have := List.mem_of_getElem? h
        simp at this
end
section
variable {P : Program} {w : World} {K : PySem.W.Frag} {mg : Str → Option Value} {base : Heap}
def zyr (CX : CXT) (P : Program) (w : World) (K : PySem.W.Frag) (mg : Str → Option Value) (base : Heap) (N : List Str) (qual : Str) (st : Stmt) (f : Addr) (k : Nat) (np : Nat) (sp : DSp) : Prop :=
  ∀ (cdv : Value) (A : Around) (outer : List Env) (s : Shared) (H : Hp) (E : XK), Room k (A.deeper (envOfC qual (defScope st) s.heap.objs.size f cdv)) →
      ∃ t, PSs (cxOf CX P w K mg base N qual (defScope st) f cdv A outer s H E).nox (defBody st) (upS K t) ∧ ∀ ds Q', ds.length = np → sp ds Q' → t { nx := fun _ => Q' (.fz .non), rt := Q' } (zal N.length ds [])
theorem zxt {N : List Str} {sc : Scope} (h : (N[N.length - 1]?).all (fun y => (sc.names.lookup y).isNone) = true) {y : Str} (e : N[N.length - 1]? = some y) : ¬ Vis sc y := fun v => by
  rw [e] at h
  have h : sc.names.lookup y = none := by simpa [-List.lookup_eq_none_iff] using h
  rcases v with v | v | v <;> (rw [h] at v; cases v)
theorem zxu {N : List Str} {qual : Str} {st : Stmt} {f : Addr} {k np : Nat} {sp : DSp} (hb : zyr CX0 P w K mg base N qual st f k np sp) (hg : (N[N.length - 1]?).all (fun y => ((defScope st).names.lookup y).isNone) = true) (hN : np < N.length)
    (cdv : Value) (A : Around) (outer : List Env) (s : Shared) (H : Hp) (vs : List V) (Q : VK) (E : XK) (hr : Room k (A.deeper (envOfC qual (defScope st) s.heap.objs.size f cdv))) (h : spD K np sp vs H Q E) :
      ∃ t, PSs (cxOf CX0 P w K mg base N qual (defScope st) f cdv A outer s H E).nox (defBody st) t ∧ t { nx := fun _ H' => Q .non H', rt := Q } (start N vs) H := by
  obtain ⟨F, ds, Q', e, tp, lo, r, l, hs, k'⟩ := h
  obtain ⟨t, ht, hq⟩ := hb cdv A outer s H E hr
  have hh : zpw [] H = H := by funext a; exact zqt (by simp)
  have R0 := zur (N := N) (L := []) e tp lo r (by omega) (fun _ h => nomatch h) .nil
  rw [hh] at R0
  refine ⟨_, zv7 (g := N.length - 1) (x := some .non) ht fun y hy => zxt hg hy, F, H, zal N.length ds [], F, _, ⟨R0, hq ds Q' l hs, fun δ' σ' F' H' R _ q => ?_, fun _ _ _ _ _ _ q => q.elim, fun _ _ _ _ _ _ q => q.elim, fun F' H' v r G ok q => k' F' H' v r G ok q⟩⟩
  exact k' F' H' .non (.fz .non) R.grown .non q
section
variable {x qual : Str} {st : Stmt} {f : Addr} {fd : FuncData} {N ps : List Str} {k : Nat} {sp : DSpW} {spd : DSp} {kws : List (Str × V)}
theorem zzq {n : Nat} {vs : List V} {H : Hp} {Q : VK} {E : XK} (h : spD K n spd vs H Q E) : vs.length = n := by
  obtain ⟨F, ds, Q', _, _, _, r, l, _⟩ := h
  rw [r.length, l]
theorem okP (Fn : Fun K x qual st f fd) (S' : FnScope N ps (defScope st)) (hb : zyr CX0 P w K mg base N qual st f k ps.length spd) (hg : (N[N.length - 1]?).all (fun y => ((defScope st).names.lookup y).isNone) = true := by decide +kernel) (hN : ps.length < N.length := by decide) :
    FnOk P w K mg base CX0 (k + 1) f fd ps (spD K ps.length spd) := Fn.ok S' (fun vs H Q E h => zzq h) fun cdv A outer s H vs Q E hr h => zxu hb hg hN cdv A outer s H vs Q E hr h
end
end
end Mv
namespace Mv
open PySem PySem.Spec PyProof.Rows L2
section
variable {prog : Program} {w : World} {A : Around} {E : Value → Shared → Prop} {s : Shared}
end
section
variable {X : Cx} {e1 ek ev : Expr} {t1 tk tv : TE} {pos : Pos}
end
section
variable {X : Cx} {K : PySem.W.Frag} {e1 ek ev e y : Expr} {es : List Expr} {ta tk tv te : DE} {tw : DV} {to : DOw} {ts : DA} {pos p : Pos} {C : Addr} {n m : Nat} {sp : DSpW} {E : XK} {f : Str}
end
end Mv
namespace Mv
open PySem PySem.Spec PyProof.Rows L2
section
variable {X : Cx} {K : PySem.W.Frag} {e o : Expr} {es : List Expr} {ta tb tc te tk tv : DE} {tw : DV} {pos p apos cpos : Pos} {C g : Addr} {m : Str} {n k : Nat} {E : XK} {spd : DSp} {sp : DSpW}
end
end Mv
namespace Mv
open PySem PySem.Spec PyProof.Rows L2
section
variable {P : Program} {w : World} {K : PySem.W.Frag} {mg : Str → Option Value} {base : Heap} {x qual pv : Str} {st : Stmt} {f : Addr} {fd : FuncData} {N ps : List Str} {k n : Nat} {sp : DSpW}
end
section
variable {X : Cx} {K : PySem.W.Frag} {e o : Expr} {es : List Expr} {ta tb tc te tk tv : DE} {tw : DV} {pos p apos cpos : Pos} {C g : Addr} {m : Str} {n k : Nat} {E : XK} {s0 : Sp} {sp : DSpW}
end
end Mv
namespace Mv
open PySem PySem.Spec PyProof.Rows L2
section
variable {X : Cx} {K : PySem.W.Frag} {pos : Pos} {keys : List (Option Expr)} {values : List Expr} {trs : List (DE × DE)} {k v : Expr} {ks : List (Option Expr)} {vs : List Expr} {tk tv : DE}
end
section
variable {P : Program} {w : World} {K : PySem.W.Frag} {mg : Str → Option Value} {base : Heap}
end
end Mv
namespace Mv
open PySem PySem.Spec PyProof.Rows L2
abbrev fz (d : D) : Option S := some (.fz d)
abbrev ow (o : O) : Option S := some (.own o)
abbrev DEnds.of (Q : S → Prop) : DEnds := { nx := fun _ => Q (.fz .non), rt := Q }
def zfn : DS :=
 (dSeq (dIfS (dTst (d2 gGe (d2 gIxS (dVar 0) (dC (.int 0))) (dVar 1))) (dSeq (dAsg (d2 gMod (d2 gIxS (dVar 0) (dC (.int 0))) (dVar 1)) (gN 2))
 (dSeq (dAsg (d2 gDiv (d2 gIxS (dVar 0) (dC (.int 0))) (dVar 1)) (zui (dVar 0) (dC (.int 0))))
 (zbn 2))) uf)
 (dSeq (dAsg (d2 gMod (d2 gAdd (d2 gMul (d2 gIxS (dVar 0) (dC (.int 1))) (dC (.int 48271))) (dC (.int 12345))) (dC (.int 2147483647))) (zui (dVar 0) (dC (.int 1))))
 (dRet (d2 gMod (d2 gDiv (d2 gMod (d2 gPow (d2 gMod (d2 gPow (d2 gIxS (dVar 0) (dC (.int 1))) (dC (.int 3))) (dC (.int 2147483629))) (dC (.int 5))) (dC (.int 1000000007))) (dC (.int 7))) (dVar 1)))))
def zah : DSp := fun ds Q => ∃ n : Int, ds = [.obj 0, .int n] ∧ 0 < n ∧ n < 1073741824 ∧ ∀ r : Int, 0 ≤ r → r < n → Q (.fz (.int r))
theorem ifb {b : Bool} {A B : Prop} (h1 : b = true → A) (h2 : b = false → B) : if b = true then A else B := by
  cases b with
  | true => rw [if_pos rfl]; exact h1 rfl
  | false => rw [if_neg (by decide)]; exact h2 rfl
theorem bits_lt {i : Int} {n : Nat} (h : i.natAbs < 2 ^ n) : Builtin.Int.intBits i ≤ n := by
  unfold Builtin.Int.intBits
  split
  · exact Nat.zero_le _
  · rename_i e
    have : i.natAbs ≠ 0 := by simpa using e
    exact (Nat.log2_lt this).mpr h
theorem zus {i : Int} {n k : Nat} (h : i.natAbs < 2 ^ n) (hk : n * k ≤ 2 ^ 27) : CPw i k := ⟨Int.natCast_nonneg k, by
  have h1 := bits_lt h
  have h2 : Builtin.Int.intBits i * k ≤ n * k := Nat.mul_le_mul_right k h1
  have h3 : Builtin.Int.intBits i * k ≤ 2 ^ 27 := Nat.le_trans h2 hk
  exact_mod_cast h3⟩
theorem z1p (ds : List D) (Q' : S → Prop) (h : zah ds Q') : zfn (DEnds.of Q') (zp 3 ds) := by
  obtain ⟨n, rfl, h0, h1, k⟩ := h
  refine .inl ⟨rfl, fun z => ⟨_, rfl, ifb (fun e => ?_) (fun e => ?_)⟩⟩
  · refine .inl ⟨rfl, fun z2 => ⟨h0, .inl ⟨rfl, fun z3 => ⟨⟨h0, h1⟩, rfl, _, rfl, .inl rfl, ?_⟩⟩⟩⟩
    exact k _ (Int.emod_nonneg _ (by omega)) (Int.emod_lt_of_pos _ h0)
  · refine .inr ⟨rfl, fun z2 a b => ⟨.inl (.inr ⟨by decide, by decide⟩), ?_⟩⟩
    have m1 := Int.emod_nonneg (z2 * 48271 + 12345) (show (2147483647 : Int) ≠ 0 by decide)
    have m2 := Int.emod_lt_of_pos (z2 * 48271 + 12345) (show (0 : Int) < 2147483647 by decide)
    refine ⟨by decide, rfl, _, rfl, .inr ⟨rfl, m1, by omega⟩, .inr ⟨rfl, fun z3 c d => ?_⟩⟩
    have n1 := Int.emod_nonneg (z3 ^ 3) (show (2147483629 : Int) ≠ 0 by decide)
    have n2 := Int.emod_lt_of_pos (z3 ^ 3) (show (0 : Int) < 2147483629 by decide)
    refine ⟨zus (n := 32) (k := 3) (by omega) (by decide), by decide, zus (n := 32) (k := 5) ?_ (by decide), by decide, ⟨by decide, by decide⟩, h0, ?_⟩
    · show (z3 ^ 3 % 2147483629).natAbs < 2 ^ 32
      omega
    · exact k _ (Int.emod_nonneg _ (by omega)) (Int.emod_lt_of_pos _ h0)
def zxv (c : Int) : DS :=
 (dSeq (dAsg (d2 gAdd (dC (.int c)) (dVar 1)) (gN 2))
 (dSeq (dFor (dIL (dVar 0)) (gN 3)
 (dAsg (d2 gAdd (d2 gMod (d2 gPow (d2 gAdd (d2 gMul (dVar 2) (dC (.int 40127))) (dVar 3)) (dC (.int 3))) (dC (.int 2147483629))) (dC (.int 1))) (gN 2)))
 (dSeq (dAsg (dC (.int 0)) (gN 4))
 (dSeq (dIfS (dAnd (dTst (d2 gLt (dVar 1) (d1V gLen (dVV 0)))) (dTst (d2 gGe (d2V gIx (dVV 0) (dVar 1)) (d2 gPow (dC (.int 10)) (dC (.int 18)))))) (dAsg (d2 gSub (d2V gIx (dVV 0) (dVar 1)) (d2 gPow (dC (.int 10)) (dC (.int 18)))) (gN 4)) uf)
 (dRet (zpq (dLst (zg (dVar 4) (zg (dVar 2) dNil)))))))))
theorem zxw {i : Int} {n : Nat} (h : Builtin.Int.intBits i ≤ n) : i.natAbs < 2 ^ n := by
  unfold Builtin.Int.intBits at h
  split at h
  · rename_i e
    have : i.natAbs = 0 := by simpa using e
    rw [this]; exact Nat.two_pow_pos n
  · rename_i e
    have : i.natAbs ≠ 0 := by simpa using e
    exact (Nat.log2_lt this).mp h
theorem zxx {n : Nat} (hn : 48 ≤ n) {a z : Int} (h0 : 0 ≤ a) (h1 : a < 2 ^ 32) (hz : Builtin.Int.intBits z ≤ n) : Builtin.Int.intBits (a * 40127 + z) ≤ n + 1 := by
  refine bits_lt ?_
  have h2 := zxw hz
  have h3 : (2 : Nat) ^ 48 ≤ 2 ^ n := Nat.pow_le_pow_right (by decide) hn
  have h4 : (2 : Nat) ^ (n + 1) = 2 * 2 ^ n := by rw [Nat.pow_succ, Nat.mul_comm]
  have h5 : (2 : Nat) ^ 48 = 281474976710656 := by decide
  rw [h4]
  generalize (2 : Nat) ^ n = m at *
  omega
def zda : DSp := fun ds Q => ∃ (ns : List Int) (i : Int), ds = [.scr ns, .int i] ∧ 0 ≤ i ∧ i < 2 ^ 31 ∧ (∀ z ∈ ns, Builtin.Int.intBits z ≤ 1048576) ∧ Q (.fz (.obj 0))
theorem zg3 {α : Type} {xs : List α} {i : Int} (h0 : 0 ≤ i) (h1 : i < xs.length) : ∃ x, atI xs i = some x ∧ x ∈ xs := by
  obtain ⟨j, rfl⟩ := Int.eq_ofNat_of_zero_le h0
  have hj : j < xs.length := by omega
  have hj2 : xs[j]? = some xs[j] := List.getElem?_eq_getElem hj
  exact ⟨xs[j], atI_nat (j := j) hj2, List.getElem_mem hj⟩
theorem zxy (c : Int) (c0 : 0 ≤ c) (c1 : c < 1000) (ds : List D) (Q' : S → Prop) (h : zda ds Q') : zxv c (DEnds.of Q') (zp 5 ds) := by
  obtain ⟨ns, i, rfl, i0, i1, hz, q⟩ := h
  have tail : ∀ (a : Option S) (sd dg : Int), 0 ≤ sd → sd < 2 ^ 32 → dRet (zpq (dLst (zg (dVar 4) (zg (dVar 2) dNil)))) (DEnds.of Q') [fz (.scr ns), fz (.int i), fz (.int sd), a, fz (.int dg)] := fun a sd dg h0 h1 =>
    ⟨(by show 2 ≤ sizeLine; decide), dg, sd, rfl, h0, h1, q⟩
  refine ⟨fun _ δ => ∃ (sd : Int) (a : Option S), δ = [fz (.scr ns), fz (.int i), fz (.int sd), a, none] ∧ 0 ≤ sd ∧ sd < 2 ^ 32, ⟨c + i, _, rfl, by omega, by omega⟩, ?_, ?_⟩
  · rintro j d _ hd ⟨sd, a, rfl, h0, h1⟩
    rw [List.getElem?_map] at hd
    cases hj : ns[j]? with
    | none => rw [hj] at hd; cases hd
    | some z =>
      rw [hj] at hd
      cases hd
      have hb := zxx (n := 1048576) (by decide) h0 h1 (hz z (List.mem_of_getElem? hj))
      have n1 := Int.emod_nonneg ((sd * 40127 + z) ^ 3) (show (2147483629 : Int) ≠ 0 by decide)
      have n2 := Int.emod_lt_of_pos ((sd * 40127 + z) ^ 3) (show (0 : Int) < 2147483629 by decide)
      refine ⟨.inl (.inr ⟨by decide, by decide⟩), ⟨⟨by decide, ?_⟩, by decide, ?_⟩⟩
      · show (Builtin.Int.intBits (sd * 40127 + z) : Int) * 3 ≤ 134217728
        clear n1 n2
        generalize Builtin.Int.intBits (sd * 40127 + z) = b at hb ⊢
        omega
      · exact ⟨_, _, rfl, by show 0 ≤ (sd * 40127 + z) ^ 3 % 2147483629 + 1; omega, by show (sd * 40127 + z) ^ 3 % 2147483629 + 1 < 2 ^ 32; omega⟩
  · rintro _ ⟨sd, a, rfl, h0, h1⟩
    have p18 : CPw 10 18 := zus (i := 10) (n := 4) (k := 18) (by decide) (by decide)
    refine ⟨_, rfl, _, rfl, ifb (fun e => ?_) (fun e => ?_)⟩
    · have e := of_decide_eq_true e
      obtain ⟨x, hx, _⟩ := zg3 i0 e
      refine ⟨_, rfl, x, hx, p18, _, rfl, ifb (fun e => ?_) (fun e => ?_)⟩
      · exact ⟨_, rfl, x, hx, p18, tail a sd _ h0 h1⟩
      · exact tail a sd _ h0 h1
    · exact tail a sd _ h0 h1
def zdl (zi : DSp) : DS :=
 (dRet (d2V gIx (dVV 1) (dCall 2 zi (zg (dVar 0) (zg (d1V gLen (dVV 1)) dNil)))))
def chD : D → Option (List D)
  | .lst xs => some xs
  | .tup xs => some xs
  | .str z => if z.length ≤ 16777216 then some (z.cps.toList.map fun c => D.str ⟨#[c]⟩) else none
  | _ => none
def zdb : DSp := fun ds Q => ∃ d xs, ds = [.obj 0, d] ∧ chD d = some xs ∧ 0 < xs.length ∧ xs.length < 1073741824 ∧ ∀ x ∈ xs, Q (.fz x)
theorem zgb {n : Nat} (h : n ≤ 16777216) : n ≤ sizeLine := by rw [sizeLine_eq]; omega
theorem zxz (ds : List D) (Q' : S → Prop) (h : zdb ds Q') : zdl zah (DEnds.of Q') (zp 2 ds) := by
  obtain ⟨d, xs, rfl, hd, h0, h1, k⟩ := h
  cases d <;> simp only [chD] at hd <;> try cases hd
  case str z =>
    split at hd
    · rename_i hz
      cases hd
      have hl : z.length = z.cps.toList.length := by show z.cps.size = _; simp
      rw [List.length_map] at h0 h1
      refine ⟨_, rfl, ⟨zgb hz, rfl, z.length, rfl, by omega, by omega, fun r r0 r1 => ?_⟩⟩
      obtain ⟨x, hx, hm⟩ := zg3 (xs := z.cps.toList) r0 (by rw [← hl]; exact r1)
      exact ⟨_, rfl, x, zgb hz, hx, k _ (List.mem_map.mpr ⟨x, hm, rfl⟩)⟩
    · cases hd
  case tup =>
    refine ⟨_, rfl, rfl, xs.length, rfl, by omega, by omega, fun r r0 r1 => ?_⟩
    obtain ⟨x, hx, hm⟩ := zg3 (xs := xs) r0 r1
    exact ⟨_, rfl, x, hx, k _ hm⟩
  case lst =>
    refine ⟨_, rfl, rfl, xs.length, rfl, by omega, by omega, fun r r0 r1 => ?_⟩
    obtain ⟨x, hx, hm⟩ := zg3 (xs := xs) r0 r1
    exact ⟨_, rfl, x, hx, k _ hm⟩
def PureN (n : Nat) (x : D) : Prop := ∃ p, toP x = some p ∧ p.canLay0 = true ∧ p.depth ≤ n
theorem PureN.pure {n : Nat} {x : D} (h : PureN n x) (hn : n ≤ 64) : Pure x := by
  obtain ⟨p, e, c, d⟩ := h
  exact ⟨p, e, by unfold SeqAt.shaped; simp [c]; omega⟩
theorem zpx {n : Nat} : ∀ {xs : List D}, (∀ x ∈ xs, PureN n x) → ∃ ps, toPs xs = some ps ∧ PyData.canLayAll0 ps = true ∧ PyData.depthAll ps ≤ n ∧ ps.length = xs.length
  | [], _ => ⟨[], rfl, by simp [PyData.canLayAll0], by simp [PyData.depthAll], rfl⟩
  | x :: xs, h => by
    obtain ⟨p, e, c, d⟩ := h x (by simp)
    obtain ⟨ps, e2, c2, d2, l⟩ := zpx (n := n) (xs := xs) fun y hy => h y (by simp [hy])
    refine ⟨p :: ps, by simp [toPs, e, e2], by simp [PyData.canLayAll0, c, c2], ?_, by simp [l]⟩
    simp only [PyData.depthAll]
    omega
theorem PureN.lst {n : Nat} {xs : List D} (h : ∀ x ∈ xs, PureN n x) : PureN (n + 1) (.lst xs) := by
  obtain ⟨ps, e, c, d, _⟩ := zpx h
  exact ⟨.list ps, by simp [toP, e], by simpa [PyData.canLay0] using c, by simp only [PyData.depth]; omega⟩
theorem PureN.tup {n : Nat} {xs : List D} (h : ∀ x ∈ xs, PureN n x) : PureN (n + 1) (.tup xs) := by
  obtain ⟨ps, e, c, d, _⟩ := zpx h
  exact ⟨.tuple ps, by simp [toP, e], by simpa [PyData.canLay0] using c, by simp only [PyData.depth]; omega⟩
theorem PureN.mono {n m : Nat} {x : D} (h : PureN n x) (hm : n ≤ m) : PureN m x := let ⟨p, a, b, c⟩ := h; ⟨p, a, b, Nat.le_trans c hm⟩
theorem PureN.int {n : Nat} (i : Int) : PureN n (.int i) := ⟨_, rfl, by simp [PyData.canLay0], by simp [PyData.depth]⟩
theorem PureN.str {n : Nat} {i : Str} (h : PyData.strOk i = true) : PureN n (.str i) := ⟨_, rfl, by simpa [PyData.canLay0] using h, by simp [PyData.depth]⟩
theorem PureN.non {n : Nat} : PureN n .non := ⟨_, rfl, by simp [PyData.canLay0], by simp [PyData.depth]⟩
end Mv
namespace Mv
open PySem PySem.Spec PyProof.Rows L2
theorem zg4 (i : Int) : toPD (.int i) = .int i := rfl
theorem zg5 (i : Str) : toPD (.str i) = .str i := rfl
theorem zqu {ns : List Int} (h : ns.length ≤ 16777216) : SortOk (ns.map D.int) where
  pu := fun d hd => by obtain ⟨i, _, rfl⟩ := List.mem_map.mp hd; exact (PureN.int (n := 0) i).pure (by decide)
  al := fun d hd d' hd' => by
    simp only [List.map_map, List.mem_map] at hd hd'
    obtain ⟨i, _, rfl⟩ := hd
    obtain ⟨j, _, rfl⟩ := hd'
    simp [zg4, PySem.W.alike]
  so := .inr fun d hd => by
    simp only [List.map_map, List.mem_map] at hd
    obtain ⟨i, _, rfl⟩ := hd
    exact ⟨by simp [zg4], fun xs => by simp [zg4]⟩
  sz := by rw [List.length_map]; exact zgb h
theorem zqv {ns : List Str} (hs : ∀ z ∈ ns, PyData.strOk z = true) (h : ns.length ≤ 16777216) : SortOk (ns.map D.str) where
  pu := fun d hd => by obtain ⟨i, hi, rfl⟩ := List.mem_map.mp hd; exact (PureN.str (n := 0) (hs i hi)).pure (by decide)
  al := fun d hd d' hd' => by
    simp only [List.map_map, List.mem_map] at hd hd'
    obtain ⟨i, _, rfl⟩ := hd
    obtain ⟨j, _, rfl⟩ := hd'
    simp [zg5, PySem.W.alike]
  so := .inr fun d hd => by
    simp only [List.map_map, List.mem_map] at hd
    obtain ⟨i, _, rfl⟩ := hd
    exact ⟨by simp [zg5], fun xs => by simp [zg5]⟩
  sz := by rw [List.length_map]; exact zgb h
theorem zv8 (ns : List Int) : zch (ns.map D.int) = (ns.mergeSort fun i j => decide (i ≤ j)).map D.int := by
  unfold zch
  symm
  refine List.map_mergeSort fun a _ b _ => ?_
  exact (congrFun (congrFun (PySem.W.dataLe_int (fun z : Int => z)) a) b).symm
def zys (a b : Str) : Bool := decide (a.cps.toList ≤ b.cps.toList)
theorem zv9 (ns : List Str) : zch (ns.map D.str) = (ns.mergeSort zys).map D.str := by
  unfold zch
  symm
  refine List.map_mergeSort fun a _ b _ => ?_
  exact (congrFun (congrFun (PySem.W.dataLe_str (fun z : Str => z)) a) b).symm
end Mv
namespace Mv
open PySem PySem.Spec PyProof.Rows L2
section
variable {κ α : Type} [DecidableEq κ]
def za (t : List (κ × α)) : List κ := t.map (·.1)
theorem zqw (k : κ) : valG ([] : List (κ × α)) k = none := rfl
theorem xh (q : κ × α) (t : List (κ × α)) (k : κ) : valG (q :: t) k = if q.1 = k then some q.2 else valG t k := by
  unfold valG
  by_cases h : q.1 = k
  · simp [h]
  · simp [h]
theorem ui {t : List (κ × α)} {k : κ} {v : α} (h : valG t k = some v) : (k, v) ∈ t := by
  induction t with
  | nil => cases h
  | cons q t ih =>
    rw [xh] at h
    split at h
    · rename_i e; cases h; subst e; exact List.mem_cons_self ..
    · exact List.mem_cons_of_mem _ (ih h)
theorem valG_key {t : List (κ × α)} {k : κ} : k ∈ za t ↔ (valG t k).isSome = true := by
  induction t with
  | nil => simp [za, zqw]
  | cons q t ih =>
    rw [xh]
    by_cases h : q.1 = k
    · simp [za, h]
    · simp only [za, List.map_cons, List.mem_cons, if_neg h]
      rw [← ih]
      simp [za, Ne.symm h]
theorem jf {t : List (κ × α)} (nd : (za t).Nodup) {k : κ} {v : α} (h : (k, v) ∈ t) : valG t k = some v := by
  induction t with
  | nil => cases h
  | cons q t ih =>
    have nd' := List.nodup_cons.mp nd
    rw [xh]
    rcases List.mem_cons.mp h with e | h
    · subst e; simp
    · have : q.1 ≠ k := fun e => nd'.1 (by show q.1 ∈ _; rw [e]; exact List.mem_map.mpr ⟨_, h, rfl⟩)
      rw [if_neg this]
      exact ih nd'.2 h
theorem v5 {t : List (κ × α)} {k : κ} {v : α} (h : k ∉ za t) : putG t k v = t ++ [(k, v)] := by
  unfold putG
  rw [if_neg]
  simp only [List.any_eq_true, decide_eq_true_eq, not_exists, not_and]
  intro x hx e
  exact h (by rw [← e]; exact List.mem_map.mpr ⟨x, hx, rfl⟩)
theorem zcx {t : List (κ × α)} {k : κ} {v : α} (h : k ∈ za t) : putG t k v = t.map fun kv => if kv.1 = k then (kv.1, v) else kv := by
  unfold putG
  rw [if_pos]
  obtain ⟨x, hx, e⟩ := List.mem_map.mp h
  simp only [List.any_eq_true, decide_eq_true_eq]
  exact ⟨x, hx, e⟩
theorem uy (t : List (κ × α)) (k : κ) (v : α) : za (putG t k v) = if k ∈ za t then za t else za t ++ [k] := by
  by_cases h : k ∈ za t
  · rw [if_pos h, zcx h]
    unfold za
    rw [List.map_map]
    refine List.map_congr_left fun x _ => ?_
    simp only [Function.comp]
    split <;> rfl
  · rw [if_neg h, v5 h]
    simp [za]
theorem jo {t : List (κ × α)} (nd : (za t).Nodup) (k : κ) (v : α) : (za (putG t k v)).Nodup := by
  rw [uy]
  split
  · exact nd
  · rename_i h
    exact List.nodup_append.mpr ⟨nd, by simp, fun x hx y hy e => by
      rw [List.mem_singleton.mp hy] at e; subst e; exact h hx⟩
theorem yq (t : List (κ × α)) (k : κ) (v : α) : (putG t k v).length ≤ t.length + 1 := by
  by_cases h : k ∈ za t
  · rw [zcx h]; simp
  · rw [v5 h]; simp
theorem jh (t : List (κ × α)) (k : κ) (v : α) (k' : κ) : valG (putG t k v) k' = if k' = k then some v else valG t k' := by
  by_cases h : k ∈ za t
  · rw [zcx h]
    induction t with
    | nil => simp [za] at h
    | cons q t ih =>
      rw [List.map_cons, xh, xh]
      by_cases e : q.1 = k
      · rw [if_pos e]
        by_cases e2 : k' = k
        · subst e2; simp [e]
        · have : ¬ q.1 = k' := fun z => e2 (z.symm.trans e)
          simp only [this, if_false, e2]
          by_cases hk : k ∈ za t
          · rw [ih hk, if_neg e2]
          · have : (t.map fun kv => if kv.1 = k then (kv.1, v) else kv) = t := by
              conv => rhs; rw [← List.map_id t]
              refine List.map_congr_left fun x hx => ?_
              have : ¬ x.1 = k := fun z => hk (by rw [← z]; exact List.mem_map.mpr ⟨x, hx, rfl⟩)
              simp [this]
            rw [this]
      · rw [if_neg e]
        have hk : k ∈ za t := by
          rcases List.mem_cons.mp (show k ∈ q.1 :: za t from h) with z | z
          · exact absurd z.symm e
          · exact z
        by_cases e2 : q.1 = k'
        · have : ¬ k' = k := fun z => e (e2.trans z)
          simp [e2, this]
        · rw [if_neg e2, if_neg e2]
          exact ih hk
  · rw [v5 h]
    induction t with
    | nil =>
      rw [List.nil_append, xh, zqw]
      by_cases e : k = k'
      · subst e; simp
      · simp [e, Ne.symm e]
    | cons q t ih =>
      have h2 : k ∉ za t := fun z => h (List.mem_cons_of_mem _ z)
      have h1 : q.1 ≠ k := fun z => h (by rw [← z]; exact List.mem_cons_self ..)
      rw [List.cons_append, xh, xh, ih h2]
      by_cases e : q.1 = k'
      · have : ¬ k' = k := fun z => h1 (e.trans z)
        simp [e, this]
      · rw [if_neg e, if_neg e]
end
end Mv
namespace Mv
open PySem PySem.Spec PyProof.Rows L2
end Mv
namespace Mv
open PySem PySem.Spec PyProof.Rows L2
end Mv
namespace Mv
open PySem PySem.Spec PyProof.Rows L2
theorem ztj {a b : Int} (h : (Sum.inl a : Key) = .inl b) : a = b := by injection h
theorem zzr {a b : Str} (h : (Sum.inr a : Key) = .inr b) : a = b := by injection h
abbrev Sg := {z : Str // PyData.strOk z = true}
section
variable {α β γ κ κ' ι : Type}
def sD (z : Sg) : D := .str z.1
def uD (_ : Unit) : D := .non
def qv (_ : Unit) : D := .obj 0
def eL (e : α → D) (xs : List α) : D := .lst (xs.map e)
def eT (e : α → D) (xs : List α) : D := .tup (xs.map e)
def eP2 (a : α → D) (b : β → D) (p : α × β) : D := .tup [a p.1, b p.2]
def eP4 {ε : Type} (a : α → D) (b : β → D) (c : γ → D) (d : ε → D) (p : α × β × γ × ε) : D := .tup [a p.1, b p.2.1, c p.2.2.1, d p.2.2.2]
def eO (e : α → D) : Option α → D
  | none => .non
  | some a => e a
def tyG (f : κ → κ') (g : α → D) (t : List (κ × α)) : List (κ' × D) := t.map fun q => (f q.1, g q.2)
def kI : Int → Key := Sum.inl
def kS (z : Sg) : Key := .inr z.1
def kP {κ1 κ2 : Type} (a : κ1 → Key) (b : κ2 → Key) (p : κ1 × κ2) : List Key := [a p.1, b p.2]
def eK (f : κ → Key) (g : α → D) (t : List (κ × α)) : D := .dk (tyG f g t)
def eDT (f : κ → List Key) (g : α → D) (t : List (κ × α)) : D := .dt (tyG f g t)
def oL (e : α → D) (xs : List α) : O := .lst (xs.map e)
def oK (f : κ → Key) (g : α → D) (t : List (κ × α)) : O := .dk (tyG f g t)
def oDT (f : κ → List Key) (g : α → D) (t : List (κ × α)) : O := .dt (tyG f g t)
class Inj (f : α → β) : Prop where
  inj : ∀ a b, f a = f b → a = b
instance : Inj kI := ⟨fun _ _ h => ztj h⟩
instance : Inj kS := ⟨fun _ _ h => Subtype.ext (zzr h)⟩
instance {κ1 κ2 : Type} {a : κ1 → Key} {b : κ2 → Key} [Inj a] [Inj b] : Inj (kP a b) := ⟨fun p q h => by
  unfold kP at h
  simp only [List.cons.injEq, and_true] at h
  exact Prod.ext (Inj.inj _ _ h.1) (Inj.inj _ _ h.2)⟩
section
variable [DecidableEq κ] [DecidableEq κ'] {f : κ → κ'} {g : α → D} [Inj f]
theorem za3 (t : List (κ × α)) : (tyG f g t).length = t.length := by unfold tyG; simp
theorem zx0 (t : List (κ × α)) : za (tyG f g t) = (za t).map f := by unfold tyG za; simp
theorem tyG_mem {t : List (κ × α)} {k : κ} : f k ∈ za (tyG f g t) ↔ k ∈ za t := by
  rw [zx0, List.mem_map]
  exact ⟨fun ⟨a, h, e⟩ => Inj.inj _ _ e ▸ h, fun h => ⟨k, h, rfl⟩⟩
theorem zcy (t : List (κ × α)) (k : κ) : valG (tyG f g t) (f k) = (valG t k).map g := by
  induction t with
  | nil => rfl
  | cons q t ih =>
    show valG ((f q.1, g q.2) :: tyG f g t) (f k) = _
    rw [xh, xh, ih]
    by_cases e : q.1 = k
    · simp [e]
    · rw [if_neg e, if_neg (fun z => e (Inj.inj _ _ z))]
theorem zcb (t : List (κ × α)) (k : κ) (v : α) : putG (tyG f g t) (f k) (g v) = tyG f g (putG t k v) := by
  by_cases h : k ∈ za t
  · rw [zcx h, zcx (tyG_mem.mpr h)]
    unfold tyG
    rw [List.map_map, List.map_map]
    refine List.map_congr_left fun q _ => ?_
    simp only [Function.comp]
    by_cases e : q.1 = k
    · rw [if_pos e, if_pos (congrArg f e)]
    · rw [if_neg e, if_neg (fun z => e (Inj.inj _ _ z))]
  · rw [v5 h, v5 (fun z => h (tyG_mem.mp z))]
    simp [tyG]
theorem zx1 (t : List (κ × α)) (k : κ) : vz (tyG f g t) (f k) = tyG f g (vz t k) := by
  unfold vz tyG
  rw [List.filter_map]
  congr 1
  refine List.filter_congr fun q _ => ?_
  by_cases e : q.1 = k
  · simp [e]
  · have : ¬ f q.1 = f k := fun z => e (Inj.inj _ _ z)
    simp [e, this]
end
def asgW (a : α) (k : α → Prop) : Prop := k a
def retW (a : α) (k : α → Prop) : Prop := k a
def ifW (b : Bool) (A B : Prop) : Prop := if b = true then A else B
def andW (b : Bool) (m : (Bool → Prop) → Prop) (k : Bool → Prop) : Prop := if b = true then m k else k false
def iteW (b : Bool) (m1 m2 : (α → Prop) → Prop) (k : α → Prop) : Prop := if b = true then m1 k else m2 k
def zx (p : Prop) (k : Prop) : Prop := p ∧ k
def unW (o : Option α) (k : α → Prop) : Prop := ∃ a, o = some a ∧ k a
def getW [DecidableEq κ] (t : List (κ × α)) (x : κ) (k : α → Prop) : Prop := ∃ v, valG t x = some v ∧ k v
def putW [DecidableEq κ] (t : List (κ × α)) (x : κ) (v : α) (k : List (κ × α) → Prop) : Prop := t.length < sizeLine ∧ k (putG t x v)
def ixW (xs : List α) (i : Int) (k : α → Prop) : Prop := ∃ x, atI xs i = some x ∧ k x
def appW (xs : List α) (v : α) (k : List α → Prop) : Prop := xs.length < sizeLine ∧ k (xs ++ [v])
def popW (xs : List α) (i : Int) (k : α → List α → Prop) : Prop := (-(2 ^ 63) ≤ i ∧ i < 2 ^ 63) ∧ ∃ j x, seqIndex? i xs.length = some j ∧ xs[j]? = some x ∧ k x (xs.eraseIdx j)
def yr (lo hi : Int) : List Int := (List.range (hi - lo).toNat).map fun i : Nat => lo + (i : Int)
def q8 (xs : List α) : List (Int × α) := xs.zipIdx.map fun p => ((p.2 : Int), p.1)
def zfa (xs : List ι) (body : ι → Prop → Prop) (k : Prop) : Prop := match xs with
  | [] => k
  | x :: xs => body x (zfa xs body k)
end
end Mv
namespace Mv
open PySem PySem.Spec PyProof.Rows L2
section
variable {α β γ ι σ ρ κ : Type}
def SE (te : DE) (δ δ' : Dl) (m : (α → Prop) → Prop) (e : α → D) : Prop := ∀ (K : α → Prop) (Q : Dl → D → Prop), m K → (∀ a, K a → Q δ' (e a)) → te δ Q
def SOw (to : DOw) (δ δ' : Dl) (m : (α → Prop) → Prop) (e : α → O) : Prop := ∀ (K : α → Prop) (Q : Dl → O → Prop), m K → (∀ a, K a → Q δ' (e a)) → to δ Q
def ST (t : DT) (δ δ' : Dl) (m : (Bool → Prop) → Prop) : Prop := ∀ (K : Bool → Prop) (Q : Dl → Bool → Prop), m K → (∀ a, K a → Q δ' a) → t δ Q
def SV (tw : DV) (δ δ' : Dl) (m : (α → Prop) → Prop) (R : α → Vw → Prop) : Prop := ∀ (K : α → Prop) (Q : Dl → Vw → Prop), m K → (∀ a x, K a → R a x → Q δ' x) → tw δ Q
def VOk (δ : Dl) (R : α → Vw → Prop) (e : α → D) : Prop := ∀ a x, R a x → vwD δ x = some (e a)
def RV (e : α → D) : α → Vw → Prop := fun a x => x = .inr (e a)
def RO (i : Nat) (a0 : α) : α → Vw → Prop := fun a x => a = a0 ∧ x = .inl i
def SA (ts : DA) (δ δ' : Dl) (m : (σ → Prop) → Prop) (es : σ → List D) : Prop := ∀ (K : σ → Prop) (Q : Dl → List D → Prop), m K → (∀ a, K a → Q δ' (es a)) → ts δ Q
def SM (ts : DM) (δ δ' : Dl) (m : (σ → Prop) → Prop) (es : σ → List S) : Prop := ∀ (K : σ → Prop) (Q : Dl → List S → Prop), m K → (∀ a, K a → Q δ' (es a)) → ts δ Q
def SI (wi : DI) (δ δ' : Dl) (m : (List ι → Prop) → Prop) (e : ι → D) : Prop := ∀ (K : List ι → Prop) (Q : Dl → List D → Prop), m K → (∀ xs, K xs → Q δ' (xs.map e)) → wi δ Q
def SP (tp : DP) (δ δ' : Dl) (m : (Option Int → Prop) → Prop) : Prop := ∀ (K : Option Int → Prop) (Q : Dl → Option Int → Prop), m K → (∀ a, K a → Q δ' a) → tp δ Q
variable {te ta tb tc tk tx : DE} {to : DOw} {tA tB : DT} {tw tz : DV} {ts : DA} {δ δ1 δ2 δ3 : Dl} {e : α → D} {ea : α → D} {eb : β → D} {er : γ → D} {m ma : (α → Prop) → Prop} {mb : (β → Prop) → Prop} {mc mc' : (Bool → Prop) → Prop} {ms : (σ → Prop) → Prop} {es : σ → List D}
theorem zj : VOk δ (RV e) e := fun a x h => by subst h; rfl
theorem um {i : Nat} {a0 : α} {o : O} (h : δ[i]? = some (some (.own o))) (he : o.d = e a0) : VOk δ (RO i a0) e := fun a x h' => by
  obtain ⟨rfl, rfl⟩ := h'
  show (match δ[i]? with
    | some (some (.own o)) => some o.d
    | _ => none) = _
  rw [h]; exact congrArg some he
theorem zc (i : Nat) (e : α → D) (a : α) (h : δ[i]? = some (some (.fz (e a)))) : SE (dVar i) δ δ (fun k => k a) e := fun K Q hm c => by
  unfold dVar; rw [h]; exact c a hm
theorem zj0 (i : Nat) (e : α → D) (a : α) {o : O} (h : δ[i]? = some (some (.own o))) (he : o.d = e a) : SE (dVar i) δ (δ.set i (some (.fz (e a)))) (fun k => k a) e := fun K Q hm c => by
  unfold dVar; rw [h]; show Q _ _; rw [he]; exact c a hm
theorem se_c (e : α → D) (a : α) {d : D} (h : d = e a) : SE (dC d) δ δ (fun k => k a) e := fun K Q hm c => by subst h; exact c a hm
theorem sv_v (A : SE te δ δ1 m e) : SV (dVF te) δ δ1 m (RV e) := fun K Q hm c => A K _ hm fun a ha => c a _ ha rfl
theorem sv_f (i : Nat) (e : α → D) (a : α) (h : δ[i]? = some (some (.fz (e a)))) : SV (dVV i) δ δ (fun k => k a) (RV e) := fun K Q hm c => by
  unfold dVV; rw [h]; exact c a _ hm rfl
theorem sv_o (i : Nat) (a : α) {o : O} (h : δ[i]? = some (some (.own o))) : SV (dVV i) δ δ (fun k => k a) (RO i a) := fun K Q hm c => by
  unfold dVV; rw [h]; exact c a _ hm ⟨rfl, rfl⟩
theorem zzs (A : SE te δ δ1 m e) : SE te δ δ1 (fun k => m fun a => k (some a)) (eO e) := fun K Q hm c => A _ Q hm fun a ha => c (some a) ha
theorem zlr {m : (Option α → Prop) → Prop} (A : SE te δ δ1 m (eO e)) : SE te δ δ1 (fun k => m fun o => unW o k) e := fun K Q hm c => A _ Q hm fun o ⟨a, ho, ha⟩ => by
  subst ho; exact c a ha
theorem xg {o : α → O} (A : SOw to δ δ1 m o) (h : ∀ a, (o a).d = e a) : SE (dFrz to) δ δ1 m e := fun K Q hm c => A K _ hm fun a ha => by
  show Q _ _; rw [h]; exact c a ha
def G2T (g : D → D → (D → Prop) → Prop) (ea : α → D) (eb : β → D) (mg : α → β → (γ → Prop) → Prop) (er : γ → D) : Prop := ∀ a b (K : γ → Prop) (Q : D → Prop), mg a b K → (∀ r, K r → Q (er r)) → g (ea a) (eb b) Q
def G2TO (g : G2O) (ea : α → D) (eb : β → D) (mg : α → β → (γ → Prop) → Prop) (er : γ → O) : Prop := ∀ a b (K : γ → Prop) (Q : O → Prop), mg a b K → (∀ r, K r → Q (er r)) → g (ea a) (eb b) Q
section
variable {g : D → D → (D → Prop) → Prop} {mg : α → β → (γ → Prop) → Prop} {Ra : α → Vw → Prop} {Rb : β → Vw → Prop}
theorem qz (G : G2T g ea eb mg er) (A : SE ta δ δ1 ma ea) (B : SE tb δ1 δ2 mb eb) : SE (d2 g ta tb) δ δ2 (fun k => ma fun a => mb fun b => mg a b k) er :=
  fun K Q hm c => A _ _ hm fun a ha => B _ _ ha fun b hb => G a b K _ hb c
theorem qf (G : G2T g ea eb mg er) (A : SV tw δ δ1 ma Ra) (B : SE tb δ1 δ2 mb eb) (V : VOk δ2 Ra ea) : SE (d2V g tw tb) δ δ2 (fun k => ma fun a => mb fun b => mg a b k) er :=
  fun K Q hm c => A _ _ hm fun a x ha hx => B _ _ ha fun b hb => ⟨_, V a x hx, G a b K _ hb c⟩
theorem zci (G : G2T g ea eb mg er) (A : SE ta δ δ1 ma ea) (B : SV tw δ1 δ2 mb Rb) (V : VOk δ2 Rb eb) : SE (d2W g ta tw) δ δ2 (fun k => ma fun a => mb fun b => mg a b k) er :=
  fun K Q hm c => A _ _ hm fun a ha => B _ _ ha fun b y hb hy => ⟨_, V b y hy, G a b K _ hb c⟩
theorem za4 (G : G2T g ea eb mg er) (A : SV tw δ δ1 ma Ra) (B : SV tz δ1 δ2 mb Rb) (V : VOk δ2 Ra ea) (W : VOk δ2 Rb eb) : SE (d2VV g tw tz) δ δ2 (fun k => ma fun a => mb fun b => mg a b k) er :=
  fun K Q hm c => A _ _ hm fun a x ha hx => B _ _ ha fun b y hb hy => ⟨_, _, V a x hx, W b y hy, G a b K _ hb c⟩
theorem zzt {g : G2O} {er : γ → O} (G : G2TO g ea eb mg er) (A : SV tw δ δ1 ma Ra) (B : SV tz δ1 δ2 mb Rb) (V : VOk δ2 Ra ea) (W : VOk δ2 Rb eb) : SOw (d2VO g tw tz) δ δ2 (fun k => ma fun a => mb fun b => mg a b k) er :=
  fun K Q hm c => A _ _ hm fun a x ha hx => B _ _ ha fun b y hb hy => ⟨_, _, V a x hx, W b y hy, G a b K _ hb c⟩
theorem zls (i : Int) (f : α → β) (A : SV tw δ δ1 ma Ra) (V : VOk δ1 Ra ea) (h : ∀ a, ∃ ds, ea a = .tup ds ∧ atI ds i = some (eb (f a))) : SE (d2V gIx tw (dC (.int i))) δ δ1 (fun k => ma fun a => k (f a)) eb :=
  fun K Q hm c => A _ _ hm fun a x ha hx => by
    obtain ⟨ds, e1, e2⟩ := h a
    refine ⟨_, V a x hx, ?_⟩
    rw [e1]; exact ⟨_, e2, c _ ha⟩
end
def G1T (g : D → (D → Prop) → Prop) (ea : α → D) (mg : α → (γ → Prop) → Prop) (er : γ → D) : Prop := ∀ a (K : γ → Prop) (Q : D → Prop), mg a K → (∀ r, K r → Q (er r)) → g (ea a) Q
def G1L (g : G1) (ea : α → D) (mg : α → (γ → Prop) → Prop) (er : γ → D) : Prop := ∀ a (K : γ → Prop) (Q : D → Prop), mg a K → (∀ r, K r → Q (er r)) → g [ea a] Q
def G1LO (g : G1O) (ea : α → D) (mg : α → (γ → Prop) → Prop) (er : γ → O) : Prop := ∀ a (K : γ → Prop) (Q : O → Prop), mg a K → (∀ r, K r → Q (er r)) → g [ea a] Q
section
variable {Ra : α → Vw → Prop} {Rb : β → Vw → Prop} {mg : α → (γ → Prop) → Prop} {mh : α → β → (γ → Prop) → Prop}
theorem zdc {g : D → (D → Prop) → Prop} (G : G1T g ea mg er) (A : SV tw δ δ1 ma Ra) (V : VOk δ1 Ra ea) : SE (d1V g tw) δ δ1 (fun k => ma fun a => mg a k) er :=
  fun K Q hm c => A _ _ hm fun a x ha hx => ⟨_, V a x hx, G a K _ ha c⟩
theorem vws1 {x : Vw} {d : D} (h : vwD δ x = some d) : vwsD δ [x] = some [d] := by
  unfold vwsD; rw [h]; rfl
theorem zd2 {g : G1} (G : G1L g ea mg er) (A : SV tw δ δ1 ma Ra) (V : VOk δ1 Ra ea) : SE (d1 g (jn tw vNil)) δ δ1 (fun k => ma fun a => mg a k) er :=
  fun K Q hm c => A _ _ hm fun a x ha hx => ⟨_, vws1 (V a x hx), G a K _ ha c⟩
theorem zcj {g : G1O} {er : γ → O} (G : G1LO g ea mg er) (A : SV tw δ δ1 ma Ra) (V : VOk δ1 Ra ea) : SOw (d1O g (jn tw vNil)) δ δ1 (fun k => ma fun a => mg a k) er :=
  fun K Q hm c => A _ _ hm fun a x ha hx => ⟨_, vws1 (V a x hx), G a K _ ha c⟩
end
theorem zl : SA dNil δ δ (fun k => k ()) (fun _ => []) := fun K Q hm c => c _ hm
theorem zf (A : SE ta δ δ1 ma ea) (B : SA ts δ1 δ2 ms es) : SA (zg ta ts) δ δ2 (fun k => ma fun a => ms fun s => k (a, s)) (fun p => ea p.1 :: es p.2) :=
  fun K Q hm c => A _ _ hm fun a ha => B _ _ ha fun s hs => c (a, s) hs
theorem zdd (f : σ → α) (e : α → D) (n : Nat) (A : SA ts δ δ1 ms es) (h : ∀ s, D.tup (es s) = e (f s)) (hl : ∀ s, (es s).length = n) (hn : n ≤ sizeLine) : SE (dTup ts) δ δ1 (fun k => ms fun s => k (f s)) e :=
  fun K Q hm c => A _ _ hm fun s hs => ⟨by rw [hl]; exact hn, by rw [h]; exact c _ hs⟩
theorem yt (f : σ → List α) (e : α → D) (n : Nat) (A : SA ts δ δ1 ms es) (h : ∀ s, es s = (f s).map e) (hl : ∀ s, (es s).length = n) (hn : n ≤ sizeLine) : SOw (dLst ts) δ δ1 (fun k => ms fun s => k (f s)) (oL e) :=
  fun K Q hm c => A _ _ hm fun s hs => ⟨by rw [hl]; exact hn, by rw [h]; exact c _ hs⟩
theorem yu {f : κ → Key} : SOw zay δ δ (fun k => k ([] : List (κ × α))) (oK f e) := fun K Q hm c => c _ hm
theorem ztk {f : κ → List Key} : SOw zpm δ δ (fun k => k ([] : List (κ × α))) (oDT f e) := fun K Q hm c => c _ hm
theorem ziu : SM zd1 δ δ (fun k => k ()) (fun _ => []) := fun K Q hm c => c _ hm
theorem sm_F {ts : DM} {es : σ → List S} (A : SE ta δ δ1 ma ea) (B : SM ts δ1 δ2 ms es) : SM (dmF ta ts) δ δ2 (fun k => ma fun a => ms fun s => k (a, s)) (fun p => .fz (ea p.1) :: es p.2) :=
  fun K Q hm c => A _ _ hm fun a ha => B _ _ ha fun s hs => c (a, s) hs
theorem sm_O {ts : DM} {es : σ → List S} {eo : α → O} (A : SOw to δ δ1 ma eo) (B : SM ts δ1 δ2 ms es) : SM (dmO to ts) δ δ2 (fun k => ma fun a => ms fun s => k (a, s)) (fun p => .own (eo p.1) :: es p.2) :=
  fun K Q hm c => A _ _ hm fun a ha => B _ _ ha fun s hs => c (a, s) hs
theorem z5 {n : Nat} {sp : DSp} {er : ρ → D} (A : SA ts δ δ1 ms es) (hl : ∀ s, (es s).length = n) (F : σ → (ρ → Prop) → Prop) (hF : ∀ s K (Q' : S → Prop), F s K → (∀ r s', K r → s'.d = er r → Q' s') → sp (es s) Q') : SE (dCall n sp ts) δ δ1 (fun k => ms fun s => F s k) er :=
  fun K Q hm c => A _ _ hm fun s hs => ⟨hl s, hF s K _ hs fun r s' hr hd => by rw [hd]; exact c r hr⟩
theorem zmv {n : Nat} {sp : DSp} {eo : ρ → O} (A : SA ts δ δ1 ms es) (hl : ∀ s, (es s).length = n) (F : σ → (ρ → Prop) → Prop) (hF : ∀ s K (Q' : S → Prop), F s K → (∀ r, K r → Q' (.own (eo r))) → sp (es s) Q') : SOw (zil n sp ts) δ δ1 (fun k => ms fun s => F s k) eo :=
  fun K Q hm c => A _ _ hm fun s hs => ⟨hl s, hF s K _ hs fun r hr => ⟨_, rfl, c r hr⟩⟩
theorem xt (A : SE te δ δ1 mc D.bl) : ST (dTst te) δ δ1 mc := fun K Q hm c => A _ _ hm fun b hb => ⟨b, rfl, c b hb⟩
theorem z1q (A : ST tA δ δ1 mc) : ST (dNot tA) δ δ1 (fun k => mc fun b => k (!b)) := fun K Q hm c => A _ _ hm fun b hb => c _ hb
theorem zmw {y : Bool} (A : ST tA δ δ1 mc) (B : ST tB δ1 δ1 fun k => k y) : ST (dAnd tA tB) δ δ1 (fun k => mc fun b => k (b && y)) := fun K Q hm c => A _ _ hm fun b hb => by
  cases b with
  | true => rw [if_pos rfl]; exact B _ _ hb fun z hz => c z (by simpa using hz)
  | false => rw [if_neg (by decide)]; exact c _ hb
theorem z1r (A : ST tA δ δ1 mc) (B : ST tB δ1 δ1 mc') : ST (dAnd tA tB) δ δ1 (fun k => mc fun b => andW b mc' k) := fun K Q hm c => A _ _ hm fun b hb => by
  unfold andW at hb
  cases b with
  | true => rw [if_pos rfl] at hb ⊢; exact B _ _ hb c
  | false => rw [if_neg (by decide)] at hb ⊢; exact c _ hb
theorem zwa (A : SE ta δ δ1 mc D.bl) (B : SE tb δ1 δ1 mc' D.bl) : SE (zpl ta tb) δ δ1 (fun k => mc fun b => andW b mc' k) D.bl := fun K Q hm c => A _ _ hm fun b hb => by
  refine ⟨b, rfl, ?_⟩
  unfold andW at hb
  cases b with
  | true => rw [if_pos rfl] at hb ⊢; exact B _ _ hb c
  | false => rw [if_neg (by decide)] at hb ⊢; exact c _ hb
theorem z1s {m1 m2 : (α → Prop) → Prop} (C : ST tA δ δ1 mc) (A : SE ta δ1 δ1 m1 e) (B : SE tb δ1 δ1 m2 e) : SE (dIf tA ta tb) δ δ1 (fun k => mc fun b => iteW b m1 m2 k) e := fun K Q hm c => C _ _ hm fun b hb => by
  unfold iteW at hb
  cases b with
  | true => rw [if_pos rfl] at hb ⊢; exact A _ _ hb c
  | false => rw [if_neg (by decide)] at hb ⊢; exact B _ _ hb c
theorem z1t {m : (Int → Prop) → Prop} (A : SE te δ δ1 m D.int) : SE (dNeg te) δ δ1 (fun k => m fun a => k (-a)) D.int := fun K Q hm c => A _ _ hm fun a ha => ⟨a, rfl, c _ ha⟩
end
end Mv
namespace Mv
open PySem PySem.Spec PyProof.Rows L2
section
variable {α β γ ι σ ρ κ : Type} {e : α → D} {eb : β → D}
def eqB [DecidableEq α] (a b : α) : Bool := decide (a = b)
def memB [DecidableEq α] (a : α) (xs : List α) : Bool := decide (a ∈ xs)
theorem eqB_no [DecidableEq α] {a b : α} : eqB a b = false ↔ a ≠ b := by simp [eqB]
class PuE (n : outParam Nat) (e : α → D) : Prop where
  pu : ∀ a, PureN n (e a)
instance : PuE 0 D.int := ⟨PureN.int⟩
instance : PuE 0 sD := ⟨fun z => PureN.str z.2⟩
instance {n : Nat} [h : PuE n e] : PuE (n + 1) (eL e) := ⟨fun xs => PureN.lst fun x hx => by obtain ⟨a, _, rfl⟩ := List.mem_map.mp hx; exact h.pu a⟩
instance {n : Nat} [h : PuE n e] : PuE (n + 1) (eT e) := ⟨fun xs => PureN.tup fun x hx => by obtain ⟨a, _, rfl⟩ := List.mem_map.mp hx; exact h.pu a⟩
instance {n : Nat} [h : PuE n e] : PuE n (eO e) := ⟨fun o => by cases o with
  | none => exact PureN.non
  | some a => exact h.pu a⟩
instance {n m : Nat} [h : PuE n e] [h' : PuE m eb] : PuE (max n m + 1) (eP2 e eb) := ⟨fun p => PureN.tup fun x hx => by
  simp at hx
  rcases hx with rfl | rfl
  · exact (h.pu _).mono (by omega)
  · exact (h'.pu _).mono (by omega)⟩
class EqE [DecidableEq α] (e : α → D) : Prop where
  eq : ∀ a b, eqvD (e a) (e b) = decide (a = b)
instance : EqE D.int := ⟨fun a b => by
  show PyData.eqv (.int a) (.int b) = _
  simp only [PyData.eqv]; rfl⟩
instance : EqE sD := ⟨fun a b => by
  show PyData.eqv (.str a.1) (.str b.1) = _
  simp only [PyData.eqv]
  by_cases h : a = b
  · subst h; simp
  · have : a.1 ≠ b.1 := fun z => h (Subtype.ext z)
    simp [h, this]⟩
theorem zgc {x y : D} {p q : PyData} (h : toP x = some p) (h' : toP y = some q) : eqvD x y = PyData.eqv p q := by unfold eqvD; rw [h, h']
theorem eqvs [DecidableEq α] {n : Nat} [hp : PuE n e] [he : EqE e] : ∀ (xs ys : List α) (ps qs : List PyData), toPs (xs.map e) = some ps → toPs (ys.map e) = some qs → PyData.eqvAll ps qs = decide (xs = ys)
  | [], [], ps, qs, h, h' => by cases h; cases h'; simp [PyData.eqvAll]
  | [], y :: ys, ps, qs, h, h' => by
    cases h
    obtain ⟨p, e1, _⟩ := hp.pu y
    simp only [List.map_cons, toPs, e1, Option.bind_some, Option.map_eq_some_iff] at h'
    obtain ⟨r, _, rfl⟩ := h'
    simp [PyData.eqvAll]
  | x :: xs, [], ps, qs, h, h' => by
    cases h'
    obtain ⟨p, e1, _⟩ := hp.pu x
    simp only [List.map_cons, toPs, e1, Option.bind_some, Option.map_eq_some_iff] at h
    obtain ⟨r, _, rfl⟩ := h
    simp [PyData.eqvAll]
  | x :: xs, y :: ys, ps, qs, h, h' => by
    obtain ⟨p, e1, _⟩ := hp.pu x
    obtain ⟨q, e2, _⟩ := hp.pu y
    simp only [List.map_cons, toPs, e1, e2, Option.bind_some, Option.map_eq_some_iff] at h h'
    obtain ⟨r, h1, rfl⟩ := h
    obtain ⟨r', h2, rfl⟩ := h'
    have h3 := he.eq x y
    rw [zgc e1 e2] at h3
    rw [PyData.eqvAll, h3, eqvs xs ys r r' h1 h2]
    simp
theorem zfb {n : Nat} [hp : PuE n e] (xs : List α) : ∃ ps, toPs (xs.map e) = some ps := by
  obtain ⟨ps, h, _⟩ := zpx (n := n) (xs := xs.map e) fun x hx => by obtain ⟨a, _, rfl⟩ := List.mem_map.mp hx; exact hp.pu a
  exact ⟨ps, h⟩
instance [DecidableEq α] {n : Nat} [PuE n e] [EqE e] : EqE (eL e) := ⟨fun xs ys => by
  obtain ⟨ps, h⟩ := zfb (e := e) xs
  obtain ⟨qs, h'⟩ := zfb (e := e) ys
  rw [zgc (p := .list ps) (q := .list qs) (by simp [eL, toP, h]) (by simp [eL, toP, h']), PyData.eqv, eqvs xs ys ps qs h h']⟩
instance [DecidableEq α] {n : Nat} [PuE n e] [EqE e] : EqE (eT e) := ⟨fun xs ys => by
  obtain ⟨ps, h⟩ := zfb (e := e) xs
  obtain ⟨qs, h'⟩ := zfb (e := e) ys
  rw [zgc (p := .tuple ps) (q := .tuple qs) (by simp [eT, toP, h]) (by simp [eT, toP, h']), PyData.eqv, eqvs xs ys ps qs h h']⟩
class NonE (e : α → D) : Prop where
  ne : ∀ (a : α) (p : PyData), toP (e a) = some p → PyData.eqv .none p = false ∧ PyData.eqv p .none = false ∧ (e a).isNon = false
instance : NonE D.int := ⟨fun a p h => by cases h; simp [PyData.eqv, D.isNon]⟩
instance [DecidableEq α] {n : Nat} [hp : PuE n e] [he : EqE e] [hn : NonE e] : EqE (eO e) := ⟨fun a b => by
  cases a with
  | none => cases b with
    | none => show PyData.eqv .none .none = _; simp [PyData.eqv]
    | some b =>
      obtain ⟨p, h, _⟩ := hp.pu b
      show eqvD .non (e b) = _
      rw [zgc (p := .none) rfl h, (hn.ne b p h).1]; simp
  | some a => cases b with
    | none =>
      obtain ⟨p, h, _⟩ := hp.pu a
      show eqvD (e a) .non = _
      rw [zgc (q := .none) h rfl, (hn.ne a p h).2.1]; simp
    | some b =>
      show eqvD (e a) (e b) = _
      rw [he.eq]; simp⟩
theorem u9 : G2T gAdd D.int D.int (fun x y k => k (x + y)) D.int := fun a b K Q h c => c _ h
theorem zck : G2T gSub D.int D.int (fun x y k => k (x - y)) D.int := fun a b K Q h c => c _ h
theorem ziv : G2T gMul D.int D.int (fun x y k => zx (CM x y) (k (x * y))) D.int := fun a b K Q h c => ⟨h.1, c _ h.2⟩
theorem z1u : G2T gPow D.int D.int (fun x y k => zx (CPw x y) (k (x ^ y.toNat))) D.int := fun a b K Q h c => ⟨h.1, c _ h.2⟩
theorem zj1 : G2T gGt D.int D.int (fun x y k => k (decide (y < x))) D.bl := fun a b K Q h c => c _ h
theorem z1v (h : ∀ a, (e a).isNon = false) : G2T gIsN (eO e) uD (fun o _ k => k o.isNone) D.bl := fun o b K Q hk c => by
  cases o with
  | none => exact c true hk
  | some a => show Q (.bl (e a).isNon); rw [h]; exact c false hk
theorem ztl (h : ∀ a, (e a).isNon = false) : G2T zgv (eO e) uD (fun o _ k => k o.isSome) D.bl := fun o b K Q hk c => by
  cases o with
  | none => exact c false hk
  | some a => show Q (.bl (!(e a).isNon)); rw [h]; exact c true hk
theorem zzu (f : α → β) (xs : List α) (i : Int) : atI (xs.map f) i = (atI xs i).map f := by
  unfold atI
  rw [List.length_map]
  cases ixN xs.length i with
  | none => rfl
  | some j => simp
theorem ziw : G2T gIx (eL e) D.int (fun xs i k => ixW xs i k) e := fun xs i K Q ⟨x, hx, h⟩ c => ⟨_, by rw [zzu, hx]; rfl, c _ h⟩
theorem xu [DecidableEq κ] {f : κ → Key} [Inj f] {ek : κ → D} (hk : ∀ x, dkey (ek x) = some (f x)) : G2T gIx (eK f e) ek (fun t x k => getW t x k) e := fun t x K Q ⟨v, hv, h⟩ c => ⟨f x, e v, hk x, by rw [zcy, hv]; rfl, c _ h⟩
theorem zgd [DecidableEq κ] {f : κ → List Key} [Inj f] {ek : κ → D} (hk : ∀ x, tkey (ek x) = some (f x)) : G2T gIx (eDT f e) ek (fun t x k => getW t x k) e := fun t x K Q ⟨v, hv, h⟩ c => ⟨f x, e v, hk x, by rw [zcy, hv]; rfl, c _ h⟩
def hasG [DecidableEq κ] (t : List (κ × α)) (x : κ) : Bool := (valG t x).isSome
theorem zge [DecidableEq κ] {f : κ → Key} [Inj f] {ek : κ → D} (hk : ∀ x, dkey (ek x) = some (f x)) (h0 : ∀ (x : κ) (kvs : List (Key × D)) (Q : D → Prop), (∃ k, dkey (ek x) = some k ∧ Q (.bl (valG kvs k).isSome)) → gInB false (ek x) (.dk kvs) Q) : G2T (gInB false) ek (eK f e) (fun x t k => k (hasG t x)) D.bl := fun x t K Q h c =>
  h0 x _ Q ⟨f x, hk x, by rw [zcy, Option.isSome_map]; exact c _ h⟩
theorem zzv [DecidableEq κ] {f : κ → Key} [Inj f] {ek : κ → D} (hk : ∀ x, dkey (ek x) = some (f x)) (h0 : ∀ (x : κ) (kvs : List (Key × D)) (Q : D → Prop), (∃ k, dkey (ek x) = some k ∧ Q (.bl (!(valG kvs k).isSome))) → gInB true (ek x) (.dk kvs) Q) : G2T (gInB true) ek (eK f e) (fun x t k => k (!hasG t x)) D.bl := fun x t K Q h c =>
  h0 x _ Q ⟨f x, hk x, by rw [zcy, Option.isSome_map]; exact c _ h⟩
class FlatE [DecidableEq α] (e : α → D) where
  fl : α → V
  ok : ∀ a, zd0 (e a) = some (fl a)
  eq : ∀ a b, eqV (fl a) (fl b) = decide (a = b)
instance : FlatE D.int := ⟨V.int, fun _ => rfl, fun a b => rfl⟩
instance : FlatE sD := ⟨fun z => .str z.1, fun _ => rfl, fun a b => by
  show decide (a.1 = b.1) = _
  by_cases h : a = b
  · subst h; simp
  · have : a.1 ≠ b.1 := fun z => h (Subtype.ext z)
    simp [h, this]⟩
theorem zfc [DecidableEq α] [h : FlatE e] : ∀ xs : List α, ym (xs.map e) = some (xs.map h.fl)
  | [] => rfl
  | x :: xs => by
    rw [List.map_cons, ym, h.ok, zfc xs]; rfl
theorem zzw [DecidableEq α] [h : FlatE e] (x : α) (xs : List α) : inV (h.fl x) (xs.map h.fl) = decide (x ∈ xs) := by
  unfold inV
  rw [List.any_map, Bool.eq_iff_iff, List.any_eq_true, decide_eq_true_eq]
  constructor
  · rintro ⟨y, hy, q⟩
    simp only [Function.comp, h.eq, decide_eq_true_eq] at q
    exact q ▸ hy
  · intro hx
    exact ⟨x, hx, by simp [h.eq]⟩
theorem zzx [DecidableEq α] [h : FlatE e] : G2T (gInB true) e (eL e) (fun x xs k => k (!memB x xs)) D.bl := fun x xs K Q hk c => by
  unfold eL gInB
  exact ⟨_, _, h.ok x, zfc xs, by
    show Q (.bl (!inV _ _)); rw [zzw]; exact c _ hk⟩
theorem zut [DecidableEq α] {n : Nat} [hp : PuE n e] [he : EqE e] (hn : n ≤ 64) : G2T (gEqA false) e e (fun a b k => k (eqB a b)) D.bl := fun a b K Q h c =>
  .inl (.inl ⟨(hp.pu a).pure hn, (hp.pu b).pure hn, by show Q (.bl (eqvD _ _)); rw [he.eq]; exact c _ h⟩)
theorem zfd [DecidableEq α] {n : Nat} [hp : PuE n e] [he : EqE e] (hn : n ≤ 64) : G2T (gEqA true) e e (fun a b k => k (!eqB a b)) D.bl := fun a b K Q h c =>
  .inl (.inl ⟨(hp.pu a).pure hn, (hp.pu b).pure hn, by show Q (.bl (!eqvD _ _)); rw [he.eq]; exact c _ h⟩)
theorem zcc : G1T gLen (eL e) (fun xs k => k (xs.length : Int)) D.int := fun xs K Q h c => by
  show Q (.int ((xs.map e).length : Nat)); rw [List.length_map]; exact c _ h
theorem zqx : G1L gAbs D.int (fun i k => k (if i < 0 then -i else i)) D.int := fun a K Q h c => ⟨a, rfl, c _ h⟩
theorem ztm : G1L gInt D.bl (fun b k => k (if b = true then (1 : Int) else 0)) D.int := fun a K Q h c => .inr ⟨a, rfl, by
  have := c _ h
  cases a <;> exact this⟩
theorem zqy : G1L gSum (eL D.int) (fun xs k => k xs.sum) D.int := fun xs K Q h c => ⟨_, xs, rfl, znk xs, c _ h⟩
theorem zzy : G1L zjw (eL e) (fun xs k => k xs) (eT e) := fun xs K Q h c => ⟨_, .inl rfl, c _ h⟩
theorem zx2 {f : κ → Key} {ek : κ → D} (hk : ∀ x, keyD (f x) = ek x) : G1LO zll (eK f e) (fun t k => k (za t)) (oL ek) := fun t K Q h c => .inr ⟨_, rfl, by
  have : ((tyG f e t).map fun kv => keyD kv.1) = (za t).map ek := by
    unfold tyG za; rw [List.map_map, List.map_map]; exact List.map_congr_left fun q _ => hk q.1
  rw [this]; exact c _ h⟩
class SrtE (e : α → D) where
  le : α → α → Bool
  ok : ∀ xs : List α, xs.length ≤ 16777216 → SortOk (xs.map e)
  eq : ∀ xs : List α, zch (xs.map e) = (xs.mergeSort le).map e
def sgLe (a b : Sg) : Bool := zys a.1 b.1
instance : SrtE D.int := ⟨fun i j => decide (i ≤ j), fun xs h => zqu h, zv8⟩
theorem zuu (xs : List Sg) : xs.map sD = (xs.map (·.1)).map D.str := by rw [List.map_map]; rfl
instance : SrtE sD := ⟨sgLe, fun xs h => by
  rw [zuu]
  exact zqv (fun z hz => by obtain ⟨a, _, rfl⟩ := List.mem_map.mp hz; exact a.2) (by simpa using h), fun xs => by
  rw [zuu, zv9, zuu]
  congr 1
  symm
  exact List.map_mergeSort fun a _ b _ => rfl⟩
def z4 (e : α → D) [h : SrtE e] (xs : List α) : List α := xs.mergeSort h.le
theorem zkm [h : SrtE e] : G1LO uq (eL e) (fun xs k => zx (xs.length ≤ 16777216) (k (z4 e xs))) (oL e) := fun xs K Q hk c => ⟨_, _, rfl, rfl, h.ok xs hk.1, by rw [h.eq]; exact c _ hk.2⟩
theorem zem {f : κ → Key} {ek : κ → D} [hs : SrtE ek] (hk : ∀ x, keyD (f x) = ek x) : G1LO uq (eK f e) (fun t k => zx (t.length ≤ 16777216) (k (z4 ek (za t)))) (oL ek) := fun t K Q h c => by
  have e1 : ((tyG f e t).map fun kv => keyD kv.1) = (za t).map ek := by
    unfold tyG za; rw [List.map_map, List.map_map]; exact List.map_congr_left fun q _ => hk q.1
  exact ⟨_, _, rfl, (by show some ((tyG f e t).map fun kv => keyD kv.1) = _; rw [e1]), hs.ok _ (by simpa [za] using h.1), by rw [hs.eq]; exact c _ h.2⟩
theorem zwb {f : κ → List Key} {ek : κ → D} [hs : SrtE ek] (hk : ∀ x, D.tup ((f x).map keyD) = ek x) : G1LO uq (eDT f e) (fun t k => zx (t.length ≤ 16777216) (k (z4 ek (za t)))) (oL ek) := fun t K Q h c => by
  have e1 : ((tyG f e t).map fun kv => D.tup (kv.1.map keyD)) = (za t).map ek := by
    unfold tyG za; rw [List.map_map, List.map_map]; exact List.map_congr_left fun q _ => hk q.1
  exact ⟨_, _, rfl, (by show some ((tyG f e t).map fun kv => D.tup (kv.1.map keyD)) = _; rw [e1]), hs.ok _ (by simpa [za] using h.1), by rw [hs.eq]; exact c _ h.2⟩
theorem z1w : G2TO gCat (eL e) (eL e) (fun xs ys k => zx (xs.length + ys.length ≤ sizeLine) (k (xs ++ ys))) (oL e) := fun xs ys K Q h c => ⟨_, _, rfl, rfl, by simpa using h.1, by
  rw [← List.map_append]; exact c _ h.2⟩
end
end Mv
namespace Mv
open PySem PySem.Spec PyProof.Rows L2
theorem zix {α β : Type} (f : α → β) : ∀ (ls : List α) (m : Nat), (ls.eraseIdx m).map f = (ls.map f).eraseIdx m
  | [], _ => rfl
  | a :: ls, 0 => rfl
  | a :: ls, m + 1 => by
    show f a :: (ls.eraseIdx m).map f = f a :: (ls.map f).eraseIdx m
    rw [zix f ls m]
section
variable {α β γ ι σ ρ κ J : Type}
def zuv (K : Prop) (B : (Prop) → Prop) : Prop := B K
theorem zwc {xs : List ι}  {body : ι → (Prop) → Prop} {k : Prop} (I : Nat → Prop) (h0 : I 0) (hs : ∀ i x (nx : Prop), xs[i]? = some x → I i → (I (i + 1) → nx) → body x nx) (hk : I xs.length → k) : zfa xs body k := by
  have key : ∀ (ys : List ι) (j : Nat), j ≤ xs.length → xs.drop j = ys → I j → zfa ys body k := by
    intro ys
    induction ys with
    | nil =>
      intro j hj e h
      have e2 : j = xs.length := Nat.le_antisymm hj (List.drop_eq_nil_iff.mp e)
      subst e2
      exact hk h
    | cons x ys ih =>
      intro j hj e h
      have hlt : j < xs.length := by
        refine Nat.lt_of_not_le fun z => ?_
        rw [List.drop_eq_nil_iff.mpr z] at e; cases e
      have e2 := List.drop_eq_getElem_cons hlt
      rw [e] at e2
      have ex : xs[j]? = some x := by rw [List.getElem?_eq_getElem hlt, ← (List.cons.inj e2).1]
      exact hs j x _ ex h fun h => ih (j + 1) hlt (List.cons.inj e2).2.symm h
  exact key xs 0 (Nat.zero_le _) rfl h0
def xo {A0 : Type} (xs : List ι) (a0 : A0) (body : ι → A0 → (A0 → Prop) → Prop) (k : A0 → Prop) : Prop := match xs with
  | [] => k a0
  | x :: xs => body x a0 (fun b0 => xo xs b0 body k)
def zd3 {A0 : Type} (K : A0 → Prop) (B : (A0 → Prop) → Prop) : Prop := B K
theorem xi {A0 : Type} {xs : List ι} {a0 : A0} {body : ι → A0 → (A0 → Prop) → Prop} {k : A0 → Prop} (I : Nat → A0 → Prop) (h0 : I 0 a0) (hs : ∀ i x (a0 : A0) (nx : A0 → Prop), xs[i]? = some x → I i a0 → (∀ b0, I (i + 1) b0 → nx b0) → body x a0 nx) (hk : ∀ b0, I xs.length b0 → k b0) : xo xs a0 body k := by
  have key : ∀ (ys : List ι) (j : Nat) (c0 : A0), j ≤ xs.length → xs.drop j = ys → I j c0 → xo ys c0 body k := by
    intro ys
    induction ys with
    | nil =>
      intro j c0 hj e h
      have e2 : j = xs.length := Nat.le_antisymm hj (List.drop_eq_nil_iff.mp e)
      subst e2
      exact hk c0 h
    | cons x ys ih =>
      intro j c0 hj e h
      have hlt : j < xs.length := by
        refine Nat.lt_of_not_le fun z => ?_
        rw [List.drop_eq_nil_iff.mpr z] at e; cases e
      have e2 := List.drop_eq_getElem_cons hlt
      rw [e] at e2
      have ex : xs[j]? = some x := by rw [List.getElem?_eq_getElem hlt, ← (List.cons.inj e2).1]
      exact hs j x c0 _ ex h fun d0 h => ih (j + 1) d0 hlt (List.cons.inj e2).2.symm h
  exact key xs 0 a0 (Nat.zero_le _) rfl h0
def yn {A0 A1 : Type} (xs : List ι) (a0 : A0) (a1 : A1) (body : ι → A0 → A1 → (A0 → A1 → Prop) → Prop) (k : A0 → A1 → Prop) : Prop := match xs with
  | [] => k a0 a1
  | x :: xs => body x a0 a1 (fun b0 b1 => yn xs b0 b1 body k)
def zc3 {A0 A1 : Type} (a0 : A0) (a1 : A1) (K : A0 → A1 → Prop) : Prop := K a0 a1
def zj2 {A0 A1 : Type} (a0 : A0) (a1 : A1) (cond : A0 → A1 → (Bool → Prop) → Prop) (body : A0 → A1 → (A0 → A1 → Prop) → Prop) (k : A0 → A1 → Prop) : Prop := ∃ I : Nat → A0 → A1 → Prop, (∃ n, I n a0 a1) ∧ ∀ n (a0 : A0) (a1 : A1), I n a0 a1 → cond a0 a1 fun b => if b = true then body a0 a1 (fun b0 b1 => ∃ m, m < n ∧ I m b0 b1) else k a0 a1
theorem zde {A0 A1 : Type} {xs : List ι} {a0 : A0} {a1 : A1} {body : ι → A0 → A1 → (A0 → A1 → Prop) → Prop} {k : A0 → A1 → Prop} (I : Nat → A0 → A1 → Prop) (h0 : I 0 a0 a1) (hs : ∀ i x (a0 : A0) (a1 : A1) (nx : A0 → A1 → Prop), xs[i]? = some x → I i a0 a1 → (∀ b0 b1, I (i + 1) b0 b1 → nx b0 b1) → body x a0 a1 nx) (hk : ∀ b0 b1, I xs.length b0 b1 → k b0 b1) : yn xs a0 a1 body k := by
  have key : ∀ (ys : List ι) (j : Nat) (c0 : A0) (c1 : A1), j ≤ xs.length → xs.drop j = ys → I j c0 c1 → yn ys c0 c1 body k := by
    intro ys
    induction ys with
    | nil =>
      intro j c0 c1 hj e h
      have e2 : j = xs.length := Nat.le_antisymm hj (List.drop_eq_nil_iff.mp e)
      subst e2
      exact hk c0 c1 h
    | cons x ys ih =>
      intro j c0 c1 hj e h
      have hlt : j < xs.length := by
        refine Nat.lt_of_not_le fun z => ?_
        rw [List.drop_eq_nil_iff.mpr z] at e; cases e
      have e2 := List.drop_eq_getElem_cons hlt
      rw [e] at e2
      have ex : xs[j]? = some x := by rw [List.getElem?_eq_getElem hlt, ← (List.cons.inj e2).1]
      exact hs j x c0 c1 _ ex h fun d0 d1 h => ih (j + 1) d0 d1 hlt (List.cons.inj e2).2.symm h
  exact key xs 0 a0 a1 (Nat.zero_le _) rfl h0
def zbo {A0 A1 A2 : Type} (xs : List ι) (a0 : A0) (a1 : A1) (a2 : A2) (body : ι → A0 → A1 → A2 → (A0 → A1 → A2 → Prop) → Prop) (k : A0 → A1 → A2 → Prop) : Prop := match xs with
  | [] => k a0 a1 a2
  | x :: xs => body x a0 a1 a2 (fun b0 b1 b2 => zbo xs b0 b1 b2 body k)
def zpy {A0 A1 A2 : Type} (a0 : A0) (a1 : A1) (a2 : A2) (K : A0 → A1 → A2 → Prop) : Prop := K a0 a1 a2
def zea {A0 A1 A2 : Type} (a0 : A0) (a1 : A1) (a2 : A2) (cond : A0 → A1 → A2 → (Bool → Prop) → Prop) (body : A0 → A1 → A2 → (A0 → A1 → A2 → Prop) → Prop) (k : A0 → A1 → A2 → Prop) : Prop := ∃ I : Nat → A0 → A1 → A2 → Prop, (∃ n, I n a0 a1 a2) ∧ ∀ n (a0 : A0) (a1 : A1) (a2 : A2), I n a0 a1 a2 → cond a0 a1 a2 fun b => if b = true then body a0 a1 a2 (fun b0 b1 b2 => ∃ m, m < n ∧ I m b0 b1 b2) else k a0 a1 a2
theorem ziy {A0 A1 A2 : Type} {xs : List ι} {a0 : A0} {a1 : A1} {a2 : A2} {body : ι → A0 → A1 → A2 → (A0 → A1 → A2 → Prop) → Prop} {k : A0 → A1 → A2 → Prop} (I : Nat → A0 → A1 → A2 → Prop) (h0 : I 0 a0 a1 a2) (hs : ∀ i x (a0 : A0) (a1 : A1) (a2 : A2) (nx : A0 → A1 → A2 → Prop), xs[i]? = some x → I i a0 a1 a2 → (∀ b0 b1 b2, I (i + 1) b0 b1 b2 → nx b0 b1 b2) → body x a0 a1 a2 nx) (hk : ∀ b0 b1 b2, I xs.length b0 b1 b2 → k b0 b1 b2) : zbo xs a0 a1 a2 body k := by
  have key : ∀ (ys : List ι) (j : Nat) (c0 : A0) (c1 : A1) (c2 : A2), j ≤ xs.length → xs.drop j = ys → I j c0 c1 c2 → zbo ys c0 c1 c2 body k := by
    intro ys
    induction ys with
    | nil =>
      intro j c0 c1 c2 hj e h
      have e2 : j = xs.length := Nat.le_antisymm hj (List.drop_eq_nil_iff.mp e)
      subst e2
      exact hk c0 c1 c2 h
    | cons x ys ih =>
      intro j c0 c1 c2 hj e h
      have hlt : j < xs.length := by
        refine Nat.lt_of_not_le fun z => ?_
        rw [List.drop_eq_nil_iff.mpr z] at e; cases e
      have e2 := List.drop_eq_getElem_cons hlt
      rw [e] at e2
      have ex : xs[j]? = some x := by rw [List.getElem?_eq_getElem hlt, ← (List.cons.inj e2).1]
      exact hs j x c0 c1 c2 _ ex h fun d0 d1 d2 h => ih (j + 1) d0 d1 d2 hlt (List.cons.inj e2).2.symm h
  exact key xs 0 a0 a1 a2 (Nat.zero_le _) rfl h0
variable {te ta tb tk : DE} {to : DOw} {tc : DT} {tw : DV} {ts : DA} {tm : DM} {wi : DI} {g : DG} {t u rest : DS} {D' : DEnds} {δ δ1 δ2 : Dl} {e : α → D} {ei : ι → D} {m : (α → Prop) → Prop} {mc : (Bool → Prop) → Prop} {ms : (σ → Prop) → Prop} {K : α → Prop} {i : Nat}
theorem ziz (C : SE te δ δ1 m e) (h : m fun a => asgW a K) (hr : ∀ v, K v → D'.nx (δ1.set i (some (.fz (e v))))) : dAsg te (gN i) D' δ := C _ _ h hr
theorem zzz {eo : α → O} (C : SOw to δ δ1 m eo) (h : m fun a => asgW a K) (hr : ∀ v, K v → D'.nx (δ1.set i (some (.own (eo v))))) : yf i to D' δ := C _ _ h hr
theorem zz0 {eo : α → O} (C : SOw to δ δ1 m eo) (h : m fun a => asgW a K) (he : ∀ a, (eo a).d = e a) (hr : ∀ v, K v → D'.nx (δ1.set i (some (.fz (e v))))) : zjx i to D' δ := C _ _ h fun v hv => by
  rw [he]; exact hr v hv
theorem zam (C : SE te δ δ1 m e) (h : m fun a => retW a K) (hq : ∀ a, K a → D'.rt (.fz (e a))) : dRet te D' δ := C _ _ h hq
theorem za5 {eo : α → O} (C : SOw to δ δ1 m eo) (h : m fun a => retW a K) (hq : ∀ a, K a → D'.rt (.own (eo a))) : zcg to D' δ := C _ _ h hq
theorem zbz {o : O} (hs : δ[i]? = some (some (.own o))) (h : D'.rt (.own o)) : zbn i D' δ := by
  unfold zbn; rw [hs]; exact h
theorem za6 {A B : Prop} (C : ST tc δ δ1 mc) (h : mc fun b => ifW b A B) (ha : A → t D' δ1) (hb : B → u D' δ1) : dIfS tc t u D' δ := C _ _ h fun b hb' => by
  unfold ifW at hb'
  cases b with
  | true => rw [if_pos rfl] at hb' ⊢; exact ha hb'
  | false => rw [if_neg (by decide)] at hb' ⊢; exact hb hb'
theorem zz1 (C : SE te δ δ1 m e) (h : m fun a => asgW a K) (hr : ∀ v, K v → g (e v) δ1 D'.nx) : dAsg te g D' δ := C _ _ h hr
theorem z1x {xs : List α} (h1 : δ[i]? = some (some (.own (oL e xs)))) (C : SE te δ δ1 m e) (h2 : δ1[i]? = some (some (.own (oL e xs)))) {K : List α → Prop} (h : m fun a => appW xs a K) (hr : ∀ v, K v → D'.nx (δ1.set i (some (.own (oL e v))))) : dApp i te D' δ := by
  unfold dApp
  rw [h1]
  refine C _ _ h fun a ⟨ha, q⟩ => ?_
  rw [h2]
  refine ⟨by rw [List.length_map]; exact ha, ?_⟩
  have := hr _ q
  unfold oL at this
  rw [List.map_append] at this
  exact this
theorem zwd {j : Nat} {xs ys : List α} {mi : (Int → Prop) → Prop} (h1 : δ[i]? = some (some (.own (oL e xs)))) (h0 : δ[j]? = some (some (.own (oL e ys)))) (C : SE tk δ δ1 mi D.int) (h2 : δ1[i]? = some (some (.own (oL e xs)))) (h3 : ∀ o, (δ1.set i o)[j]? = some (some (.own (oL e ys)))) {K : List α → List α → Prop}
    (h : mi fun z => popW xs z fun x r => appW ys x (K r)) (hr : ∀ r v, K r v → D'.nx ((δ1.set i (some (.own (oL e r)))).set j (some (.own (oL e v))))) : dApp j (zf4 i tk) D' δ := by
  unfold dApp
  rw [h0]
  show zf4 i tk δ _
  unfold zf4
  rw [h1]
  refine C _ _ h fun z ⟨hz, k, x, hk, hx, ha, q⟩ => ?_
  rw [h2]
  refine ⟨z, k, e x, rfl, hz.1, hz.2, by rw [List.length_map]; exact hk, by rw [List.getElem?_map, hx]; rfl, ?_⟩
  show (match (List.set δ1 i (some (S.own (O.lst ((List.map e xs).eraseIdx k)))))[j]? with | some (some (S.own (O.lst ds))) => ds.length < sizeLine ∧ D'.nx (List.set (List.set δ1 i (some (S.own (O.lst ((List.map e xs).eraseIdx k))))) j (some (S.own (O.lst (ds ++ [e x]))))) | _ => False)
  rw [h3]
  refine ⟨by rw [List.length_map]; exact ha, ?_⟩
  have := hr _ _ q
  unfold oL at this
  rw [List.map_append] at this
  rw [zix] at this
  exact this
theorem zeb [DecidableEq κ] {f : κ → Key} [Inj f] {ek : κ → D} {xs : List (κ × α)} {mk : (κ → Prop) → Prop} {K : List (κ × α) → Prop} (hk : ∀ x, dkey (ek x) = some (f x)) (C : SE te δ δ1 m e) (B : SE tk δ1 δ2 mk ek) (h1 : δ1[i]? = some (some (.own (oK f e xs)))) (h2 : δ2[i]? = some (some (.own (oK f e xs))))
    (h : m fun v => mk fun x => putW xs x v K) (hr : ∀ v, K v → D'.nx (δ2.set i (some (.own (oK f e v))))) : dAsg te (gSet i tk) D' δ := C _ _ h fun v hv => by
  refine ⟨⟨_, h1⟩, B _ _ hv fun x ⟨hl, q⟩ => ?_⟩
  rw [h2]
  refine ⟨f x, hk x, by rw [za3]; exact hl, ?_⟩
  rw [zcb]
  exact hr _ q
theorem zqz [DecidableEq κ] {f : κ → List Key} [Inj f] {ek : κ → D} {xs : List (κ × α)} {mk : (κ → Prop) → Prop} {K : List (κ × α) → Prop} (hk : ∀ x, tkey (ek x) = some (f x)) (C : SE te δ δ1 m e) (B : SE tk δ1 δ2 mk ek) (h1 : δ1[i]? = some (some (.own (oDT f e xs)))) (h2 : δ2[i]? = some (some (.own (oDT f e xs))))
    (h : m fun v => mk fun x => putW xs x v K) (hr : ∀ v, K v → D'.nx (δ2.set i (some (.own (oDT f e v))))) : dAsg te (gSet i tk) D' δ := C _ _ h fun v hv => by
  refine ⟨⟨_, h1⟩, B _ _ hv fun x ⟨hl, q⟩ => ?_⟩
  rw [h2]
  refine ⟨f x, hk x, by rw [za3]; exact hl, ?_⟩
  rw [zcb]
  exact hr _ q
theorem zwe {f : Int → Int → Int} {x : Int} {mi : (Int → Prop) → Prop} {K : Int → Prop} (h0 : δ[i]? = some (some (.fz (.int x)))) (C : SE te δ δ1 mi D.int) (h : mi fun y => asgW (f x y) K) (hr : ∀ v, K v → D'.nx (δ1.set i (some (.fz (.int v))))) : dAug i f te D' δ := by
  unfold dAug
  rw [h0]
  exact C _ _ h fun y hy => ⟨y, rfl, hr _ hy⟩
theorem zx3  {K : Prop} {Bd : (Prop) → Prop} (env : J → Dl) (h : zuv K Bd) (hr : ∀ j, K → rest D' (env j)) (hb : ∀ K' : Prop, (∀ j, K' → rest D' (env j)) → Bd K' → t { D' with nx := rest D' } δ) : dSeq t rest D' δ := hb K hr h
theorem zz2 {tb : DS} {mi : (List ι → Prop) → Prop}  {body : ι → (Prop) → Prop} {K : Prop} (env : J → Dl) (j0 : J) (C : SI wi δ (env j0) mi ei) (h : mi fun xs => zfa xs body K)
    (hb : ∀ (N : Dl → Prop) x j (nx : Prop), (∀ j, nx → N (env j)) → body x nx → g (ei x) (env j) fun δ3 => tb { D' with nx := N, ct := N, bk := D'.nx } δ3) (hk : ∀ j, K → D'.nx (env j)) : dFor wi g tb D' δ := C _ _ h fun xs hx => by
  refine ⟨fun i δ' => ∃ j, δ' = env j ∧ zfa (xs.drop i) body K, ⟨j0, rfl, hx⟩, ?_, ?_⟩
  · rintro i d _ hd ⟨j, rfl, q⟩
    rw [List.getElem?_map] at hd
    cases hy : xs[i]? with
    | none => rw [hy] at hd; cases hd
    | some x =>
      rw [hy] at hd
      cases hd
      have hlt := (List.getElem?_eq_some_iff.mp hy).1
      have e2 := List.drop_eq_getElem_cons hlt
      rw [(List.getElem?_eq_some_iff.mp hy).2] at e2
      rw [e2] at q
      exact hb _ x j _ (fun j q => ⟨_, rfl, q⟩) q
  · rintro _ ⟨j, rfl, q⟩
    rw [List.length_map, List.drop_length] at q
    exact hk j q
theorem zkn {A0 : Type}  {K : A0 → Prop} {Bd : (A0 → Prop) → Prop} (env : A0 → J → Dl) (h : zd3 K Bd) (hr : ∀ a0 j, K a0 → rest D' (env a0 j)) (hb : ∀ K' : A0 → Prop, (∀ a0 j, K' a0 → rest D' (env a0 j)) → Bd K' → t { D' with nx := rest D' } δ) : dSeq t rest D' δ := hb K hr h
theorem ztn {A0 : Type} {tb : DS} {mi : (List ι → Prop) → Prop} {a0 : A0} {body : ι → A0 → (A0 → Prop) → Prop} {K : A0 → Prop} (env : A0 → J → Dl) (j0 : J) (C : SI wi δ (env a0 j0) mi ei) (h : mi fun xs => xo xs a0 body K)
    (hb : ∀ (N : Dl → Prop) x a0 j (nx : A0 → Prop), (∀ a0 j, nx a0 → N (env a0 j)) → body x a0 nx → g (ei x) (env a0 j) fun δ3 => tb { D' with nx := N, ct := N, bk := D'.nx } δ3) (hk : ∀ a0 j, K a0 → D'.nx (env a0 j)) : dFor wi g tb D' δ := C _ _ h fun xs hx => by
  refine ⟨fun i δ' => ∃ a0 j, δ' = env a0 j ∧ xo (xs.drop i) a0 body K, ⟨_, j0, rfl, hx⟩, ?_, ?_⟩
  · rintro i d _ hd ⟨a0, j, rfl, q⟩
    rw [List.getElem?_map] at hd
    cases hy : xs[i]? with
    | none => rw [hy] at hd; cases hd
    | some x =>
      rw [hy] at hd
      cases hd
      have hlt := (List.getElem?_eq_some_iff.mp hy).1
      have e2 := List.drop_eq_getElem_cons hlt
      rw [(List.getElem?_eq_some_iff.mp hy).2] at e2
      rw [e2] at q
      exact hb _ x a0 j _ (fun b0 j q => ⟨_, _, rfl, q⟩) q
  · rintro _ ⟨a0, j, rfl, q⟩
    rw [List.length_map, List.drop_length] at q
    exact hk a0 j q
theorem zz3 {A0 A1 : Type} {K : A0 → A1 → Prop} {ms : (A0 × A1 × Unit → Prop) → Prop} {is : List Nat} {es : A0 × A1 × Unit → List S} (C : SM tm δ δ1 ms es) (h : ms fun s => zc3 s.1 s.2.1 K) (hl : ∀ s, (es s).length = is.length) (hr : ∀ a0 a1, K a0 a1 → D'.nx (zc8 δ1 is (es (a0, a1, ())))) : dPar is tm D' δ := C _ _ h fun s hs => ⟨hl s, hr _ _ hs⟩
theorem zto {A0 A1 : Type} {tb : DS} {mi : (List ι → Prop) → Prop} {a0 : A0} {a1 : A1} {body : ι → A0 → A1 → (A0 → A1 → Prop) → Prop} {K : A0 → A1 → Prop} (env : A0 → A1 → J → Dl) (j0 : J) (C : SI wi δ (env a0 a1 j0) mi ei) (h : mi fun xs => yn xs a0 a1 body K)
    (hb : ∀ (N : Dl → Prop) x a0 a1 j (nx : A0 → A1 → Prop), (∀ a0 a1 j, nx a0 a1 → N (env a0 a1 j)) → body x a0 a1 nx → g (ei x) (env a0 a1 j) fun δ3 => tb { D' with nx := N, ct := N, bk := D'.nx } δ3) (hk : ∀ a0 a1 j, K a0 a1 → D'.nx (env a0 a1 j)) : dFor wi g tb D' δ := C _ _ h fun xs hx => by
  refine ⟨fun i δ' => ∃ a0 a1 j, δ' = env a0 a1 j ∧ yn (xs.drop i) a0 a1 body K, ⟨_, _, j0, rfl, hx⟩, ?_, ?_⟩
  · rintro i d _ hd ⟨a0, a1, j, rfl, q⟩
    rw [List.getElem?_map] at hd
    cases hy : xs[i]? with
    | none => rw [hy] at hd; cases hd
    | some x =>
      rw [hy] at hd
      cases hd
      have hlt := (List.getElem?_eq_some_iff.mp hy).1
      have e2 := List.drop_eq_getElem_cons hlt
      rw [(List.getElem?_eq_some_iff.mp hy).2] at e2
      rw [e2] at q
      exact hb _ x a0 a1 j _ (fun b0 b1 j q => ⟨_, _, _, rfl, q⟩) q
  · rintro _ ⟨a0, a1, j, rfl, q⟩
    rw [List.length_map, List.drop_length] at q
    exact hk a0 a1 j q
theorem zwf {A0 A1 : Type} {tb : DS} {a0 : A0} {a1 : A1} {cond : A0 → A1 → (Bool → Prop) → Prop} {body : A0 → A1 → (A0 → A1 → Prop) → Prop} {K : A0 → A1 → Prop} (env : A0 → A1 → J → Dl) (j0 : J) (h0 : δ = env a0 a1 j0) (h : zj2 a0 a1 cond body K)
    (hc : ∀ a0 a1 j, ST tc (env a0 a1 j) (env a0 a1 j) (cond a0 a1)) (hb : ∀ (N : Dl → Prop) a0 a1 j (nx : A0 → A1 → Prop), (∀ a0 a1 j, nx a0 a1 → N (env a0 a1 j)) → body a0 a1 nx → tb { D' with nx := N, ct := N, bk := D'.nx } (env a0 a1 j)) (hk : ∀ a0 a1 j, K a0 a1 → D'.nx (env a0 a1 j)) : zc5 tc tb D' δ := by
  obtain ⟨I, ⟨n0, i0⟩, hi⟩ := h
  refine ⟨fun m δ' => ∃ a0 a1 j, δ' = env a0 a1 j ∧ I m a0 a1, ⟨n0, _, _, j0, h0, i0⟩, ?_⟩
  rintro m _ ⟨a0, a1, j, rfl, q⟩
  refine hc a0 a1 j _ _ (hi m a0 a1 q) fun b hb' => ?_
  cases b with
  | true =>
    rw [if_pos rfl] at hb' ⊢
    exact hb _ a0 a1 j _ (fun b0 b1 j ⟨m', hm, q⟩ => ⟨m', hm, _, _, _, rfl, q⟩) hb'
  | false =>
    rw [if_neg (by decide)] at hb' ⊢
    exact hk a0 a1 j hb'
theorem zz4 {A0 A1 A2 : Type} {K : A0 → A1 → A2 → Prop} {ms : (A0 × A1 × A2 × Unit → Prop) → Prop} {is : List Nat} {es : A0 × A1 × A2 × Unit → List S} (C : SM tm δ δ1 ms es) (h : ms fun s => zpy s.1 s.2.1 s.2.2.1 K) (hl : ∀ s, (es s).length = is.length) (hr : ∀ a0 a1 a2, K a0 a1 a2 → D'.nx (zc8 δ1 is (es (a0, a1, a2, ())))) : dPar is tm D' δ := C _ _ h fun s hs => ⟨hl s, hr _ _ _ hs⟩
theorem zmx {A0 A1 A2 : Type} {tb : DS} {mi : (List ι → Prop) → Prop} {a0 : A0} {a1 : A1} {a2 : A2} {body : ι → A0 → A1 → A2 → (A0 → A1 → A2 → Prop) → Prop} {K : A0 → A1 → A2 → Prop} (env : A0 → A1 → A2 → J → Dl) (j0 : J) (C : SI wi δ (env a0 a1 a2 j0) mi ei) (h : mi fun xs => zbo xs a0 a1 a2 body K)
    (hb : ∀ (N : Dl → Prop) x a0 a1 a2 j (nx : A0 → A1 → A2 → Prop), (∀ a0 a1 a2 j, nx a0 a1 a2 → N (env a0 a1 a2 j)) → body x a0 a1 a2 nx → g (ei x) (env a0 a1 a2 j) fun δ3 => tb { D' with nx := N, ct := N, bk := D'.nx } δ3) (hk : ∀ a0 a1 a2 j, K a0 a1 a2 → D'.nx (env a0 a1 a2 j)) : dFor wi g tb D' δ := C _ _ h fun xs hx => by
  refine ⟨fun i δ' => ∃ a0 a1 a2 j, δ' = env a0 a1 a2 j ∧ zbo (xs.drop i) a0 a1 a2 body K, ⟨_, _, _, j0, rfl, hx⟩, ?_, ?_⟩
  · rintro i d _ hd ⟨a0, a1, a2, j, rfl, q⟩
    rw [List.getElem?_map] at hd
    cases hy : xs[i]? with
    | none => rw [hy] at hd; cases hd
    | some x =>
      rw [hy] at hd
      cases hd
      have hlt := (List.getElem?_eq_some_iff.mp hy).1
      have e2 := List.drop_eq_getElem_cons hlt
      rw [(List.getElem?_eq_some_iff.mp hy).2] at e2
      rw [e2] at q
      exact hb _ x a0 a1 a2 j _ (fun b0 b1 b2 j q => ⟨_, _, _, _, rfl, q⟩) q
  · rintro _ ⟨a0, a1, a2, j, rfl, q⟩
    rw [List.length_map, List.drop_length] at q
    exact hk a0 a1 a2 j q
theorem zwg {A0 A1 A2 : Type} {tb : DS} {a0 : A0} {a1 : A1} {a2 : A2} {cond : A0 → A1 → A2 → (Bool → Prop) → Prop} {body : A0 → A1 → A2 → (A0 → A1 → A2 → Prop) → Prop} {K : A0 → A1 → A2 → Prop} (env : A0 → A1 → A2 → J → Dl) (j0 : J) (h0 : δ = env a0 a1 a2 j0) (h : zea a0 a1 a2 cond body K)
    (hc : ∀ a0 a1 a2 j, ST tc (env a0 a1 a2 j) (env a0 a1 a2 j) (cond a0 a1 a2)) (hb : ∀ (N : Dl → Prop) a0 a1 a2 j (nx : A0 → A1 → A2 → Prop), (∀ a0 a1 a2 j, nx a0 a1 a2 → N (env a0 a1 a2 j)) → body a0 a1 a2 nx → tb { D' with nx := N, ct := N, bk := D'.nx } (env a0 a1 a2 j)) (hk : ∀ a0 a1 a2 j, K a0 a1 a2 → D'.nx (env a0 a1 a2 j)) : zc5 tc tb D' δ := by
  obtain ⟨I, ⟨n0, i0⟩, hi⟩ := h
  refine ⟨fun m δ' => ∃ a0 a1 a2 j, δ' = env a0 a1 a2 j ∧ I m a0 a1 a2, ⟨n0, _, _, _, j0, h0, i0⟩, ?_⟩
  rintro m _ ⟨a0, a1, a2, j, rfl, q⟩
  refine hc a0 a1 a2 j _ _ (hi m a0 a1 a2 q) fun b hb' => ?_
  cases b with
  | true =>
    rw [if_pos rfl] at hb' ⊢
    exact hb _ a0 a1 a2 j _ (fun b0 b1 b2 j ⟨m', hm, q⟩ => ⟨m', hm, _, _, _, _, rfl, q⟩) hb'
  | false =>
    rw [if_neg (by decide)] at hb' ⊢
    exact hk a0 a1 a2 j hb'
theorem zq0 (h : rest D' δ) : uf { D' with nx := rest D' } δ := h
theorem zlt (h : rest D' δ) : DEnds.nx { D' with nx := rest D' } δ := h
theorem xj {d : D} {F : Dl → Prop} (h : F (δ.set i (some (.fz d)))) : gN i d δ F := h
theorem qe (C : SE te δ δ1 m e) (h : m fun a => asgW a K) (hr : ∀ v, K v → (rest D') (δ1.set i (some (.fz (e v))))) : dSeq (dAsg te (gN i)) rest D' δ := ziz (D' := { D' with nx := rest D' }) C h hr
theorem v6 {eo : α → O} (C : SOw to δ δ1 m eo) (h : m fun a => asgW a K) (hr : ∀ v, K v → (rest D') (δ1.set i (some (.own (eo v))))) : dSeq (yf i to) rest D' δ := zzz (D' := { D' with nx := rest D' }) C h hr
theorem zq1 {eo : α → O} (C : SOw to δ δ1 m eo) (h : m fun a => asgW a K) (he : ∀ a, (eo a).d = e a) (hr : ∀ v, K v → (rest D') (δ1.set i (some (.fz (e v))))) : dSeq (zjx i to) rest D' δ := zz0 (D' := { D' with nx := rest D' }) C h he hr
theorem zwh {A B : Prop} (C : ST tc δ δ1 mc) (h : mc fun b => ifW b A B) (ha : A → t { D' with nx := rest D' } δ1) (hb : B → u { D' with nx := rest D' } δ1) : dSeq (dIfS tc t u) rest D' δ := za6 (D' := { D' with nx := rest D' }) C h ha hb
theorem zg6 (C : SE te δ δ1 m e) (h : m fun a => asgW a K) (hr : ∀ v, K v → g (e v) δ1 (rest D')) : dSeq (dAsg te g) rest D' δ := zz1 (D' := { D' with nx := rest D' }) C h hr
theorem zg7 [DecidableEq κ] {f : κ → Key} [Inj f] {ek : κ → D} {xs : List (κ × α)} {mk : (κ → Prop) → Prop} {K : List (κ × α) → Prop} (hk : ∀ x, dkey (ek x) = some (f x)) (C : SE te δ δ1 m e) (B : SE tk δ1 δ2 mk ek) (h1 : δ1[i]? = some (some (.own (oK f e xs)))) (h2 : δ2[i]? = some (some (.own (oK f e xs)))) (h : m fun v => mk fun x => putW xs x v K) (hr : ∀ v, K v → (rest D') (δ2.set i (some (.own (oK f e v))))) : dSeq (dAsg te (gSet i tk)) rest D' δ := zeb (D' := { D' with nx := rest D' }) hk C B h1 h2 h hr
theorem zx4 {tb : DS} {mi : (List ι → Prop) → Prop} {body : ι → (Prop) → Prop} {K : Prop} (env : J → Dl) (j0 : J) (C : SI wi δ (env j0) mi ei) (h : mi fun xs => zfa xs body K) (hb : ∀ (N : Dl → Prop) x j (nx : Prop), (∀ j, nx → N (env j)) → body x nx → g (ei x) (env j) fun δ3 => tb { D' with nx := N, ct := N, bk := rest D' } δ3) (hk : ∀ j, K → (rest D') (env j)) : dSeq (dFor wi g tb) rest D' δ := zz2 (D' := { D' with nx := rest D' }) env j0 C h hb hk
theorem zb0 {A0 : Type} {tb : DS} {mi : (List ι → Prop) → Prop} {a0 : A0} {body : ι → A0 → (A0 → Prop) → Prop} {K : A0 → Prop} (env : A0 → J → Dl) (j0 : J) (C : SI wi δ (env a0 j0) mi ei) (h : mi fun xs => xo xs a0 body K) (hb : ∀ (N : Dl → Prop) x a0 j (nx : A0 → Prop), (∀ a0 j, nx a0 → N (env a0 j)) → body x a0 nx → g (ei x) (env a0 j) fun δ3 => tb { D' with nx := N, ct := N, bk := rest D' } δ3) (hk : ∀ a0 j, K a0 → (rest D') (env a0 j)) : dSeq (dFor wi g tb) rest D' δ := ztn (D' := { D' with nx := rest D' }) env j0 C h hb hk
theorem zg8 {A0 A1 : Type} {K : A0 → A1 → Prop} {ms : (A0 × A1 × Unit → Prop) → Prop} {is : List Nat} {es : A0 × A1 × Unit → List S} (C : SM tm δ δ1 ms es) (h : ms fun s => zc3 s.1 s.2.1 K) (hl : ∀ s, (es s).length = is.length) (hr : ∀ a0 a1, K a0 a1 → (rest D') (zc8 δ1 is (es (a0, a1, ())))) : dSeq (dPar is tm) rest D' δ := zz3 (D' := { D' with nx := rest D' }) C h hl hr
theorem zg9 {A0 A1 : Type} {tb : DS} {mi : (List ι → Prop) → Prop} {a0 : A0} {a1 : A1} {body : ι → A0 → A1 → (A0 → A1 → Prop) → Prop} {K : A0 → A1 → Prop} (env : A0 → A1 → J → Dl) (j0 : J) (C : SI wi δ (env a0 a1 j0) mi ei) (h : mi fun xs => yn xs a0 a1 body K) (hb : ∀ (N : Dl → Prop) x a0 a1 j (nx : A0 → A1 → Prop), (∀ a0 a1 j, nx a0 a1 → N (env a0 a1 j)) → body x a0 a1 nx → g (ei x) (env a0 a1 j) fun δ3 => tb { D' with nx := N, ct := N, bk := rest D' } δ3) (hk : ∀ a0 a1 j, K a0 a1 → (rest D') (env a0 a1 j)) : dSeq (dFor wi g tb) rest D' δ := zto (D' := { D' with nx := rest D' }) env j0 C h hb hk
theorem zuw {A0 A1 : Type} {tb : DS} {a0 : A0} {a1 : A1} {cond : A0 → A1 → (Bool → Prop) → Prop} {body : A0 → A1 → (A0 → A1 → Prop) → Prop} {K : A0 → A1 → Prop} (env : A0 → A1 → J → Dl) (j0 : J) (h0 : δ = env a0 a1 j0) (h : zj2 a0 a1 cond body K) (hc : ∀ a0 a1 j, ST tc (env a0 a1 j) (env a0 a1 j) (cond a0 a1)) (hb : ∀ (N : Dl → Prop) a0 a1 j (nx : A0 → A1 → Prop), (∀ a0 a1 j, nx a0 a1 → N (env a0 a1 j)) → body a0 a1 nx → tb { D' with nx := N, ct := N, bk := rest D' } (env a0 a1 j)) (hk : ∀ a0 a1 j, K a0 a1 → (rest D') (env a0 a1 j)) : dSeq (zc5 tc tb) rest D' δ := zwf (D' := { D' with nx := rest D' }) env j0 h0 h hc hb hk
theorem zx5 {A0 A1 A2 : Type} {K : A0 → A1 → A2 → Prop} {ms : (A0 × A1 × A2 × Unit → Prop) → Prop} {is : List Nat} {es : A0 × A1 × A2 × Unit → List S} (C : SM tm δ δ1 ms es) (h : ms fun s => zpy s.1 s.2.1 s.2.2.1 K) (hl : ∀ s, (es s).length = is.length) (hr : ∀ a0 a1 a2, K a0 a1 a2 → (rest D') (zc8 δ1 is (es (a0, a1, a2, ())))) : dSeq (dPar is tm) rest D' δ := zz4 (D' := { D' with nx := rest D' }) C h hl hr
theorem zx6 {A0 A1 A2 : Type} {tb : DS} {mi : (List ι → Prop) → Prop} {a0 : A0} {a1 : A1} {a2 : A2} {body : ι → A0 → A1 → A2 → (A0 → A1 → A2 → Prop) → Prop} {K : A0 → A1 → A2 → Prop} (env : A0 → A1 → A2 → J → Dl) (j0 : J) (C : SI wi δ (env a0 a1 a2 j0) mi ei) (h : mi fun xs => zbo xs a0 a1 a2 body K) (hb : ∀ (N : Dl → Prop) x a0 a1 a2 j (nx : A0 → A1 → A2 → Prop), (∀ a0 a1 a2 j, nx a0 a1 a2 → N (env a0 a1 a2 j)) → body x a0 a1 a2 nx → g (ei x) (env a0 a1 a2 j) fun δ3 => tb { D' with nx := N, ct := N, bk := rest D' } δ3) (hk : ∀ a0 a1 a2 j, K a0 a1 a2 → (rest D') (env a0 a1 a2 j)) : dSeq (dFor wi g tb) rest D' δ := zmx (D' := { D' with nx := rest D' }) env j0 C h hb hk
theorem zlu {A0 A1 A2 : Type} {tb : DS} {a0 : A0} {a1 : A1} {a2 : A2} {cond : A0 → A1 → A2 → (Bool → Prop) → Prop} {body : A0 → A1 → A2 → (A0 → A1 → A2 → Prop) → Prop} {K : A0 → A1 → A2 → Prop} (env : A0 → A1 → A2 → J → Dl) (j0 : J) (h0 : δ = env a0 a1 a2 j0) (h : zea a0 a1 a2 cond body K) (hc : ∀ a0 a1 a2 j, ST tc (env a0 a1 a2 j) (env a0 a1 a2 j) (cond a0 a1 a2)) (hb : ∀ (N : Dl → Prop) a0 a1 a2 j (nx : A0 → A1 → A2 → Prop), (∀ a0 a1 a2 j, nx a0 a1 a2 → N (env a0 a1 a2 j)) → body a0 a1 a2 nx → tb { D' with nx := N, ct := N, bk := rest D' } (env a0 a1 a2 j)) (hk : ∀ a0 a1 a2 j, K a0 a1 a2 → (rest D') (env a0 a1 a2 j)) : dSeq (zc5 tc tb) rest D' δ := zwg (D' := { D' with nx := rest D' }) env j0 h0 h hc hb hk
end
end Mv
namespace Mv
open PySem PySem.Spec PyProof.Rows L2
section
variable {α β γ ι σ ρ κ : Type} {e : α → D} {eb : β → D} {ei : ι → D} {te ta tb tk tv tx : DE} {to : DOw} {tt : DT} {tw : DV} {ts : DA} {wi : DI} {g : DG} {δ δ0 δ1 δ2 δ3 δ4 δ5 δh : Dl} {m ma : (α → Prop) → Prop} {mi : (List ι → Prop) → Prop} {mc : (Bool → Prop) → Prop} {vs : List Nat}
def zan (lo hi : Int) (k : List Int → Prop) : Prop := zx (-(2 ^ 62) ≤ lo ∧ lo < 2 ^ 62 ∧ -(2 ^ 62) ≤ hi ∧ hi < 2 ^ 62) (k (yr lo hi))
theorem zmy (lo hi : Int) : rngD lo hi = (yr lo hi).map D.int := by unfold rngD yr; rw [List.map_map]; rfl
theorem zz5 (xs : List α) : ((List.range (xs.map e).length).zip (xs.map e) |>.map fun ix => D.tup [.int (ix.1 : Nat), ix.2]) = (q8 xs).map (eP2 D.int e) := by
  unfold q8
  rw [List.map_map]
  apply List.ext_getElem
  · simp
  · intro i h1 h2
    simp [eP2]
theorem si_L {m : (List ι → Prop) → Prop} (C : SE te δ δ1 m (eL ei)) : SI (dIL te) δ δ1 m ei := fun K Q h c => C _ _ h c
theorem si_T {m : (List ι → Prop) → Prop} (C : SE te δ δ1 m (eT ei)) : SI (dIT te) δ δ1 m ei := fun K Q h c => C _ _ h fun xs hx => ⟨_, rfl, c xs hx⟩
theorem zpz {m : (Int × Unit → Prop) → Prop} (C : SA ts δ δ1 m fun p => [D.int p.1]) : SI (dIR1 ts) δ δ1 (fun k => m fun s => zan 0 s.1 k) D.int := fun K Q h c => C _ _ h fun s ⟨hs, q⟩ => ⟨s.1, rfl, hs.2.2, by rw [zmy]; exact c _ q⟩
theorem z2x {m : (Int × Int × Unit → Prop) → Prop} (C : SA ts δ δ1 m fun p => [D.int p.1, D.int p.2.1]) : SI (dIR2 ts) δ δ1 (fun k => m fun s => zan s.1 s.2.1 k) D.int := fun K Q h c => C _ _ h fun s ⟨hs, q⟩ => ⟨s.1, s.2.1, rfl, hs, by rw [zmy]; exact c _ q⟩
theorem zux {m : (List ι × Unit → Prop) → Prop} (C : SA ts δ δ1 m fun p => [eL ei p.1]) : SI (dIEn ts) δ δ1 (fun k => m fun s => k (q8 s.1)) (eP2 D.int ei) := fun K Q h c => C _ _ h fun s hs => ⟨_, rfl, by rw [zz5]; exact c _ hs⟩
theorem zyt {m : (List (κ × α) → Prop) → Prop} {f : κ → Key} {ek : κ → D} (hk : ∀ x, keyD (f x) = ek x) (C : SE te δ δ1 m (eK f e)) : SI (dIKs te) δ δ1 (fun k => m fun t => k (za t)) ek := fun K Q h c => C _ _ h fun t ht => by
  have e1 : ((tyG f e t).map fun kv => keyD kv.1) = (za t).map ek := by
    unfold tyG za; rw [List.map_map, List.map_map]; exact List.map_congr_left fun q _ => hk q.1
  show Q δ1 ((tyG f e t).map fun kv => keyD kv.1)
  rw [e1]; exact c _ ht
theorem zi0 {m : (List (κ × α) → Prop) → Prop} {f : κ → List Key} {ek : κ → D} (hk : ∀ x, D.tup ((f x).map keyD) = ek x) (C : SE te δ δ1 m (eDT f e)) : SI (dIKs te) δ δ1 (fun k => m fun t => k (za t)) ek := fun K Q h c => C _ _ h fun t ht => by
  have e1 : ((tyG f e t).map fun kv => D.tup (kv.1.map keyD)) = (za t).map ek := by
    unfold tyG za; rw [List.map_map, List.map_map]; exact List.map_congr_left fun q _ => hk q.1
  show Q δ1 ((tyG f e t).map fun kv => D.tup (kv.1.map keyD))
  rw [e1]; exact c _ ht
theorem zha {m : (List (κ × α) → Prop) → Prop} {f : κ → Key} {ek : κ → D} (hk : ∀ x, keyD (f x) = ek x) (C : SE te δ δ1 m (eK f e)) : SI (dIIt te) δ δ1 m (eP2 ek e) := fun K Q h c => C _ _ h fun t ht => ⟨_, rfl, by
  have e1 : ((tyG f e t).map fun kv => D.tup [keyD kv.1, kv.2]) = t.map (eP2 ek e) := by
    unfold tyG; rw [List.map_map]; exact List.map_congr_left fun q _ => by show D.tup [keyD (f q.1), e q.2] = _; rw [hk]; rfl
  rw [e1]; exact c _ ht⟩
def lcW (xs : List ι) (body : ι → (Option α → Prop) → Prop) (k : List α → Prop) : Prop := zx (xs.length ≤ sizeLine) (xo xs [] (fun x acc nx => body x fun o => nx (acc ++ o.toList)) k)
def LcB (g : DG) (tt : DT) (te : DE) (vs : List Nat) (δh : Dl) (ei : ι → D) (e : α → D) (body : ι → (Option α → Prop) → Prop) : Prop := ∀ x (K : Option α → Prop) (J1 : Dl → D → Prop) (J0 : Dl → Prop), body x K → (∀ a, K (some a) → J1 δh (e a)) → (K none → J0 δh) →
  g (ei x) δh fun δ3 => tt δ3 fun δ4 b => if b = true then te δ4 fun δ5 y => J1 (zu δ5 vs) y else J0 (zu δ4 vs)
theorem lc_core {body : ι → (Option α → Prop) → Prop} {K : List α → Prop} {Q : Dl → O → Prop} {xs : List ι} (h0 : zu δ1 vs = δh) (hb : LcB g tt te vs δh ei e body) (hr : za2 δ1 (zu δh vs) vs = δ2) (h : lcW xs body K) (c : ∀ a, K a → Q δ2 (oL e a)) :
    (xs.map ei).length ≤ sizeLine ∧ ∃ I : Nat → Dl → List D → Prop, I 0 (zu δ1 vs) [] ∧
  (∀ i d δ2 acc, (xs.map ei)[i]? = some d → I i δ2 acc → g d δ2 fun δ3 => tt δ3 fun δ4 b => if b = true then te δ4 fun δ5 y => I (i + 1) (zu δ5 vs) (acc ++ [y]) else I (i + 1) (zu δ4 vs) acc) ∧
  ∀ δ2 acc, I (xs.map ei).length δ2 acc → Q (za2 δ1 (zu δ2 vs) vs) (.lst acc) := by
  refine ⟨by rw [List.length_map]; exact h.1, fun i δ' acc => δ' = δh ∧ ∃ as : List α, acc = as.map e ∧ xo (xs.drop i) as (fun x acc nx => body x fun o => nx (acc ++ o.toList)) K, ⟨h0, [], rfl, h.2⟩, ?_, ?_⟩
  · rintro i d _ acc hd ⟨rfl, as, rfl, q⟩
    rw [List.getElem?_map] at hd
    cases hy : xs[i]? with
    | none => rw [hy] at hd; cases hd
    | some x =>
      rw [hy] at hd
      cases hd
      have hlt := (List.getElem?_eq_some_iff.mp hy).1
      have e2 := List.drop_eq_getElem_cons hlt
      rw [(List.getElem?_eq_some_iff.mp hy).2] at e2
      rw [e2] at q
      refine hb x _ (fun δ' y => δ' = _ ∧ ∃ as' : List α, as.map e ++ [y] = as'.map e ∧ xo (xs.drop (i + 1)) as' (fun x acc nx => body x fun o => nx (acc ++ o.toList)) K) (fun δ' => δ' = _ ∧ ∃ as' : List α, as.map e = as'.map e ∧ xo (xs.drop (i + 1)) as' (fun x acc nx => body x fun o => nx (acc ++ o.toList)) K) q (fun a ha => ⟨rfl, as ++ [a], by simp, ha⟩) (fun hn => ⟨rfl, as, rfl, by simpa using hn⟩)
  · rintro _ acc ⟨rfl, as, rfl, q⟩
    rw [List.length_map, List.drop_length] at q
    rw [hr]; exact c as q
theorem zhb {body : ι → (Option α → Prop) → Prop} (C : SI wi δ δ1 mi ei) (h0 : zu δ1 vs = δh) (hb : LcB g tt te vs δh ei e body) (hr : za2 δ1 (zu δh vs) vs = δ2) : SOw (dLc wi g tt te vs) δ δ2 (fun k => mi fun xs => lcW xs body k) (oL e) :=
  fun K Q h c => C _ _ h fun xs hx => lc_core h0 hb hr hx c
theorem ztp {A B : Prop} {J1 : Dl → D → Prop} {J0 : Dl → Prop} (T : ST tt δ3 δ4 mc) (h : mc fun b => ifW b A B) (ha : A → te δ4 fun δ5 y => J1 (zu δ5 vs) y) (hb : B → J0 (zu δ4 vs)) : tt δ3 fun δ4 b => if b = true then te δ4 fun δ5 y => J1 (zu δ5 vs) y else J0 (zu δ4 vs) := T _ _ h fun b hb' => by
  unfold ifW at hb'
  cases b with
  | true => rw [if_pos rfl] at hb' ⊢; exact ha hb'
  | false => rw [if_neg (by decide)] at hb' ⊢; exact hb hb'
theorem zi1 {J1 : Dl → D → Prop} {J0 : Dl → Prop} (h : te δ3 fun δ5 y => J1 (zu δ5 vs) y) : dYes δ3 fun δ4 b => if b = true then te δ4 fun δ5 y => J1 (zu δ5 vs) y else J0 (zu δ4 vs) := by
  unfold dYes
  simpa using h
theorem zen {K : Option α → Prop} {J1 : Dl → D → Prop} (C : SE te δ4 δ5 m e) (h : m fun a => K (some a)) (h1 : ∀ a, K (some a) → J1 δh (e a)) (hw : zu δ5 vs = δh) : te δ4 fun δ5 y => J1 (zu δ5 vs) y := C _ _ h fun a ha => by
  rw [hw]; exact h1 a ha
theorem zyu {K : Prop} {J0 : Dl → Prop} (h : K) (h0 : K → J0 δh) (hw : zu δ4 vs = δh) : J0 (zu δ4 vs) := by rw [hw]; exact h0 h
def x4 (xs : List ι) (acc : α) (body : ι → α → (α → Prop) → Prop) (k : α → Prop) : Prop := zx (xs.length ≤ sizeLine) (xo xs acc body k)
def DcB (g : DG) (tt : DT) (tb : DB) (vs : List Nat) (δh : Dl) (ei : ι → D) (eo : α → O) (body : ι → α → (α → Prop) → Prop) : Prop := ∀ x acc (nx : α → Prop) (J : Dl → O → Prop), body x acc nx → (∀ acc', nx acc' → J δh (eo acc')) →
  g (ei x) δh fun δ3 => tt δ3 fun δ4 b => if b = true then tb δ4 (eo acc) fun δ5 acc' => J (zu δ5 vs) acc' else J (zu δ4 vs) (eo acc)
theorem ztq {tb : DB} {eo : α → O} {body : ι → α → (α → Prop) → Prop} {K : α → Prop} {Q : Dl → O → Prop} {xs : List ι} {a0 : α} (h0 : zu δ1 vs = δh) (hb : DcB g tt tb vs δh ei eo body) (h : x4 xs a0 body K) (c : ∀ a, K a → Q (zu δh vs) (eo a)) : zpt g tt tb vs (xs.map ei) δ1 (eo a0) Q := by
  refine ⟨by rw [List.length_map]; exact h.1, fun i δ' acc => δ' = δh ∧ ∃ a, acc = eo a ∧ xo (xs.drop i) a body K, ⟨h0, a0, rfl, h.2⟩, ?_, ?_⟩
  · rintro i d _ acc hd ⟨rfl, a, rfl, q⟩
    rw [List.getElem?_map] at hd
    cases hy : xs[i]? with
    | none => rw [hy] at hd; cases hd
    | some x =>
      rw [hy] at hd
      cases hd
      have hlt := (List.getElem?_eq_some_iff.mp hy).1
      have e2 := List.drop_eq_getElem_cons hlt
      rw [(List.getElem?_eq_some_iff.mp hy).2] at e2
      rw [e2] at q
      exact hb x a _ (fun δ' acc => δ' = _ ∧ ∃ a, acc = eo a ∧ xo (xs.drop (i + 1)) a body K) q fun a' q => ⟨rfl, a', rfl, q⟩
  · rintro _ acc ⟨rfl, a, rfl, q⟩
    rw [List.length_map, List.drop_length] at q
    exact c a q
theorem zd4 {tb : DB} {eo : α → O} {body : ι → α → (α → Prop) → Prop} {o0 : O} (a0 : α) (C : SI wi δ δ1 mi ei) (h00 : o0 = eo a0) (h0 : zu δ1 vs = δh) (hb : DcB g tt tb vs δh ei eo body) (hr : za2 δ1 (zu δh vs) vs = δ2) : SOw (dDc o0 wi g tt tb vs) δ δ2 (fun k => mi fun xs => x4 xs a0 body k) eo :=
  fun K Q h c => C _ _ h fun xs hx => by
    subst h00
    exact ztq h0 hb hx fun a ha => by rw [hr]; exact c a ha
theorem zz6 {tb : DB} {A B : Prop} {acc : O} {J : Dl → O → Prop} (T : ST tt δ3 δ4 mc) (h : mc fun b => ifW b A B) (ha : A → tb δ4 acc fun δ5 acc' => J (zu δ5 vs) acc') (hb : B → J (zu δ4 vs) acc) : tt δ3 fun δ4 b => if b = true then tb δ4 acc fun δ5 acc' => J (zu δ5 vs) acc' else J (zu δ4 vs) acc := T _ _ h fun b hb' => by
  unfold ifW at hb'
  cases b with
  | true => rw [if_pos rfl] at hb' ⊢; exact ha hb'
  | false => rw [if_neg (by decide)] at hb' ⊢; exact hb hb'
theorem zbd {tb : DB} {acc : O} {J : Dl → O → Prop} (h : tb δ3 acc fun δ5 acc' => J (zu δ5 vs) acc') : dYes δ3 fun δ4 b => if b = true then tb δ4 acc fun δ5 acc' => J (zu δ5 vs) acc' else J (zu δ4 vs) acc := by
  unfold dYes
  simpa using h
theorem zcd [DecidableEq κ] {f : κ → Key} [Inj f] {ek : κ → D} {mk : (κ → Prop) → Prop} {acc : List (κ × α)} {nx : List (κ × α) → Prop} {J : Dl → O → Prop} (hk : ∀ x, dkey (ek x) = some (f x)) (A : SE tk δ3 δ4 mk ek) (B : SE tv δ4 δ5 m e) (h : mk fun x => m fun v => putW acc x v nx) (hn : ∀ a, nx a → J δh (oK f e a)) (hw : zu δ5 vs = δh) :
    zaj tk tv δ3 (oK f e acc) fun δ5 acc' => J (zu δ5 vs) acc' := A _ _ h fun x hx => B _ _ hx fun v ⟨hl, q⟩ => ⟨f x, hk x, by rw [za3]; exact hl, by
  show J (zu δ5 vs) _
  rw [zcb, hw]; exact hn _ q⟩
theorem zx7 [DecidableEq κ] {f : κ → List Key} [Inj f] {ek : κ → D} {mk : (κ → Prop) → Prop} {acc : List (κ × α)} {nx : List (κ × α) → Prop} {J : Dl → O → Prop} (hk : ∀ x, tkey (ek x) = some (f x)) (A : SE tk δ3 δ4 mk ek) (B : SE tv δ4 δ5 m e) (h : mk fun x => m fun v => putW acc x v nx) (hn : ∀ a, nx a → J δh (oDT f e a)) (hw : zu δ5 vs = δh) :
    zaj tk tv δ3 (oDT f e acc) fun δ5 acc' => J (zu δ5 vs) acc' := A _ _ h fun x hx => B _ _ hx fun v ⟨hl, q⟩ => ⟨f x, hk x, by rw [za3]; exact hl, by
  show J (zu δ5 vs) _
  rw [zcb, hw]; exact hn _ q⟩
theorem zq2 {tb : DB} {eo : α → O} {body : ι → α → (α → Prop) → Prop} {us : List Nat} {acc : α} {nx : α → Prop} {J : Dl → O → Prop} (C : SI wi δ3 δ4 mi ei) (h0 : zu δ4 us = δ5) (hb : DcB g tt tb us δ5 ei eo body) (h : mi fun ys => x4 ys acc body nx) (hn : ∀ a, nx a → J δh (eo a)) (hw : zu (zu δ5 us) vs = δh) :
    ziq wi g tt tb us δ3 (eo acc) fun δ5 acc' => J (zu δ5 vs) acc' := C _ _ h fun ys hy => ztq h0 hb hy fun a ha => by
  show J (zu (zu δ5 us) vs) _
  rw [hw]; exact hn a ha
theorem zhc [DecidableEq κ] {f : κ → Key} [Inj f] {ek : κ → D} {mt : (List (κ × α) → Prop) → Prop} {mk : (κ → Prop) → Prop} {Ra : List (κ × α) → Vw → Prop} (hk : ∀ x, dkey (ek x) = some (f x)) (A : SV tw δ δ1 mt Ra) (B : SE tk δ1 δ2 mk ek) (V : VOk δ1 Ra (eK f e)) (W : VOk δ2 Ra (eK f e)) :
    SE (zjs tw tk) δ δ2 (fun k => mt fun t => mk fun x => k (valG t x)) (eO e) := fun K Q h c => A _ _ h fun t v ht hv => ⟨⟨_, V t v hv, .inl ⟨_, rfl⟩⟩, B _ _ ht fun x hx => ⟨_, _, W t v hv, DLook.k (hk x), by
  rw [zcy]
  cases hh : valG t x with
  | none => rw [hh] at hx; exact c none hx
  | some a => rw [hh] at hx; exact c (some a) hx⟩⟩
theorem zwi [DecidableEq κ] {f : κ → List Key} [Inj f] {ek : κ → D} {mt : (List (κ × α) → Prop) → Prop} {mk : (κ → Prop) → Prop} {Ra : List (κ × α) → Vw → Prop} (hk : ∀ x, tkey (ek x) = some (f x)) (A : SV tw δ δ1 mt Ra) (B : SE tk δ1 δ2 mk ek) (C : SE tx δ2 δ3 m e) (V : VOk δ1 Ra (eDT f e)) (W : VOk δ3 Ra (eDT f e)) :
    SE (zuc tw tk tx) δ δ3 (fun k => mt fun t => mk fun x => m fun y => k ((valG t x).getD y)) e := fun K Q h c => A _ _ h fun t v ht hv => ⟨⟨_, V t v hv, .inr ⟨_, rfl⟩⟩, B _ _ ht fun x hx => C _ _ hx fun y hy => ⟨_, _, W t v hv, DLook.t (hk x), by
  rw [zcy]
  cases hh : valG t x with
  | none => rw [hh] at hy; exact c _ hy
  | some a => rw [hh] at hy; exact c _ hy⟩⟩
def rgW (lo hi : Int) (k : List Int → Prop) : Prop := zx (RgOk lo hi) (k (yr lo hi))
theorem z1y {m m' : (Int → Prop) → Prop} (A : SE ta δ δ1 m D.int) (B : SE tb δ1 δ2 m' D.int) : SOw (dRg2 ta tb) δ δ2 (fun k => m fun a => m' fun n => rgW a n k) (oL D.int) := fun K Q h c => A _ _ h fun a ha => B _ _ ha fun n ⟨hn, q⟩ => ⟨a, n, rfl, rfl, hn, by rw [zmy]; exact c _ q⟩
theorem z1z {to : DOw} {mt : (List α → Prop) → Prop} {m' : (Int → Prop) → Prop} (A : SOw to δ δ1 mt (oL e)) (B : SE tb δ1 δ2 m' D.int) : SOw (dRep to tb) δ δ2 (fun k => mt fun xs => m' fun i => zx (-(2 ^ 63) ≤ i ∧ i < 2 ^ 63 ∧ xs.length * i.toNat ≤ sizeLine) (k (List.replicate i.toNat xs).flatten)) (oL e) := fun K Q h c => A _ _ h fun xs hx => B _ _ hx fun i ⟨hi, q⟩ => ⟨_, i, rfl, rfl, hi.1, hi.2.1, by rw [List.length_map]; exact hi.2.2, by
  have : (List.replicate i.toNat (xs.map e)).flatten = ((List.replicate i.toNat xs).flatten).map e := by rw [List.map_flatten, List.map_replicate]
  rw [this]; exact c _ q⟩
def qr (_ : Unit) (n : Int) (k : Int → Prop) : Prop := zx (0 < n ∧ n < 1073741824) (∀ r, 0 ≤ r → r < n → k r)
def zi2 (ns : List Int) (i : Int) (k : Unit → Prop) : Prop := zx (0 ≤ i ∧ i < 2 ^ 31 ∧ ∀ z ∈ ns, Builtin.Int.intBits z ≤ 1048576) (k ())
def yz (_ : Unit) (xs : List α) (k : α → Prop) : Prop := zx (0 < xs.length ∧ xs.length < 1073741824) (∀ x ∈ xs, k x)
theorem za7 (s : Unit × Int × Unit) (K : Int → Prop) (Q' : S → Prop) (h : qr s.1 s.2.1 K) (c : ∀ r, K r → Q' (.fz (.int r))) : zah [qv s.1, .int s.2.1] Q' := ⟨_, rfl, h.1.1, h.1.2, fun r h0 h1 => c r (h.2 r h0 h1)⟩
theorem zwj (s : List Int × Int × Unit) (K : Unit → Prop) (Q' : S → Prop) (h : zi2 s.1 s.2.1 K) (c : ∀ r, K r → Q' (.fz (qv r))) : zda [.scr s.1, .int s.2.1] Q' := ⟨_, _, rfl, h.1.1, h.1.2.1, h.1.2.2, c _ h.2⟩
theorem zlv (s : Unit × List α × Unit) (K : α → Prop) (Q' : S → Prop) (h : yz s.1 s.2.1 K) (c : ∀ r, K r → Q' (.fz (e r))) : zdb [qv s.1, eL e s.2.1] Q' := ⟨_, _, rfl, rfl, by simpa using h.1.1, by simpa using h.1.2, fun x hx => by
  obtain ⟨a, ha, rfl⟩ := List.mem_map.mp hx
  exact c a (h.2 a ha)⟩
end
end Mv
namespace Mv
open PySem PySem.Spec PyProof.Rows L2
section
variable {α β γ ι σ ρ κ κ2 : Type} {e : α → D} {eb : β → D} {ei : ι → D} {te ta tb tk tv tx tl : DE} {to : DOw} {tw tz : DV} {ts tz' : DA} {wi : DI} {g : DG} {δ δ0 δ1 δ2 δ3 δ4 δ5 : Dl} {m ma : (α → Prop) → Prop} {mb : (β → Prop) → Prop} {D' : DEnds} {i j : Nat} {rest : DS}
class AlkE (e : α → D) : Prop where
  alk : ∀ a b, PySem.W.alike (toPD (e a)) (toPD (e b)) = true
instance : AlkE D.int := ⟨fun a b => by simp [zg4, PySem.W.alike]⟩
instance : AlkE sD := ⟨fun a b => by show PySem.W.alike (toPD (.str a.1)) (toPD (.str b.1)) = true; simp [zg5, PySem.W.alike]⟩
theorem zmz {n n2 : Nat} [h : PuE n e] [h2 : PuE n2 eb] (p : α × β) : toPD (eP2 e eb p) = .tuple [toPD (e p.1), toPD (eb p.2)] := by
  obtain ⟨a, a1, _⟩ := h.pu p.1
  obtain ⟨b, b1, _⟩ := h2.pu p.2
  simp [toPD, eP2, toP, toPs, a1, b1]
instance {n n2 : Nat} [PuE n e] [PuE n2 eb] [h : AlkE e] [h2 : AlkE eb] : AlkE (eP2 e eb) := ⟨fun a b => by
  rw [zmz, zmz]
  simp [PySem.W.alike, PySem.W.alikeAll, h.alk, h2.alk]⟩
class Small (n : Nat) : Prop where
  le : n ≤ 60
instance srtP2 {n n2 : Nat} [h : PuE n e] [h2 : PuE n2 eb] [ha : AlkE e] [hb : AlkE eb] [hn : Small (max n n2 + 1)] : SrtE (eP2 e eb) := ⟨fun a b => PySem.W.dataLe false toPD (eP2 e eb a) (eP2 e eb b), fun xs hl => by
  have hp : PuE (max n n2 + 1) (eP2 e eb) := inferInstance
  have hk : AlkE (eP2 e eb) := inferInstance
  exact {
    pu := fun d hd => by obtain ⟨a, _, rfl⟩ := List.mem_map.mp hd; exact (hp.pu a).pure (Nat.le_trans hn.le (by decide))
    al := fun d hd d' hd' => by
      simp only [List.map_map, List.mem_map] at hd hd'
      obtain ⟨a, _, rfl⟩ := hd
      obtain ⟨b, _, rfl⟩ := hd'
      exact hk.alk a b
    so := .inl fun d hd => by
      simp only [List.map_map, List.mem_map] at hd
      obtain ⟨a, _, rfl⟩ := hd
      exact ⟨_, _, zmz a⟩
    sz := by rw [List.length_map]; exact zgb hl }, fun xs => by
  unfold zch
  symm
  exact List.map_mergeSort fun a _ b _ => rfl⟩
instance : Small (max 0 0 + 1) := ⟨by decide⟩
class KeyE [DecidableEq α] (e : α → D) (f : outParam (α → Key)) : Prop where
  dk : ∀ a, dkey (e a) = some (f a)
  kd : ∀ a, keyD (f a) = e a
  inj : ∀ a b, f a = f b → a = b
instance : KeyE D.int kI := ⟨fun _ => rfl, fun _ => rfl, fun _ _ h => ztj h⟩
def zwk [DecidableEq α] (xs : List α) (k : List α → Prop) : Prop := zx (xs.length + 1 < 4096) (∀ ys, ys.Nodup → (∀ a, a ∈ ys ↔ a ∈ xs) → k ys)
theorem zkc (ks : List Key) : ∀ k, k ∈ x6 ks ↔ k ∈ ks := by
  have key : ∀ (ks a : List Key) k, k ∈ ks.foldl (fun a k => insK k a) a ↔ k ∈ a ∨ k ∈ ks := by
    intro ks
    induction ks with
    | nil => intro a k; simp
    | cons x t ih =>
      intro a k
      rw [List.foldl_cons, ih]
      unfold insK
      split
      · rename_i h
        simp only [List.mem_cons]
        constructor
        · rintro (h | h) <;> simp [h]
        · rintro (h' | rfl | h')
          · exact .inl h'
          · exact .inl h
          · exact .inr h'
      · simp only [List.mem_cons]
        constructor
        · rintro ((h | h) | h) <;> simp [h]
        · rintro (h | h | h) <;> simp [h]
  intro k
  have := key ks [] k
  simpa [x6] using this
theorem zob (ks : List Key) : (x6 ks).Nodup := by
  have key : ∀ (ks a : List Key), a.Nodup → (ks.foldl (fun a k => insK k a) a).Nodup := by
    intro ks
    induction ks with
    | nil => intro a h; exact h
    | cons x t ih =>
      intro a h
      rw [List.foldl_cons]
      refine ih _ ?_
      unfold insK
      split
      · exact h
      · rename_i hx; exact List.nodup_cons.mpr ⟨hx, h⟩
  exact key ks [] .nil
theorem zq3 [DecidableEq α] {f : α → Key} [h : KeyE e f] : ∀ xs : List α, ze6 (xs.map e) = some (xs.map f)
  | [] => rfl
  | x :: xs => by rw [List.map_cons, ze6, h.dk, zq3 xs]; rfl
theorem zx8 [DecidableEq α] {f : α → Key} [h : KeyE e f] {xs : List α} {ys : List Key} (hp : ys.Perm (x6 (xs.map f))) : ∃ zs : List α, ys = zs.map f ∧ zs.Nodup ∧ ∀ a, a ∈ zs ↔ a ∈ xs := by
  have all : ∀ y ∈ ys, ∃ a, y = f a := fun y hy => by
    obtain ⟨a, _, e⟩ := List.mem_map.mp ((zkc _ _).mp (hp.mem_iff.mp hy))
    exact ⟨a, e.symm⟩
  have ex : ∀ ys : List Key, (∀ y ∈ ys, ∃ a, y = f a) → ∃ zs : List α, ys = zs.map f := by
    intro ys
    induction ys with
    | nil => intro _; exact ⟨[], rfl⟩
    | cons y t ih =>
      intro hy
      obtain ⟨zs, e⟩ := ih fun z hz => hy z (by simp [hz])
      obtain ⟨a, e2⟩ := hy y (by simp)
      exact ⟨a :: zs, by rw [e, e2]; rfl⟩
  obtain ⟨zs, rfl⟩ := ex ys all
  refine ⟨zs, rfl, ?_, fun a => ?_⟩
  · have := hp.nodup_iff.mpr (zob _)
    exact (List.pairwise_map.mp this).imp fun h e => h (congrArg f e)
  · have h1 : a ∈ zs ↔ f a ∈ zs.map f := ⟨fun h => List.mem_map.mpr ⟨a, h, rfl⟩, fun q => by
      obtain ⟨b, hb, e⟩ := List.mem_map.mp q
      exact h.inj _ _ e ▸ hb⟩
    have h2 : a ∈ xs ↔ f a ∈ xs.map f := ⟨fun h => List.mem_map.mpr ⟨a, h, rfl⟩, fun q => by
      obtain ⟨b, hb, e⟩ := List.mem_map.mp q
      exact h.inj _ _ e ▸ hb⟩
    rw [h1, h2, hp.mem_iff, zkc]
variable {Ra : α → Vw → Prop} {Rl : List α → Vw → Prop} {ml : (List α → Prop) → Prop}
theorem zuy [DecidableEq α] {f : α → Key} [h : KeyE e f] [hs : SrtE e] (A : SV tw δ δ1 ml Rl) (V : VOk δ1 Rl (eL e)) : SOw (zkk tw) δ δ1 (fun k => ml fun xs => zwk xs fun ys => k (z4 e ys)) (oL e) := fun K Q hm c => A _ _ hm fun xs x ⟨hl, hk⟩ hx =>
  ⟨_, _, V xs x hx, zq3 xs, by rw [List.length_map]; exact hl, fun ys hp => by
    obtain ⟨zs, rfl, nd, hz⟩ := zx8 (e := e) (f := f) hp
    have e1 : (zs.map f).map keyD = zs.map e := by rw [List.map_map]; exact List.map_congr_left fun a _ => h.kd a
    have hlz : zs.length ≤ 16777216 := by
      have h1 := hp.length_eq
      rw [List.length_map] at h1
      have h2 := zka (xs.map f)
      rw [List.length_map] at h2
      omega
    rw [e1]
    exact ⟨hs.ok _ hlz, by rw [hs.eq]; exact c _ (hk zs nd hz)⟩⟩
def zcl (t : List (κ × α)) : List α := t.map (·.2)
theorem zq4 {κ' : Type} {f : κ → κ'} (t : List (κ × α)) : (tyG f e t).map (·.2) = (zcl t).map e := by unfold tyG zcl; rw [List.map_map, List.map_map]; rfl
variable {Rt : List (κ × α) → Vw → Prop} {mt : (List (κ × α) → Prop) → Prop}
theorem z2y {f : κ → Key} {mt : (List (κ × ι) → Prop) → Prop} (C : SE te δ δ1 mt (eK f ei)) : SI (dIVs te) δ δ1 (fun k => mt fun t => k (zcl t)) ei := fun K Q h c => C _ _ h fun t ht => ⟨_, rfl, by rw [zq4]; exact c _ ht⟩
theorem zwl {f : κ → List Key} {ek : κ → D} {mt : (List (κ × α) → Prop) → Prop} (hk : ∀ x, D.tup ((f x).map keyD) = ek x) (C : SE te δ δ1 mt (eDT f e)) : SI (zpu te) δ δ1 mt (eP2 ek e) := fun K Q h c => C _ _ h fun t ht => ⟨_, rfl, by
  have e1 : ((tyG f e t).map fun kv => D.tup [.tup (kv.1.map keyD), kv.2]) = t.map (eP2 ek e) := by
    unfold tyG; rw [List.map_map]; exact List.map_congr_left fun q _ => by show D.tup [.tup ((f q.1).map keyD), e q.2] = _; rw [hk]; rfl
  rw [e1]; exact c _ ht⟩
def idxW [DecidableEq α] (xs : List α) (x : α) (k : Int → Prop) : Prop := ∃ j : Nat, xs[j]? = some x ∧ (∀ m, m < j → xs[m]? ≠ some x) ∧ k j
theorem zq5 [DecidableEq α] [h : FlatE e] {mk : (α → Prop) → Prop} (A : SV tw δ δ1 ml Rl) (B : SE tk δ1 δ2 mk e) (V : VOk δ1 Rl (eL e)) (W : VOk δ2 Rl (eL e)) : SE (zlo tw tk) δ δ2 (fun k => ml fun xs => mk fun x => idxW xs x k) D.int := fun K Q hm c => A _ _ hm fun xs v hx hv =>
  ⟨⟨_, V xs v hv⟩, B _ _ hx fun x ⟨j, h1, h2, hk⟩ => ⟨_, _, _, j, W xs v hv, h.ok x, zfc xs, ⟨h.fl x, by rw [List.getElem?_map, h1]; rfl, by rw [h.eq]; simp, fun m z' hm' hz => by
    rw [List.getElem?_map] at hz
    obtain ⟨y, hy, rfl⟩ := Option.map_eq_some_iff.mp hz
    rw [h.eq, decide_eq_false_iff_not]
    intro e
    exact h2 m hm' (e ▸ hy)⟩, c _ hk⟩⟩
def inN [DecidableEq κ] (t : List (κ × α)) : Option κ → Bool
  | none => false
  | some x => hasG t x
theorem ztr {neg : Bool} {x y : D} {Q : D → Prop} (hx : x.isNon = false) (h : gInB neg x y Q) : gInN neg x y Q := by
  cases x <;> first | exact h | cases hx
theorem z10 [DecidableEq κ] {f : κ → Key} [Inj f] {ek : κ → D} (hk : ∀ x, dkey (ek x) = some (f x)) (hn : ∀ x, (ek x).isNon = false) (h0 : ∀ (x : κ) (kvs : List (Key × D)) (Q : D → Prop), (∃ k, dkey (ek x) = some k ∧ Q (.bl (valG kvs k).isSome)) → gInB false (ek x) (.dk kvs) Q) :
    G2T (gInN false) (eO ek) (eK f e) (fun o t k => k (inN t o)) D.bl := fun o t K Q h c => by
  cases o with
  | none => exact ⟨_, rfl, c _ h⟩
  | some x => exact ztr (hn x) (zge hk h0 x t K Q h c)
theorem zz7 [DecidableEq κ] {f : κ → Key} [Inj f] {ek : κ → D} (hk : ∀ x, dkey (ek x) = some (f x)) (hn : ∀ x, (ek x).isNon = false) (h0 : ∀ (x : κ) (kvs : List (Key × D)) (Q : D → Prop), (∃ k, dkey (ek x) = some k ∧ Q (.bl (!(valG kvs k).isSome))) → gInB true (ek x) (.dk kvs) Q) :
    G2T (gInN true) (eO ek) (eK f e) (fun o t k => k (!inN t o)) D.bl := fun o t K Q h c => by
  cases o with
  | none => exact ⟨_, rfl, c _ h⟩
  | some x => exact ztr (hn x) (zzv hk h0 x t K Q h c)
def zlw [DecidableEq κ] (t : List (κ × α)) : Option κ → List (κ × α)
  | none => t
  | some x => vz t x
theorem zz8 [DecidableEq κ] {f : κ → Key} [Inj f] {ek : κ → D} {t : List (κ × α)} {mo : (Option κ → Prop) → Prop} {K : List (κ × α) → Prop} (hk : ∀ x, dkey (ek x) = some (f x)) (h1 : δ[i]? = some (some (.own (oK f e t)))) (A : SE tk δ δ1 mo (eO ek)) (h2 : δ1[i]? = some (some (.own (oK f e t))))
    (h : mo fun o => asgW (zlw t o) K) (h3 : δ1.set i (some (.own (oK f e t))) = δ1) (hr : ∀ v, K v → D'.nx (δ1.set i (some (.own (oK f e v))))) : zt9 (zjy i tk (dC .non)) D' δ := by
  show zjy i tk (dC .non) δ _
  unfold zjy
  rw [h1]
  refine A _ _ h fun o ho => ?_
  show (match δ1[i]? with | some (some (.own (.dk kvs))) => _ | _ => False)
  rw [h2]
  cases o with
  | none => exact .inr ⟨rfl, by have := hr _ ho; rw [show zlw t none = t from rfl, h3] at this; exact this⟩
  | some x =>
    refine .inl ⟨f x, hk x, fun v hv => ?_, fun hn => ?_⟩
    · rw [zx1]; exact hr _ ho
    · rw [zcy] at hn
      have e1 : valG t x = none := by
        cases q : valG t x with
        | none => rfl
        | some v => rw [q] at hn; cases hn
      have e2 : vz t x = t := by
        unfold vz
        rw [List.filter_eq_self]
        intro q hq
        by_cases z : q.1 = x
        · exact absurd (List.mem_map.mpr ⟨q, hq, z⟩) (zf7 e1)
        · simpa using z
      have := hr _ ho
      rw [show zlw t (some x) = vz t x from rfl, e2, h3] at this
      exact this
theorem zq6 [DecidableEq α] [h : FlatE e] : G2T (gInE true) e (eL e) (fun x xs k => k (!memB x xs)) D.bl := fun x xs K Q hk c => zzx x xs K Q hk c
theorem zx9 {f : κ → Key} : G1LO zqh (eK f e) (fun t k => k t) (oK f e) := fun t K Q h c => ⟨_, rfl, c _ h⟩
end
end Mv
namespace Mv
open PySem PySem.Spec PyProof.Rows L2
section
variable {α β γ ι σ σ' ρ κ κ2 : Type} {e : α → D} {ea : α → D} {eb : β → D} {ei : α → D} {te ta tb tk tv tx tl : DE} {to : DOw} {tw tz : DV} {ts tz' : DA} {wi : DI} {g : DG} {δ δ0 δ1 δ2 δ3 δ4 δ5 : Dl} {m ma : (α → Prop) → Prop} {mb : (β → Prop) → Prop} {D' : DEnds} {i j : Nat} {rest : DS} {ms : (σ → Prop) → Prop} {es : σ → List D} {mz : (σ' → Prop) → Prop} {ez : σ' → List D}
def tyN (f : κ → Key) (eo : α → O) (t : List (κ × α)) : List (Key × O) := t.map fun q => (f q.1, eo q.2)
abbrev nkS (f : κ → Key) (eo : α → O) (t : List (κ × α)) : Option S := some (.nk (tyN f eo t))
section
variable [DecidableEq κ] {f : κ → Key} [Inj f] {eo : α → O}
theorem zz9 (t : List (κ × α)) : (tyN f eo t).length = t.length := by unfold tyN; simp
theorem zts (t : List (κ × α)) (k : κ) : valG (tyN f eo t) (f k) = (valG t k).map eo := by
  induction t with
  | nil => rfl
  | cons q t ih =>
    show valG ((f q.1, eo q.2) :: tyN f eo t) (f k) = _
    by_cases e : q.1 = k
    · simp [valG, e]
    · have e2 : ¬ f q.1 = f k := fun z => e (Inj.inj _ _ z)
      have h1 : valG ((f q.1, eo q.2) :: tyN f eo t) (f k) = valG (tyN f eo t) (f k) := by simp [valG, e2]
      have h2 : valG (q :: t) k = valG t k := by simp [valG, e]
      rw [h1, h2, ih]
theorem z0a (t : List (κ × α)) (k : κ) : ((tyN f eo t).any fun kv => decide (kv.1 = f k)) = (t.any fun kv => decide (kv.1 = k)) := by
  unfold tyN
  rw [List.any_map]
  congr 1
  funext q
  show decide (f q.1 = f k) = decide (q.1 = k)
  by_cases e : q.1 = k
  · simp [e]
  · have e2 : ¬ f q.1 = f k := fun z => e (Inj.inj _ _ z)
    simp [e, e2]
theorem z0b (t : List (κ × α)) (k : κ) (v : α) : putG (tyN f eo t) (f k) (eo v) = tyN f eo (putG t k v) := by
  unfold putG
  rw [z0a]
  split
  · unfold tyN
    rw [List.map_map, List.map_map]
    refine List.map_congr_left fun q _ => ?_
    simp only [Function.comp]
    by_cases e : q.1 = k
    · rw [if_pos e, if_pos (congrArg f e)]
    · rw [if_neg e, if_neg (fun z => e (Inj.inj _ _ z))]
  · simp [tyN]
theorem z0c (t : List (κ × α)) (k : κ) (v : α) : setG (tyN f eo t) (f k) (eo v) = tyN f eo (setG t k v) := by
  unfold setG
  rw [zts, Option.isSome_map]
  split
  · rfl
  · simp [tyN]
theorem zwm {K : List (κ × α) → Prop} (h : asgW ([] : List (κ × α)) K) (hr : ∀ v, K v → rest D' (δ.set i (nkS f eo v))) : dSeq (zqm i) rest D' δ := hr [] h
def sdfW (t : List (κ × α)) (x : κ) (v : α) (K : List (κ × α) → Prop) : Prop := t.length < sizeLine ∧ K (setG t x v)
variable {ek : κ → D} {mk : (κ → Prop) → Prop} {t : List (κ × α)} {K : List (κ × α) → Prop}
theorem zwn (hk : ∀ x, dkey (ek x) = some (f x)) (h1 : δ[i]? = some (nkS f eo t)) (A : SE tk δ δ1 mk ek) (B : SOw to δ1 δ2 m eo) (h2 : δ2[i]? = some (nkS f eo t)) (h : mk fun x => m fun v => sdfW t x v K) (hr : ∀ v, K v → D'.nx (δ2.set i (nkS f eo v))) : zd9 i tk to D' δ := by
  unfold zd9
  rw [h1]
  refine A _ _ h fun x hx => B _ _ hx fun v ⟨hl, hv⟩ => ?_
  rw [h2]
  exact ⟨f x, hk x, by rw [zz9]; exact hl, by rw [z0c]; exact hr _ hv⟩
theorem zuz (hk : ∀ x, dkey (ek x) = some (f x)) (h1 : δ[i]? = some (nkS f eo t)) (A : SE tk δ δ1 mk ek) (B : SOw to δ1 δ2 m eo) (h2 : δ2[i]? = some (nkS f eo t)) (h : mk fun x => m fun v => sdfW t x v K) (hr : ∀ v, K v → rest D' (δ2.set i (nkS f eo v))) : dSeq (zd9 i tk to) rest D' δ :=
  zwn (D' := { D' with nx := rest D' }) hk h1 A B h2 h hr
end
section
variable [DecidableEq κ] [DecidableEq κ2] {f : κ → Key} [Inj f] {f2 : κ2 → Key} [Inj f2] {ek : κ → D} {ek2 : κ2 → D} {mk : (κ → Prop) → Prop} {mk2 : (κ2 → Prop) → Prop} {t : List (κ × List (κ2 × α))} {K : List (κ × List (κ2 × α)) → Prop} {tk2 : DE}
theorem z0d (hk : ∀ x, dkey (ek x) = some (f x)) (hk2 : ∀ x, dkey (ek2 x) = some (f2 x)) (C : SE te δ δ1 m e) (h1 : δ1[i]? = some (nkS f (oK f2 e) t)) (A : SE tk δ1 δ2 mk ek) (h2 : δ2[i]? = some (nkS f (oK f2 e) t)) (B : SE tk2 (δ2.set i none) δ3 mk2 ek2)
    (h : m fun v => mk fun x => getW t x fun gg => mk2 fun y => putW gg y v fun g2 => asgW (putG t x g2) K) (hr : ∀ v, K v → D'.nx (δ3.set i (nkS f (oK f2 e) v))) : dAsg te (zum i tk tk2) D' δ := C _ _ h fun v hv => by
  refine ⟨⟨_, h1⟩, A _ _ hv fun x ⟨gg, hg, hx⟩ => ?_⟩
  rw [h2]
  refine ⟨f x, tyG f2 e gg, hk x, by rw [zts, hg]; rfl, B _ _ hx fun y ⟨hl, hy⟩ => ⟨f2 y, hk2 y, by rw [za3]; exact hl, ?_⟩⟩
  have e1 : (O.dk (putG (tyG f2 e gg) (f2 y) (e v))) = oK f2 e (putG gg y v) := by rw [zcb]; rfl
  rw [e1, z0b]
  exact hr _ hy
end
theorem z0e [DecidableEq κ] {f : κ → Key} {eo : α → O} (i : Nat) (t : List (κ × α)) (h : δ[i]? = some (nkS f eo t)) (he : ∀ x, (eo x).d = ei x) : SE (zlp i) δ (δ.set i (some (.fz (eK f ei t)))) (fun k => k t) (eK f ei) := fun K Q hm c => by
  unfold zlp
  rw [h]
  show Q (δ.set i (some (.fz (S.nk (tyN f eo t)).d))) (S.nk (tyN f eo t)).d
  have e1 : (S.nk (tyN f eo t)).d = eK f ei t := by
    show D.dk _ = D.dk _
    congr 1
    unfold tyN tyG
    rw [List.map_map]
    exact List.map_congr_left fun q _ => by show (f q.1, (eo q.2).d) = _; rw [he]
  rw [e1]; exact c t hm
section
variable [DecidableEq κ] [DecidableEq κ2] {f : κ → Key} [Inj f] {f2 : κ2 → Key} [Inj f2] {ek : κ → D} {el : κ2 → D} {mk : (κ → Prop) → Prop} {ml : (κ2 → Prop) → Prop} {t : List (κ × α)} {u : List (κ2 × β)} {K : List (κ × α) → List (κ2 × β) → Prop} {mp : (α × β → Prop) → Prop} {δt : List (κ × α) → Dl}
theorem z11 (hk : ∀ x, dkey (ek x) = some (f x)) (hl : ∀ x, dkey (el x) = some (f2 x)) (C : SE te δ δ1 mp (eP2 ea eb)) (h1 : δ1[i]? = some (some (.own (oK f ea t)))) (A : SE tk δ1 δ2 mk ek) (h2 : δ2[i]? = some (some (.own (oK f ea t))))
    (h3 : ∀ t2, (δ2.set i (some (.own (oK f ea t2))))[j]? = some (some (.own (oK f2 eb u)))) (B : ∀ t2, SE tl (δ2.set i (some (.own (oK f ea t2)))) (δt t2) ml el) (h4 : ∀ t2, (δt t2)[j]? = some (some (.own (oK f2 eb u))))
    (h : mp fun p => mk fun x => putW t x p.1 fun t2 => ml fun y => putW u y p.2 fun u2 => K t2 u2) (hr : ∀ t2 u2, K t2 u2 → D'.nx ((δt t2).set j (some (.own (oK f2 eb u2))))) : dAsg te (gTp 2 (zw (gSet i tk) (zw (gSet j tl) jm))) D' δ := C _ _ h fun p hp => by
  refine ⟨_, rfl, rfl, _, _, rfl, ⟨_, h1⟩, A _ _ hp fun x ⟨hl1, hx⟩ => ?_⟩
  rw [h2]
  refine ⟨f x, hk x, by rw [za3]; exact hl1, ?_⟩
  rw [zcb]
  refine ⟨_, _, rfl, ⟨_, h3 _⟩, B _ _ _ hx fun y ⟨hl2, hy⟩ => ?_⟩
  rw [h4]
  refine ⟨f2 y, hl y, by rw [za3]; exact hl2, ?_⟩
  rw [zcb]
  exact ⟨rfl, hr _ _ hy⟩
theorem ztt (hk : ∀ x, dkey (ek x) = some (f x)) (hl : ∀ x, dkey (el x) = some (f2 x)) (C : SE te δ δ1 mp (eP2 ea eb)) (h1 : δ1[i]? = some (some (.own (oK f ea t)))) (A : SE tk δ1 δ2 mk ek) (h2 : δ2[i]? = some (some (.own (oK f ea t))))
    (h3 : ∀ t2, (δ2.set i (some (.own (oK f ea t2))))[j]? = some (some (.own (oK f2 eb u)))) (B : ∀ t2, SE tl (δ2.set i (some (.own (oK f ea t2)))) (δt t2) ml el) (h4 : ∀ t2, (δt t2)[j]? = some (some (.own (oK f2 eb u))))
    (h : mp fun p => mk fun x => putW t x p.1 fun t2 => ml fun y => putW u y p.2 fun u2 => K t2 u2) (hr : ∀ t2 u2, K t2 u2 → rest D' ((δt t2).set j (some (.own (oK f2 eb u2))))) : dSeq (dAsg te (gTp 2 (zw (gSet i tk) (zw (gSet j tl) jm)))) rest D' δ :=
  z11 (D' := { D' with nx := rest D' }) hk hl C h1 A h2 h3 B h4 h hr
end
section
variable {n mm N : Nat} {sp : DSp} {er : ρ → D} {eo : ρ → O} {ord : List D → List D → List D} {F : σ → σ' → (ρ → Prop) → Prop}
theorem zeo (A : SA ts δ δ1 ms es) (B : SA tz' δ1 δ2 mz ez) (hl : ∀ s, (es s).length = n) (hm : ∀ s, (ez s).length = mm) (hN : ∀ s z, (ord (es s) (ez z)).length = N) (F : σ → σ' → (ρ → Prop) → Prop) (hF : ∀ s z K (Q' : S → Prop), F s z K → (∀ r s', K r → s'.d = er r → Q' s') → sp (ord (es s) (ez z)) Q') :
    SE (zel n mm N sp ts tz' ord) δ δ2 (fun k => ms fun s => mz fun z => F s z k) er :=
  fun K Q h c => A _ _ h fun s hs => B _ _ hs fun z hz => ⟨hl s, hm z, hN s z, hF s z K _ hz fun r s' hr hd => by rw [hd]; exact c r hr⟩
end
end
end Mv
namespace Mv
open PySem PySem.Spec PyProof.Rows L2
section
variable {α β γ ι σ σ' ρ κ κ2 : Type} {e : α → D} {ea : α → D} {eb : β → D} {ec : γ → D} {te ta tb tk tv tx tl : DE} {ts : DA} {δ δ1 : Dl} {ms : (σ → Prop) → Prop} {es : σ → List D} {D' : DEnds} {i : Nat} {rest : DS}
theorem zyv (i : Nat) (e : α → D) (a : Option α) (h : δ[i]? = some (some (.fz (eO e a)))) : SV (dVV i) δ δ (fun k => unW a k) (RV e) := fun K Q ⟨x, hx, hk⟩ c => by
  subst hx
  unfold dVV; rw [h]; exact c x _ hk rfl
theorem z0f {to : DOw} {δ' : Dl} {m : (α → Prop) → Prop} {eo : α → O} {is : List Nat} (nd : is.Nodup) (hi : ∀ i ∈ is, ∃ o, δ[i]? = some (some (.own o))) (A : SOw to (zby is 0 δ) δ' m eo) (hf : ∀ a, zpv (eo a)) : SOw (zuo is to) δ δ m eo :=
  fun K Q hm c => ⟨nd, hi, A K _ hm fun a ha => ⟨hf a, c a ha⟩⟩
theorem z0g [DecidableEq α] [h : FlatE e] {f : κ → Key} (t : List (κ × α)) : zpv (oK f e t) := ⟨(zcl t).map h.fl, by
  have := zfc (e := e) (zcl t)
  rw [← zq4 (f := f)] at this
  exact this⟩
end
end Mv
namespace Mv
open PySem PySem.Spec PyProof.Rows L2
section
variable {α κ κ' : Type} [DecidableEq κ] [DecidableEq κ'] {f : κ → κ'} {e : α → D} [Inj f]
theorem zfe : ∀ (xs t : List (κ × α)), qg (tyG f e t) (tyG f e xs) = tyG f e (qg t xs)
  | [], t => rfl
  | q :: xs, t => by
    have h := zfe xs (putG t q.1 q.2)
    rw [← zcb] at h
    exact h
end
section
variable {α κ : Type} [DecidableEq κ] {e : α → D} {ek : κ → D}
theorem znt {f : κ → Key} (hk : ∀ x, dkey (ek x) = some (f x)) : ∀ xs : List (κ × α), zga (xs.map (eP2 ek e)) = some (tyG f e xs)
  | [] => rfl
  | q :: xs => by
    show (match dkey (ek q.1), zga (xs.map (eP2 ek e)) with
      | some k, some t => some ((k, e q.2) :: t)
      | _, _ => none) = _
    rw [hk, znt hk xs]; rfl
theorem zwo {f : κ → Key} [Inj f] (hk : ∀ x, dkey (ek x) = some (f x)) : G1LO zmu (eL (eP2 ek e)) (fun xs k => k (qg [] xs)) (oK f e) := fun xs K Q h c =>
  ⟨_, _, rfl, znt hk xs, by
    have := zfe (f := f) (e := e) xs []
    rw [show qg [] (tyG f e xs) = tyG f e (qg [] xs) from this]
    exact c _ h⟩
end
end Mv
namespace Mv
open PySem PySem.Spec PyProof.Rows L2
end Mv
namespace Mv
open PySem PySem.Spec PyProof.Rows L2
section
variable {α β γ ι : Type} {e : α → D} {eb : β → D} {ec : γ → D} {ed : ι → D}
end
end Mv
namespace Mv
open PySem PySem.Spec PyProof.Rows L2
section
variable {α β γ κ : Type} {e : α → D} {eb : β → D} {ec : γ → D}
end
end Mv
namespace Mv
open PySem PySem.Spec PyProof.Rows L2
end Mv
namespace Mv
open PySem PySem.Spec PyProof.Rows L2
end Mv
namespace Mv
open PySem PySem.Spec PyProof.Rows L2
section
variable {α κ : Type} {e : α → D} {δ δ1 δ2 : Dl} {i : Nat} {D' : DEnds} {rest : DS}
theorem z12 [DecidableEq κ] {f : κ → Key} [Inj f] {ta tb : DE} {ma mb : (List (κ × α) → Prop) → Prop} (A : SE ta δ δ1 ma (eK f e)) (B : SE tb δ1 δ2 mb (eK f e)) :
    SOw (dMrg ta tb) δ δ2 (fun k => ma fun a => mb fun b => zx (a.length + b.length ≤ sizeLine) (k (qg (qg [] a) b))) (oK f e) := fun K Q hm c =>
  A _ _ hm fun a ha => ⟨_, rfl, B _ _ ha fun b ⟨hl, hb⟩ => ⟨_, rfl, by rw [za3, za3]; exact hl, by
    have e1 : qg [] (tyG f e a) = tyG f e (qg [] a) := zfe a []
    rw [e1, zfe]
    exact c _ hb⟩⟩
theorem z13 {xs : List α} {to : DOw} {m : (List α → Prop) → Prop} (h1 : δ[i]? = some (some (.own (oL e xs)))) (C : SOw to δ δ1 m (oL e)) (h2 : δ1[i]? = some (some (.own (oL e xs)))) {K : List α → Prop}
    (h : m fun ys => zx (xs.length + ys.length ≤ sizeLine) (asgW (xs ++ ys) K)) (hr : ∀ v, K v → D'.nx (δ1.set i (some (.own (oL e v))))) : dExt i to D' δ := by
  unfold dExt
  rw [h1]
  refine C _ _ h fun ys ⟨hl, q⟩ => ?_
  rw [h2]
  refine ⟨_, rfl, by rw [List.length_map, List.length_map]; exact hl, ?_⟩
  have := hr _ q
  unfold oL at this
  rw [List.map_append] at this
  exact this
end
end Mv
namespace Mv
open PySem PySem.Spec PyProof.Rows L2
section
variable {α β γ ι σ σ' ρ κ κ2 : Type} {e : α → D} {ea : α → D} {eb : β → D} {ei : α → D} {te ta tb tk tv tx tl : DE} {to : DOw} {tw tz : DV} {ts tz' : DA} {wi : DI} {g : DG} {δ δ0 δ1 δ2 δ3 δ4 δ5 : Dl} {m ma : (α → Prop) → Prop} {mb : (β → Prop) → Prop} {D' : DEnds} {i j : Nat} {rest : DS} {ms : (σ → Prop) → Prop} {es : σ → List D} {mz : (σ' → Prop) → Prop} {ez : σ' → List D}
section
variable [DecidableEq κ] {f : κ → List Key} [Inj f] {eo : α → O}
variable {K : List (κ × α) → Prop}
end
end
end Mv
namespace Mv
open PySem PySem.Spec PyProof.Rows L2
section
variable {α κ : Type} {e : α → D} {tw : DV} {δ δ1 : Dl} {mt : (List (κ × α) → Prop) → Prop} {Rt : List (κ × α) → Vw → Prop}
end
section
variable {α β : Type} {e : α → D} {e2 : β → D} {te : DE} {δ δ1 : Dl} {i : Nat} {D' : DEnds} {rest : DS} {m : (β → Prop) → Prop}
end
section
variable {α : Type} {e : α → D}
end
end Mv
namespace Mv
open PySem PySem.Spec PyProof.Rows L2
def z14 (xs : List (List Int)) : List (List Int) := xs.mergeSort fun a b => PySem.W.dataLe false toPD (eT D.int a) (eT D.int b)
section
variable {α : Type} {e : α → D}
end
end Mv
namespace Mv
open PySem PySem.Spec PyProof.Rows L2
class CTb where
  cls : Nat → Addr
abbrev wd (L : Wl) : Option S := some (.wld L)
section
variable {α β γ ρ σ τ κ : Type} {e ea : α → D} {eb : β → D} {te ta tb tk tv : DE} {to : DOw} {tw : DV} {ts tz : DA} {δ δ1 δ2 δ3 : Dl} {m ma : (α → Prop) → Prop} {mb : (β → Prop) → Prop} {ms : (σ → Prop) → Prop} {es : σ → List D} {D' : DEnds} {rest : DS} {i n : Nat} {C a ad : Addr} {f mn : Str} {W L : Wl} {NS : List Str} {R : α → Vw → Prop}
theorem ztu {κ α : Type} [DecidableEq κ] : ∀ {W : List (κ × α)} {j : Nat} {a : κ} {o : α}, (W.map (·.1)).Nodup → W[j]? = some (a, o) → valG W a = some o
  | [], _, _, _, _, h => by simp at h
  | q :: W, 0, a, o, _, h => by
    simp at h; subst h; simp [valG]
  | q :: W, j + 1, a, o, nd, h => by
    have nd' : q.1 ∉ W.map (·.1) ∧ (W.map (·.1)).Nodup := by simpa using nd
    have h : W[j]? = some (a, o) := by simpa using h
    have ne : q.1 ≠ a := fun z => nd'.1 (by rw [z]; exact List.mem_map.mpr ⟨_, List.mem_of_getElem? h, rfl⟩)
    have : valG (q :: W) a = valG W a := by simp [valG, ne]
    rw [this]; exact ztu nd'.2 h
theorem ztv {κ α : Type} [DecidableEq κ] : ∀ {W : List (κ × α)} {j : Nat} {a : κ} {o v : α}, (W.map (·.1)).Nodup → W[j]? = some (a, o) → putG W a v = W.set j (a, v)
  | [], _, _, _, _, _, h => by simp at h
  | q :: W, 0, a, o, v, nd, h => by
    simp at h; subst h
    have nd' : a ∉ W.map (·.1) ∧ (W.map (·.1)).Nodup := by simpa using nd
    have e : W.map (fun kv => if kv.1 = a then (kv.1, v) else kv) = W := by
      conv => rhs; rw [← List.map_id W]
      refine List.map_congr_left fun x hx => ?_
      rw [if_neg (fun z => nd'.1 (by rw [← z]; exact List.mem_map.mpr ⟨x, hx, rfl⟩))]; rfl
    simp [putG, e]
  | q :: W, j + 1, a, o, v, nd, h => by
    have nd' : q.1 ∉ W.map (·.1) ∧ (W.map (·.1)).Nodup := by simpa using nd
    have h : W[j]? = some (a, o) := by simpa using h
    have hm : a ∈ W.map (·.1) := List.mem_map.mpr ⟨_, List.mem_of_getElem? h, rfl⟩
    have ne : q.1 ≠ a := fun z => nd'.1 (by rw [z]; exact hm)
    have ih := ztv (v := v) nd'.2 h
    have an : (W.any fun kv => decide (kv.1 = a)) = true := by
      obtain ⟨x, hx, ex⟩ := List.mem_map.mp hm
      exact List.any_eq_true.mpr ⟨x, hx, by simpa using ex⟩
    unfold putG at ih ⊢
    rw [if_pos an] at ih
    rw [if_pos (by simp only [List.any_cons, an, Bool.or_true]), List.map_cons, ih, if_neg ne]
    simp
end
end Mv
namespace Mv
open PySem PySem.Spec PyProof.Rows L2
section
variable {α β γ ρ σ σ' τ κ : Type} {e ea : α → D} {eb : β → D} {te ta tb tk tv : DE} {to : DOw} {tw : DV} {ts tz : DA} {t : DS} {g : DG} {δ δ1 δ2 δ3 : Dl} {m ma : (α → Prop) → Prop} {mb : (β → Prop) → Prop} {ms : (σ → Prop) → Prop} {es : σ → List D} {mz : (σ' → Prop) → Prop} {ez : σ' → List D} {D' : DEnds} {rest : DS} {i n : Nat} {C a ad : Addr} {f mn : Str} {W L : Wl} {NS : List Str} {R : α → Vw → Prop}
  {sp : DSpW} {spd : DSp}
abbrev ndW (W : Wl) : Prop := (W.map (·.1)).Nodup
variable {δ' : τ → ρ → Dl} {P : τ → ρ → Prop} {er : τ → ρ → D} {mr : (ρ → Prop) → Prop} {K : ρ → Prop}
end
end Mv
namespace Mv
open PySem PySem.Spec PyProof.Rows L2
section
variable {α β γ ρ σ σ' τ κ : Type} {e ea : α → D} {eb : β → D} {te ta tb tk tv : DE} {to : DOw} {tw : DV} {ts tz : DA} {δ δ1 δ2 δ3 : Dl} {m ma : (α → Prop) → Prop} {mb : (β → Prop) → Prop} {ms : (σ → Prop) → Prop} {es : σ → List D} {D' : DEnds} {rest : DS} {i n : Nat}
end
end Mv
namespace Mv
open PySem PySem.Spec PyProof.Rows L2
section
variable {X : Cx} {K : PySem.W.Frag} {e : Expr} {te : DE}
end
end Mv
namespace Mv
open PySem PySem.Spec PyProof.Rows L2
section
variable {X : Cx} {K : PySem.W.Frag} {e o : Expr} {pos apos : Pos} {te tk : DE}
end
end Mv
namespace Mv
open PySem PySem.Spec PyProof.Rows L2 PySem.W
section
variable {X : Cx} {K : PySem.W.Frag}
variable {a : Expr} {tw : DV} {pos p p2 q : Pos}
end
end Mv
namespace Mv
open PySem PySem.Spec PyProof.Rows L2
theorem zhd {K : PySem.W.Frag} {x qual : Str} {st : Stmt} {f : Addr} {oc : Value} {od : Option Addr} {D : Addr} {doc pm : Value} {an : Option Addr} {cdv ct : Value} {sl : Array (Option Value)} {kws : List (Str × V)}
    (l : K.lookup f = some ⟨oc, od, .func (PySem.W.fnOf x qual (defArgs st) (defBody st) (defScope st) .none (.ref D) doc pm an cdv ct), sl⟩) (c : PySem.W.codeIn K cdv qual = true) (k : PySem.W.keepIn K (.ref f) = true) (q : ∀ q ∈ kws, ∃ u, PySem.W.nsIn K D q.1 = some (some u) ∧ RelV q.2 u) :
    FunD K x qual (defArgs st) (defBody st) (defScope st) [] kws f (PySem.W.fnOf x qual (defArgs st) (defBody st) (defScope st) .none (.ref D) doc pm an cdv ct) :=
  ⟨⟨oc, od, .none, .ref D, doc, pm, an, cdv, ct, sl, rfl, l, c, .inl ⟨rfl, rfl⟩, .inr ⟨D, rfl, q⟩⟩, k⟩
end Mv
namespace Mv
open PySem PySem.Spec PyProof.Rows L2
section
variable {α β γ ρ σ σ' τ κ : Type} {e ea : α → D} {eb : β → D} {te ta tb tk tv : DE} {to : DOw} {tw : DV} {ts tz : DA} {t : DS} {g : DG} {δ δ1 δ2 δ3 : Dl} {m ma : (α → Prop) → Prop} {mb : (β → Prop) → Prop} {ms : (σ → Prop) → Prop} {es : σ → List D} {mz : (σ' → Prop) → Prop} {ez : σ' → List D} {D' : DEnds} {rest : DS} {i n N k : Nat} {C a ad : Addr} {W L : Wl}
  {sp : DSpW} {ord : List D → List D → List D}
variable {δ' δ4 : τ → ρ → Dl} {P : τ → ρ → Prop} {er : τ → ρ → D} {mr : (ρ → Prop) → Prop} {K : ρ → Prop}
end
end Mv
namespace Mv
open PySem PySem.Spec PyProof.Rows L2
end Mv
namespace Mv
open PySem PySem.Spec PyProof.Rows L2
section
variable {δ δ1 : Dl} {tw : DV} {R : List (List Int) → Vw → Prop} {ml : (List (List Int) → Prop) → Prop}
end
end Mv
namespace Mv
open PySem PySem.Spec PyProof.Rows L2
abbrev zd5 := List (Int × (Int × List Int))
abbrev Rule := List (Int × Int)
abbrev Names := List (Sg × Int)
structure St where
  store : zd5
  columns : Rule
  parts : List (List Int)
  named : Names
  pinned : Names
structure Bk where
  size : Int
  states : List St
  spot : Int
  depth : Int
structure Bx where
  width : Int
  states : List (zd5 × Rule × Names × Names)
  place : Int
section
variable [CTb]
end
end Mv
namespace Mv
open PySem PySem.Spec PyProof.Rows L2
section
variable {ι J : Type} {ei : ι → D} {wi : DI} {g : DG} {tb rest : DS} {δ : Dl} {D' : DEnds} {mi : (List ι → Prop) → Prop}
end
def hz (s : Option S) : Option S := match s with
  | some (.fz x) => some (.fz x)
  | _ => none
theorem z0h {is : List Nat} {tm : DM} {rest : DS} {D' : DEnds} {δ : Dl} (h : tm δ fun δ1 ss => ss.length = is.length ∧ rest D' (zc8 δ1 is ss)) : dSeq (dPar is tm) rest D' δ := h
end Mv
namespace Mv
open PySem PySem.Spec PyProof.Rows L2
section
variable {P : Program} {w : World} {A : Around} {E : Value → Shared → Prop} {s : Shared}
end
section
variable {X : Cx} {K : PySem.W.Frag}
variable {e a b c o f : Expr} {tw : DV} {pos p p2 q apos cpos pos' : Pos}
end
end Mv
namespace Mv
open PySem PySem.Spec PyProof.Rows L2
section
variable {X : Cx} {K : PySem.W.Frag} {e o : Expr} {pos apos : Pos} {tw : DV} {tk : DE}
end
end Mv
namespace Mv
open PySem PySem.Spec PyProof.Rows L2
end Mv
namespace Mv
open PySem PySem.Spec PyProof.Rows L2 ClX
section
variable {X : Cx} {K : PySem.W.Frag} {e a b c o : Expr} {es : List Expr} {ta tb tc te tk tv : DE} {ts : DA} {pos p apos cpos : Pos} {C g f : Addr} {m x : Str} {n k : Nat} {sp : DSpW} {E : XK} {t1 : TA}
end
end Mv
namespace Mv
open PySem PySem.Spec PyProof.Rows L2
end Mv
namespace Mv
open PySem PySem.Spec PyProof.Rows L2
section
variable {X : Cx} {K : PySem.W.Frag} {e o : Expr} {es : List Expr} {ta : TA} {x f : Str} {p p1 p2 pos : Pos} {C CB fI : Addr} {k : Nat}
end
end Mv
namespace Mv
open PySem PySem.Spec PyProof.Rows L2
abbrev XQ := Addr → Str → D → Dl → Prop
abbrev DSX := XQ → DS
section
variable {X : Cx} {K : PySem.W.Frag} {W : WX} {e o : Expr} {es : List Expr} {te : DE} {tc : DT} {ts : DA} {t u : DS} {tx ux : DSX} {st : Stmt} {b rest : List Stmt} {x m f y : Str} {p pos apos pos' : Pos} {C g : Addr} {n k : Nat}
abbrev DSpX := List D → Wl → (S → Prop) → (Addr → Str → D → Wl → Prop) → Prop
variable {P : Program} {w : World} {mg : Str → Option Value} {base : Heap} {qual : Str} {fa : Addr} {fd : FuncData} {N ps : List Str} {sp : DSpX}
end
section
variable {K : PySem.W.Frag} {F0 H0 F H : Hp} {P : Pl} {δ : Dl} {σ : L2.St} {W : Wl} {n : Nat} {sp : DSpX} {Q : VK} {E : XK} {vs : List V} {ds : List D} {Qd : Wl → S → Prop} {Xd : Addr → Str → D → Wl → Prop}
end
section
variable {X : Cx} {K : PySem.W.Frag} {W : WX} {e o : Expr} {es : List Expr} {te : DE} {ts : DA} {st : Stmt} {body : List Stmt} {x m f y : Str} {p pos apos pos' : Pos} {C g : Addr} {n k : Nat} {sp : DSpX} {fd : FuncData} {ps : List Str} {t0 : TE} {t1 : TA} {s0 : Sp} {E : L2.St → XK}
end
end Mv
namespace Mv
open PySem PySem.Spec PyProof.Rows L2
section
variable {A α : Type} {K : A → Prop} {B : (A → Prop) → Prop} {e : A → D} {tb : DSX} {D' : DEnds} {rest : DS} {δ : Dl} {C CE : Addr} {f mn : Str} {i j : Nat} {te : DE} {sp : DSpX} {W : Wl} {ad : Addr} {NS : List Str}
end
end Mv
namespace Mv
namespace Tk
open PySem PySem.Spec PyProof.Rows L2
section
variable {R C : Type} [DecidableEq R] [DecidableEq C]
def cpW (entries : List ((R × C) × Int)) (pairs : List (R × C)) (Q : List (C × Int) → Prop) : Prop :=
 x4 (za entries) ([] : List (C × Int)) (fun (x_ : R × C) (acc : List (C × Int)) (nxt : List (C × Int) → Prop) => putW acc x_.2 (0 : Int) nxt) fun t_ => asgW t_ fun prices =>
 asgW true fun is_changed =>
 zj2 prices is_changed (fun (prices2 : List (C × Int)) (is_changed2 : Bool) k_ => k_ is_changed2) (fun (prices2 : List (C × Int)) (is_changed2 : Bool) nxt1 =>
   asgW false fun is_changed3 =>
   yn entries prices2 is_changed3 (fun (x_1 : (R × C) × Int) (prices4 : List (C × Int)) (is_changed5 : Bool) nxt2 =>
     asgW x_1.1 fun p_ =>
     asgW x_1.2 fun gain =>
     zd3 (fun (gain1 : Int) =>
       getW prices4 p_.2 fun t_5 => ifW (decide (t_5 < gain1))
        (putW prices4 p_.2 gain1 fun prices5 =>
         asgW true fun is_changed6 =>
         nxt2 prices5 is_changed6)
        (nxt2 prices4 is_changed5)) fun cont =>
     ifW (hasG pairs p_.1)
      (getW pairs p_.1 fun t_1 => getW prices4 t_1 fun t_2 => getW pairs p_.1 fun t_3 => getW entries (p_.1, t_3) fun t_4 => asgW (gain + (t_2 - t_4)) fun gain2 =>
     cont gain2)
      (cont gain)) (fun (prices3 : List (C × Int)) (is_changed4 : Bool) =>
     nxt1 prices3 is_changed4)) (fun (prices1 : List (C × Int)) (is_changed1 : Bool) =>
   retW prices1 Q)
def rwW (entries : List ((R × C) × Int)) (pairs : List (R × C)) (Q : List (R × Int) → Prop) : Prop :=
 cpW entries pairs fun t_ => asgW t_ fun prices =>
 x4 (za entries) ([] : List (R × Int)) (fun (x_ : R × C) (acc : List (R × Int)) (nxt : List (R × Int) → Prop) => putW acc x_.1 (0 : Int) nxt) fun t_1 => asgW t_1 fun found =>
 xo pairs found (fun (x_1 : R × C) (found2 : List (R × Int)) nxt1 =>
   getW entries (x_1.1, x_1.2) fun t_2 => getW prices x_1.2 fun t_3 => putW found2 x_1.1 (t_2 - t_3) fun found3 =>
   nxt1 found3) (fun (found1 : List (R × Int)) =>
   retW found1 Q)
end
end Tk
end Mv
namespace Mv
namespace Tk
open PySem PySem.Spec PyProof.Rows L2
section
variable {ι κ α : Type} [DecidableEq κ]
theorem zdf {xs : List ι} {f : ι → κ} {v : α} {K : List (κ × α) → Prop} (hl : xs.length ≤ 1000000) (h : ∀ t : List (κ × α), (za t).Nodup → (∀ k, k ∈ za t ↔ ∃ x ∈ xs, f x = k) → (∀ k y, valG t k = some y → y = v) → t.length ≤ xs.length → K t) :
    x4 xs ([] : List (κ × α)) (fun x acc nx => putW acc (f x) v nx) K := by
  have hz : (1000000 : Nat) < sizeLine := by decide
  refine ⟨by omega, ?_⟩
  refine xi (fun i (t : List (κ × α)) => (za t).Nodup ∧ (∀ k, k ∈ za t ↔ ∃ j x, j < i ∧ xs[j]? = some x ∧ f x = k) ∧ (∀ k y, valG t k = some y → y = v) ∧ t.length ≤ i) ⟨.nil, by simp [za], by simp [valG], Nat.le_refl _⟩ ?_ ?_
  · intro i x t nx hx ⟨h1, h2, h3, h4⟩ hn
    have hi := (List.getElem?_eq_some_iff.mp hx).1
    refine ⟨by omega, hn _ ⟨jo h1 _ _, fun k => ?_, fun k y hy => ?_, Nat.le_trans (yq _ _ _) (by omega)⟩⟩
    · rw [uy]
      constructor
      · intro hk
        have hk' : k ∈ za t ∨ k = f x := by
          split at hk
          · exact .inl hk
          · simpa using hk
        rcases hk' with hk | rfl
        · obtain ⟨j, y, a, b, c⟩ := (h2 k).mp hk; exact ⟨j, y, by omega, b, c⟩
        · exact ⟨i, x, by omega, hx, rfl⟩
      · rintro ⟨j, y, a, b, rfl⟩
        by_cases e : j = i
        · subst e
          rw [hx] at b; cases b
          split
          · assumption
          · simp
        · have := (h2 (f y)).mpr ⟨j, y, by omega, b, rfl⟩
          split
          · exact this
          · simp [this]
    · rw [jh] at hy
      split at hy
      · cases hy; rfl
      · exact h3 k y hy
  · intro t ⟨h1, h2, h3, h4⟩
    refine h t h1 (fun k => (h2 k).trans ?_) h3 h4
    constructor
    · rintro ⟨j, x, a, b, c⟩; exact ⟨x, List.mem_of_getElem? b, c⟩
    · rintro ⟨x, hx, c⟩
      obtain ⟨j, hj, e⟩ := List.mem_iff_getElem.mp hx
      exact ⟨j, x, hj, by rw [List.getElem?_eq_getElem hj, e], c⟩
end
end Tk
end Mv
namespace Mv
namespace Mt
section
variable {R C : Type} [DecidableEq R] [DecidableEq C]
structure Mat (w : R → C → Option Int) (rs : List R) (f : R → Option C) : Prop where
  dom : ∀ r c, f r = some c → r ∈ rs ∧ ∃ x, w r c = some x
  inj : ∀ r r' c, f r = some c → f r' = some c → r = r'
structure Dual (w : R → C → Option Int) (rs : List R) (u : R → Int) (p : C → Int) : Prop where
  u0 : ∀ r, r ∈ rs → 0 ≤ u r
  p0 : ∀ c, 0 ≤ p c
  fe : ∀ r, r ∈ rs → ∀ c x, w r c = some x → x ≤ u r + p c
structure Cert (w : R → C → Option Int) (rs : List R) (f : R → Option C) (u : R → Int) (p : C → Int) : Prop where
  mt : Mat w rs f
  du : Dual w rs u p
  ti : ∀ r c x, f r = some c → w r c = some x → u r + p c = x
  un : ∀ r, r ∈ rs → f r = none → u r = 0
  fr : ∀ c, (∀ r, f r ≠ some c) → p c = 0
def val (w : R → C → Option Int) (f : R → Option C) (r : R) : Int := match f r with
  | some c => (w r c).getD 0
  | none => 0
def V (w : R → C → Option Int) (rs : List R) (f : R → Option C) : Int := (rs.map (val w f)).sum
theorem sum_le {α : Type} {a b : α → Int} : ∀ {l : List α}, (∀ x, x ∈ l → a x ≤ b x) → (l.map a).sum ≤ (l.map b).sum
  | [], _ => by simp
  | x :: l, h => by
    have := sum_le (l := l) fun y hy => h y (by simp [hy])
    have := h x (by simp)
    simp only [List.map_cons, List.sum_cons]; omega
theorem zcz {α : Type} {a b : α → Int} : ∀ {l : List α}, (l.map fun x => a x + b x).sum = (l.map a).sum + (l.map b).sum
  | [] => by simp
  | x :: l => by
    have := zcz (a := a) (b := b) (l := l)
    simp only [List.map_cons, List.sum_cons]; omega
theorem y0 {α : Type} [DecidableEq α] {p : α → Int} : ∀ {l : List α} {x : α}, x ∈ l → (l.map p).sum = p x + ((l.erase x).map p).sum
  | y :: l, x, h => by
    by_cases e : y = x
    · subst e; simp
    · have h2 : x ∈ l := by grind
      have := y0 (p := p) h2
      rw [List.erase_cons_tail (by simpa using e)]
      simp only [List.map_cons, List.sum_cons]; omega
theorem zhe {α : Type} {p : α → Int} {l : List α} (h : ∀ x, x ∈ l → 0 ≤ p x) : 0 ≤ (l.map p).sum := by
  induction l with
  | nil => simp
  | cons x l ih =>
    have := ih fun y hy => h y (by simp [hy])
    have := h x (by simp)
    simp only [List.map_cons, List.sum_cons]; omega
theorem zc0 {α : Type} [DecidableEq α] {p : α → Int} (h0 : ∀ x, 0 ≤ p x) : ∀ {l m : List α}, l.Nodup → (∀ x, x ∈ l → p x ≠ 0 → x ∈ m) → (l.map p).sum ≤ (m.map p).sum
  | [], m, _, _ => by simpa using zhe (l := m) fun x _ => h0 x
  | x :: l, m, nd, h => by
    have nd' := List.nodup_cons.mp nd
    by_cases e : p x = 0
    · have := zc0 h0 (l := l) (m := m) nd'.2 fun y hy => h y (by simp [hy])
      simp only [List.map_cons, List.sum_cons]; omega
    · have hx := h x (by simp) e
      have := zc0 h0 (l := l) (m := m.erase x) nd'.2 fun y hy ne => by
        have := h y (by simp [hy]) ne
        have : y ≠ x := fun z => nd'.1 (z ▸ hy)
        exact (List.mem_erase_of_ne this).mpr (h y (by simp [hy]) ne)
      rw [y0 hx]
      simp only [List.map_cons, List.sum_cons]; omega
def colv (p : C → Int) (f : R → Option C) (r : R) : Int := match f r with
  | some c => p c
  | none => 0
theorem y5 (p : C → Int) (f : R → Option C) : ∀ rs : List R, (rs.map (colv p f)).sum = ((rs.filterMap f).map p).sum
  | [] => by simp
  | r :: rs => by
    have := y5 p f rs
    cases e : f r <;> simp [colv, e, this]
theorem zcm {w : R → C → Option Int} {rs rs' : List R} {f : R → Option C} (m : Mat w rs' f) : ∀ {l : List R}, l.Nodup → (l.filterMap f).Nodup
  | [], _ => by simp
  | r :: l, nd => by
    have nd' := List.nodup_cons.mp nd
    have ih := zcm (rs := rs) m nd'.2
    cases e : f r with
    | none => simpa [e] using ih
    | some c =>
      rw [List.filterMap_cons_some e]
      refine List.nodup_cons.mpr ⟨fun h => ?_, ih⟩
      obtain ⟨r', h1, h2⟩ := List.mem_filterMap.mp h
      exact nd'.1 (m.inj _ _ _ e h2 ▸ h1)
theorem zq7 {w : R → C → Option Int} {rs : List R} {g : R → Option C} {u : R → Int} {p : C → Int} (D : Dual w rs u p) (G : Mat w rs g) : V w rs g ≤ (rs.map u).sum + (rs.map (colv p g)).sum := by
  unfold V
  rw [← zcz]
  refine sum_le fun r hr => ?_
  unfold val colv
  cases e : g r with
  | none => have := D.u0 r hr; simp; exact this
  | some c =>
    obtain ⟨_, x, hx⟩ := G.dom r c e
    have := D.fe r hr c x hx
    simp [hx]; exact this
theorem Cert.val {w : R → C → Option Int} {rs : List R} {f : R → Option C} {u : R → Int} {p : C → Int} (K : Cert w rs f u p) : V w rs f = (rs.map u).sum + (rs.map (colv p f)).sum := by
  unfold V
  rw [← zcz]
  congr 1
  refine List.map_congr_left fun r hr => ?_
  unfold Mt.val colv
  cases e : f r with
  | none => have := K.un r hr e; simp [this]
  | some c =>
    obtain ⟨_, x, hx⟩ := K.mt.dom r c e
    have := K.ti r c x e hx
    simp [hx, this]
theorem Cert.best {w : R → C → Option Int} {rs : List R} {f g : R → Option C} {u : R → Int} {p : C → Int} (nd : rs.Nodup) (K : Cert w rs f u p) (G : Mat w rs g) : V w rs g ≤ V w rs f := by
  have h1 := zq7 K.du G
  have h2 := K.val
  have h3 : (rs.map (colv p g)).sum ≤ (rs.map (colv p f)).sum := by
    rw [y5, y5]
    refine zc0 K.du.p0 (zcm (rs := rs) G nd) fun c hc ne => ?_
    cases h : (rs.filterMap f).contains c with
    | true => simpa using h
    | false =>
      exfalso
      refine ne (K.fr c fun r e => ?_)
      have : c ∈ rs.filterMap f := List.mem_filterMap.mpr ⟨r, (K.mt.dom r c e).1, e⟩
      simp at h
      simp at this
      obtain ⟨a, b, c⟩ := this
      exact h a b c
  omega
end
end Mt
end Mv
namespace Mv
namespace Mt
section
variable {R C : Type} [DecidableEq R] [DecidableEq C]
def set1 {α β : Type} [DecidableEq α] (f : α → β) (a : α) (b : β) : α → β := fun x => if x = a then b else f x
inductive Ends (m f : R → Option C) : Nat → R → Prop
  | stop {r : R} : m r = none → Ends m f 0 r
  | free {r : R} {c : C} : m r = some c → (∀ o, f o ≠ some c) → Ends m f 0 r
  | step {n : Nat} {r o : R} {c : C} : m r = some c → f o = some c → Ends m f n o → Ends m f (n + 1) r
structure Ctx (w : R → C → Option Int) (rs : List R) (z : R) (f : R → Option C) (u : R → Int) (p : C → Int) : Prop where
  mt : Mat w rs f
  du : Dual w rs u p
  ti : ∀ r c x, f r = some c → w r c = some x → u r + p c = x
  un : ∀ r, r ∈ rs → r ≠ z → f r = none → u r = 0
  fr : ∀ c, (∀ r, f r ≠ some c) → p c = 0
  zn : f z = none
structure Inv (w : R → C → Option Int) (rs : List R) (f : R → Option C) (u : R → Int) (p : C → Int) (g : R → Int) (m : R → Option C) : Prop where
  g0 : ∀ r, r ∈ rs → 0 ≤ g r
  gu : ∀ r, r ∈ rs → g r ≤ u r
  mz : ∀ r, r ∈ rs → m r = none → g r = 0
  mr : ∀ r c, m r = some c → r ∈ rs ∧ f r ≠ some c
  mf : ∀ r c x, m r = some c → w r c = some x → (∀ o, f o ≠ some c) → g r = x
  mo : ∀ r c x o y, m r = some c → w r c = some x → f o = some c → w o c = some y → g r ≤ x + g o - y
  mw : ∀ r c, m r = some c → ∃ x, w r c = some x
  en : ∀ r, r ∈ rs → ∃ n, Ends m f n r
theorem Inv.start {w : R → C → Option Int} {rs : List R} {z : R} {f : R → Option C} {u : R → Int} {p : C → Int} (X : Ctx w rs z f u p) : Inv w rs f u p (fun _ => 0) (fun _ => none) where
  g0 := by simp
  gu := X.du.u0
  mz := by simp
  mr := by simp
  mf := by simp
  mo := by simp
  mw := by simp
  en := fun r _ => ⟨0, .stop rfl⟩
def jy (w : R → C → Option Int) (g : R → Int) (x : Int) (c : C) : Option R → Int
  | none => x
  | some o => x + g o - (w o c).getD 0
theorem Inv.gain_le {w : R → C → Option Int} {rs : List R} {z : R} {f : R → Option C} {u : R → Int} {p : C → Int} {g : R → Int} {m : R → Option C} (X : Ctx w rs z f u p) (I : Inv w rs f u p g m) {r : R} {c : C} {x : Int} (hr : r ∈ rs) (hx : w r c = some x) {o : Option R} (ho : ∀ a, o = some a ↔ f a = some c) :
    jy w g x c o ≤ u r ∧ ∀ a, o = some a → u a - g a ≤ u r - jy w g x c o := by
  have h1 := X.du.fe r hr c x hx
  cases o with
  | none =>
    have := X.fr c fun a e => by have := (ho a).mpr e; simp at this
    simp [jy]; omega
  | some a =>
    have fa := (ho a).mp rfl
    obtain ⟨ha, y, hy⟩ := X.mt.dom a c fa
    have h2 := X.ti a c y fa hy
    have h3 := I.gu a ha
    refine ⟨by simp [jy, hy]; omega, fun b e => by cases e; simp [jy, hy]; omega⟩
theorem Ends.set {w : R → C → Option Int} {rs : List R} {z : R} {f : R → Option C} {u : R → Int} {p : C → Int} {g : R → Int} {m : R → Option C} (X : Ctx w rs z f u p) (I : Inv w rs f u p g m) {r : R} {c : C} : ∀ {n a}, Ends m f n a → u a - g a < u r - g r → ∃ n, Ends (set1 m r (some c)) f n a := by
  intro n a h
  induction h with
  | @stop a h =>
    intro lt
    have ne : a ≠ r := fun e => by subst e; omega
    exact ⟨0, .stop (by simp [set1, ne, h])⟩
  | @free a c' h hf =>
    intro lt
    have ne : a ≠ r := fun e => by subst e; omega
    exact ⟨0, .free (c := c') (by simp [set1, ne, h]) hf⟩
  | @step n a o c' h hf _ ih =>
    intro lt
    have ne : a ≠ r := fun e => by subst e; omega
    obtain ⟨x, hx⟩ := I.mw a c' h
    obtain ⟨ho, y, hy⟩ := X.mt.dom o c' hf
    have h1 := I.mo a c' x o y h hx hf hy
    have h2 := X.du.fe a (I.mr a c' h).1 c' x hx
    have h3 := X.ti o c' y hf hy
    obtain ⟨k, hk⟩ := ih (by omega)
    exact ⟨k + 1, .step (by simp [set1, ne, h]) hf hk⟩
theorem Inv.step {w : R → C → Option Int} {rs : List R} {z : R} {f : R → Option C} {u : R → Int} {p : C → Int} {g : R → Int} {m : R → Option C} (X : Ctx w rs z f u p) (I : Inv w rs f u p g m) {r : R} {c : C} {x : Int} (hr : r ∈ rs) (hx : w r c = some x) {o : Option R} (ho : ∀ a, o = some a ↔ f a = some c) (hn : f r ≠ some c) (hg : g r < jy w g x c o) :
    Inv w rs f u p (set1 g r (jy w g x c o)) (set1 m r (some c)) := by
  obtain ⟨h1, h2⟩ := I.gain_le X hr hx ho
  have g0 := I.g0 r hr
  refine ⟨fun a ha => ?_, fun a ha => ?_, fun a ha => ?_, fun a c' => ?_, fun a c' y => ?_, fun a c' y b v => ?_, fun a c' => ?_, ?_⟩
  · have := I.g0 a ha; unfold set1; split <;> omega
  · have := I.gu a ha; unfold set1; split
    · rename_i e; subst e; exact h1
    · exact this
  · have := I.mz a ha; unfold set1; split <;> simp_all
  · have := I.mr a c'; unfold set1; split
    · rename_i e; intro q; cases q; subst e; exact ⟨hr, hn⟩
    · exact this
  · have := I.mf a c' y; unfold set1; split
    · rename_i e; intro q e2 e3; cases q; subst e
      rw [hx] at e2; cases e2
      cases o with
      | none => rfl
      | some b => exact absurd ((ho b).mp rfl) (e3 b)
    · exact this
  · have := I.mo a c' y b v; unfold set1
    by_cases e : a = r
    · subst e
      simp only [if_true]
      intro q e2 e3 e4; cases q
      have hb : o = some b := (ho b).mpr e3
      have ne : b ≠ a := fun e => by subst e; exact hn e3
      rw [hx] at e2; cases e2
      subst hb
      simp [jy, e4, ne]
    · simp only [e, if_false]
      intro q e2 e3 e4
      have := this q e2 e3 e4
      split
      · rename_i e; subst e; omega
      · exact this
  · have := I.mw a c'; unfold set1; split
    · rename_i e; intro q; cases q; subst e; exact ⟨x, hx⟩
    · exact this
  · have er : ∃ n, Ends (set1 m r (some c)) f n r := by
      cases o with
      | none => exact ⟨0, .free (c := c) (by simp [set1]) fun b e => by have := (ho b).mpr e; simp at this⟩
      | some b =>
        have fb := (ho b).mp rfl
        obtain ⟨n, hn⟩ := I.en b (X.mt.dom b c fb).1
        obtain ⟨k, hk⟩ := Ends.set (c := c) (r := r) X I hn (by have := h2 b rfl; omega)
        exact ⟨k + 1, .step (by simp [set1]) fb hk⟩
    intro a ha
    obtain ⟨n, hn⟩ := I.en a ha
    clear ha
    induction hn with
    | @stop a h =>
      by_cases e : a = r
      · subst e; exact er
      · exact ⟨0, .stop (by simp [set1, e, h])⟩
    | @free a c' h hf =>
      by_cases e : a = r
      · subst e; exact er
      · exact ⟨0, .free (c := c') (by simp [set1, e, h]) hf⟩
    | @step n a o c' h hf _ ih =>
      by_cases e : a = r
      · subst e; exact er
      · obtain ⟨k, hk⟩ := ih
        exact ⟨k + 1, .step (by simp [set1, e, h]) hf hk⟩
def Fix (w : R → C → Option Int) (rs : List R) (f : R → Option C) (g : R → Int) : Prop :=
  ∀ r, r ∈ rs → ∀ c x o, w r c = some x → f r ≠ some c → (∀ a, o = some a ↔ f a = some c) → jy w g x c o ≤ g r
structure Pr (w : R → C → Option Int) (f : R → Option C) (g : R → Int) (q : C → Int) : Prop where
  ow : ∀ c o y, f o = some c → w o c = some y → q c = y - g o
  fr : ∀ c, (∀ o, f o ≠ some c) → q c = 0
theorem zya {m f : R → Option C} (inj : ∀ r r' c, f r = some c → f r' = some c → r = r') : ∀ {n k : Nat} {r : R}, Ends m f n r → Ends m f k r → n = k := by
  intro n k r h
  induction h generalizing k with
  | stop h => intro q; cases q <;> simp_all
  | free h hf => intro q; cases q <;> simp_all
  | @step n r o c h hf _ ih =>
    intro q
    cases q with
    | stop h' => simp_all
    | free h' hf' => simp_all
    | @step k _ o' c' h' hf' q =>
      rw [h] at h'; cases h'
      have := inj _ _ _ hf hf'
      subst this
      rw [ih q]
structure Mov (w : R → C → Option Int) (rs : List R) (f m : R → Option C) (g : R → Int) (q : C → Int) (F : R → Option C) (O : C → Option R) (n : Nat) (a : R) : Prop where
  ra : a ∈ rs
  en : Ends m f n a
  ori : ∀ c, (∀ r, O c = some r ↔ f r = some c) ∨ ∃ o k, f o = some c ∧ Ends m f k o ∧ n ≤ k
  inv : ∀ r c, O c = some r ↔ (r ≠ a ∧ F r = some c)
  ent : ∀ r c, r ≠ a → F r = some c → r ∈ rs ∧ ∃ x, w r c = some x ∧ g r + q c = x
  un : ∀ r, r ∈ rs → r ≠ a → F r = none → g r = 0
  cov : ∀ r c, f r = some c → ∃ o, O c = some o
theorem Pr.exists (w : R → C → Option Int) (f : R → Option C) (g : R → Int) (inj : ∀ r r' c, f r = some c → f r' = some c → r = r') (hw : ∀ r c, f r = some c → ∃ x, w r c = some x) : ∃ q, Pr w f g q := by
  refine ⟨fun c => open Classical in if h : ∃ o, f o = some c then (w (choose h) c).getD 0 - g (choose h) else 0, fun c o y h1 h2 => ?_, fun c h => ?_⟩
  · have h : ∃ o, f o = some c := ⟨o, h1⟩
    have e : Classical.choose h = o := inj _ _ _ (Classical.choose_spec h) h1
    simp only [dif_pos h, e, h2, Option.getD_some]
  · have : ¬ ∃ o, f o = some c := fun ⟨o, h1⟩ => h o h1
    simp only [dif_neg this]
section
variable {w : R → C → Option Int} {rs : List R} {z : R} {f : R → Option C} {u : R → Int} {p : C → Int} {g : R → Int} {m : R → Option C} {q : C → Int} {F : R → Option C} {O : C → Option R} {n : Nat} {a : R}
theorem Pr.du (X : Ctx w rs z f u p) (I : Inv w rs f u p g m) (Z : Fix w rs f g) (P : Pr w f g q) : Dual w rs g q := by
  have p0 : ∀ c, 0 ≤ q c := fun c => by
    by_cases h : ∃ o, f o = some c
    · obtain ⟨o, h⟩ := h
      obtain ⟨ho, y, hy⟩ := X.mt.dom o c h
      have h1 := P.ow c o y h hy
      have h2 := X.ti o c y h hy
      have h3 := I.gu o ho
      have h4 := X.du.p0 c
      omega
    · have := P.fr c fun o e => h ⟨o, e⟩
      omega
  refine ⟨I.g0, p0, fun r hr c x hx => ?_⟩
  by_cases h : f r = some c
  · have := P.ow c r x h hx; omega
  · by_cases h2 : ∃ o, f o = some c
    · obtain ⟨o, h2⟩ := h2
      obtain ⟨ho, y, hy⟩ := X.mt.dom o c h2
      have h3 := Z r hr c x (some o) hx h fun a => ⟨fun e => (by cases e; exact h2), fun e => by rw [X.mt.inj _ _ _ e h2]⟩
      have h1 := P.ow c o y h2 hy
      simp [jy, hy] at h3
      omega
    · have h3 := Z r hr c x none hx h fun a => ⟨fun e => (by cases e), fun e => absurd ⟨a, e⟩ h2⟩
      have := P.fr c fun o e => h2 ⟨o, e⟩
      simp [jy] at h3
      omega
theorem Mov.start (X : Ctx w rs z f u p) (I : Inv w rs f u p g m) (P : Pr w f g q) (hz : z ∈ rs) (hO : ∀ r c, O c = some r ↔ f r = some c) : ∃ n, Mov w rs f m g q f O n z := by
  obtain ⟨n, hn⟩ := I.en z hz
  refine ⟨n, hz, hn, fun c => .inl fun r => hO r c, fun r c => ?_, fun r c ne h => ?_, fun r hr ne h => ?_, fun r c h => ⟨r, (hO r c).mpr h⟩⟩
  · rw [hO]
    refine ⟨fun h => ⟨fun e => ?_, h⟩, fun h => h.2⟩
    subst e; rw [X.zn] at h; cases h
  · obtain ⟨h1, x, hx⟩ := X.mt.dom r c h
    have := P.ow c r x h hx
    exact ⟨h1, x, hx, by omega⟩
  · have h1 := X.un r hr ne h
    have h2 := I.gu r hr
    have h3 := I.g0 r hr
    omega
theorem Mov.step (X : Ctx w rs z f u p) (I : Inv w rs f u p g m) (Z : Fix w rs f g) (P : Pr w f g q) (M : Mov w rs f m g q F O n a) {c : C} (hm : m a = some c) :
    (O c = none ∧ (∀ r c', set1 O c (some a) c' = some r ↔ set1 F a (some c) r = some c') ∧ Cert w rs (set1 F a (some c)) g q) ∨
    (∃ o k, O c = some o ∧ n = k + 1 ∧ Mov w rs f m g q (set1 F a (some c)) (set1 O c (some a)) k o) := by
  obtain ⟨x, hx⟩ := I.mw a c hm
  have hr := (I.mr a c hm)
  have D := Pr.du X I Z P
  cases M.en with
  | stop h => rw [hm] at h; cases h
  | @free _ c' h hf =>
    rw [hm] at h; cases h
    have oc : O c = none := by
      rcases M.ori c with h | ⟨o, k, h, _⟩
      · cases e : O c with
        | none => rfl
        | some r => exact absurd ((h r).mp e) (hf r)
      · exact absurd h (hf o)
    have inv : ∀ r c', set1 O c (some a) c' = some r ↔ set1 F a (some c) r = some c' := fun r c' => by
      have := M.inv r c'
      have hc := M.inv r c
      unfold set1
      by_cases e1 : c' = c <;> by_cases e2 : r = a <;> grind
    have tight : g a + q c = x := by
      have h1 := I.mf a c x hm hx hf
      have h2 := P.fr c hf
      omega
    refine .inl ⟨oc, inv, ⟨⟨fun r c' e => ?_, fun r r' c' e e' => ?_⟩, D, fun r c' y e hy => ?_, fun r hr' e => ?_, fun c' h => ?_⟩⟩
    · by_cases e2 : r = a
      · subst e2; simp [set1] at e; subst e; exact ⟨hr.1, x, hx⟩
      · simp [set1, e2] at e
        obtain ⟨h1, y, hy, _⟩ := M.ent r c' e2 e
        exact ⟨h1, y, hy⟩
    · have h1 := (inv r c').mpr e
      have h2 := (inv r' c').mpr e'
      rw [h1] at h2; exact Option.some.inj h2
    · by_cases e2 : r = a
      · subst e2; simp [set1] at e; subst e; rw [hx] at hy; cases hy; exact tight
      · simp [set1, e2] at e
        obtain ⟨h1, y', hy', e3⟩ := M.ent r c' e2 e
        rw [hy'] at hy; cases hy; exact e3
    · by_cases e2 : r = a
      · subst e2; simp [set1] at e
      · simp [set1, e2] at e
        exact M.un r hr' e2 e
    · refine P.fr c' fun o ho => ?_
      obtain ⟨b, hb⟩ := M.cov o c' ho
      have h2 : set1 O c (some a) c' ≠ none := by unfold set1; split <;> simp [hb]
      cases e : set1 O c (some a) c' with
      | none => exact h2 e
      | some r => exact h r ((inv r c').mp e)
  | @step k _ o c' h hf hE =>
    rw [hm] at h; cases h
    have oc : O c = some o := by
      rcases M.ori c with h | ⟨o', j, h, hj, le⟩
      · exact (h o).mpr hf
      · have := X.mt.inj _ _ _ h hf
        subst this
        have := zya X.mt.inj hj hE
        omega
    have fo := (M.inv o c).mp oc
    obtain ⟨ho, y, hy⟩ := X.mt.dom o c hf
    have tight : g a + q c = x := by
      have h1 := I.mo a c x o y hm hx hf hy
      have h2 := P.ow c o y hf hy
      have h3 := D.fe a hr.1 c x hx
      omega
    refine .inr ⟨o, k, oc, rfl, ⟨ho, hE, fun c' => ?_, fun r c' => ?_, fun r c' ne e => ?_, fun r hr' ne e => ?_, fun r c' e => ?_⟩⟩
    · by_cases e : c' = c
      · subst e; exact .inr ⟨o, k, hf, hE, Nat.le_refl _⟩
      · rcases M.ori c' with h | ⟨o', j, h1, h2, h3⟩
        · exact .inl fun r => by simp only [set1, if_neg e]; exact h r
        · exact .inr ⟨o', j, h1, h2, by omega⟩
    · have h1 := M.inv r c'
      have h2 := M.inv r c
      have h3 := M.inv o c'
      unfold set1
      by_cases e1 : c' = c <;> by_cases e2 : r = a <;> by_cases e3 : r = o <;> grind
    · by_cases e2 : r = a
      · subst e2; simp [set1] at e; subst e; exact ⟨hr.1, x, hx, tight⟩
      · simp [set1, e2] at e
        exact M.ent r c' e2 e
    · by_cases e2 : r = a
      · subst e2; simp [set1] at e
      · simp [set1, e2] at e
        exact M.un r hr' e2 e
    · obtain ⟨b, hb⟩ := M.cov r c' e
      unfold set1
      split
      · exact ⟨a, rfl⟩
      · exact ⟨b, hb⟩
theorem Mov.stop (X : Ctx w rs z f u p) (I : Inv w rs f u p g m) (Z : Fix w rs f g) (P : Pr w f g q) (M : Mov w rs f m g q F O n a) (hm : m a = none) :
    (∀ r c', O c' = some r ↔ set1 F a none r = some c') ∧ Cert w rs (set1 F a none) g q := by
  have inv : ∀ r c', O c' = some r ↔ set1 F a none r = some c' := fun r c' => by
    have := M.inv r c'
    unfold set1
    by_cases e2 : r = a <;> grind
  refine ⟨inv, ⟨⟨fun r c' e => ?_, fun r r' c' e e' => ?_⟩, Pr.du X I Z P, fun r c' y e hy => ?_, fun r hr' e => ?_, fun c' h => ?_⟩⟩
  · by_cases e2 : r = a
    · subst e2; simp [set1] at e
    · simp [set1, e2] at e
      obtain ⟨h1, y, hy, _⟩ := M.ent r c' e2 e
      exact ⟨h1, y, hy⟩
  · have h1 := (inv r c').mpr e
    have h2 := (inv r' c').mpr e'
    rw [h1] at h2; exact Option.some.inj h2
  · by_cases e2 : r = a
    · subst e2; simp [set1] at e
    · simp [set1, e2] at e
      obtain ⟨h1, y', hy', e3⟩ := M.ent r c' e2 e
      rw [hy'] at hy; cases hy; exact e3
  · by_cases e2 : r = a
    · subst e2; exact I.mz r hr' hm
    · simp [set1, e2] at e
      exact M.un r hr' e2 e
  · refine P.fr c' fun o ho => ?_
    obtain ⟨b, hb⟩ := M.cov o c' ho
    exact h b ((inv b c').mp hb)
end
end
end Mt
end Mv
namespace Mv
namespace Mt
section
variable {R C : Type} [DecidableEq R] [DecidableEq C]
variable {w : R → C → Option Int} {rs : List R} {z : R} {f : R → Option C} {u : R → Int} {p : C → Int} {g : R → Int} {m : R → Option C}
def room (rs : List R) (u g : R → Int) : Nat := (rs.map fun r => u r - g r).sum.toNat
theorem sum_set {rs : List R} (nd : rs.Nodup) {r : R} (hr : r ∈ rs) (u g : R → Int) (x : Int) : (rs.map fun a => u a - set1 g r x a).sum = (rs.map fun a => u a - g a).sum - (x - g r) := by
  have h1 := y0 (p := fun a => u a - set1 g r x a) hr
  have h2 := y0 (p := fun a => u a - g a) hr
  have h3 : ((rs.erase r).map fun a => u a - set1 g r x a) = (rs.erase r).map fun a => u a - g a := List.map_congr_left fun a ha => by
    have : a ≠ r := fun e => by subst e; exact (List.Nodup.not_mem_erase nd) ha
    simp [set1, this]
  rw [h1, h2, h3]
  simp [set1]; omega
theorem Inv.room_step (X : Ctx w rs z f u p) (nd : rs.Nodup) (I : Inv w rs f u p g m) {r : R} {c : C} {x : Int} (hr : r ∈ rs) (hx : w r c = some x) {o : Option R} (ho : ∀ a, o = some a ↔ f a = some c) (hn : f r ≠ some c) (hg : g r < jy w g x c o) :
    room rs u (set1 g r (jy w g x c o)) < room rs u g := by
  have I' := I.step X hr hx ho hn hg
  have h1 := sum_set nd hr u g (jy w g x c o)
  have h2 : 0 ≤ (rs.map fun a => u a - set1 g r (jy w g x c o) a).sum := zhe (p := fun a => u a - set1 g r (jy w g x c o) a) fun a ha => by have := I'.gu a ha; omega
  unfold room
  omega
theorem owner (f : R → Option C) (inj : ∀ r r' c, f r = some c → f r' = some c → r = r') (c : C) : ∃ o : Option R, ∀ a, o = some a ↔ f a = some c := by
  by_cases h : ∃ a, f a = some c
  · obtain ⟨a, h⟩ := h
    exact ⟨some a, fun b => ⟨fun e => by cases e; exact h, fun e => by rw [inj _ _ _ e h]⟩⟩
  · exact ⟨none, fun b => ⟨fun e => (by cases e), fun e => absurd ⟨b, e⟩ h⟩⟩
theorem owners (f : R → Option C) (inj : ∀ r r' c, f r = some c → f r' = some c → r = r') : ∃ O : C → Option R, ∀ r c, O c = some r ↔ f r = some c :=
  ⟨fun c => Classical.choose (owner f inj c), fun r c => Classical.choose_spec (owner f inj c) r⟩
theorem zlx (X : Ctx w rs z f u p) (nd : rs.Nodup) : ∀ (k : Nat) (g : R → Int) (m : R → Option C), room rs u g ≤ k → Inv w rs f u p g m → ∃ g m, Inv w rs f u p g m ∧ Fix w rs f g := by
  intro k
  induction k with
  | zero =>
    intro g m hk I
    by_cases h : Fix w rs f g
    · exact ⟨g, m, I, h⟩
    · simp only [Fix, Classical.not_forall] at h
      obtain ⟨r, hr, c, x, o, hx, hn, ho, hg⟩ := h
      have := I.room_step X nd hr hx ho hn (by omega)
      omega
  | succ k ih =>
    intro g m hk I
    by_cases h : Fix w rs f g
    · exact ⟨g, m, I, h⟩
    · simp only [Fix, Classical.not_forall] at h
      obtain ⟨r, hr, c, x, o, hx, hn, ho, hg⟩ := h
      have := I.room_step X nd hr hx ho hn (by omega)
      exact ih _ _ (by omega) (I.step X hr hx ho hn (by omega))
theorem zly {q : C → Int} (X : Ctx w rs z f u p) (I : Inv w rs f u p g m) (Z : Fix w rs f g) (P : Pr w f g q) : ∀ (n : Nat) (F : R → Option C) (O : C → Option R) (a : R), Mov w rs f m g q F O n a → ∃ F, Cert w rs F g q := by
  intro n
  induction n with
  | zero =>
    intro F O a M
    cases h : m a with
    | none => exact ⟨_, (M.stop X I Z P h).2⟩
    | some c =>
      rcases M.step X I Z P h with ⟨_, _, h⟩ | ⟨o, k, _, e, _⟩
      · exact ⟨_, h⟩
      · cases e
  | succ n ih =>
    intro F O a M
    cases h : m a with
    | none => exact ⟨_, (M.stop X I Z P h).2⟩
    | some c =>
      rcases M.step X I Z P h with ⟨_, _, h⟩ | ⟨o, k, _, e, M'⟩
      · exact ⟨_, h⟩
      · cases e; exact ih _ _ _ M'
def jz (w : R → C → Option Int) (cs : List C) : Prop := ∀ r c x, w r c = some x → c ∈ cs
theorem zlz (a : C → Int) : ∀ cs : List C, ∃ b : Int, 0 ≤ b ∧ ∀ c, c ∈ cs → a c ≤ b
  | [] => ⟨0, Int.le_refl _, by simp⟩
  | c :: cs => by
    obtain ⟨b, h0, h⟩ := zlz a cs
    refine ⟨if a c ≤ b then b else a c, by split <;> omega, fun d hd => ?_⟩
    rcases List.mem_cons.mp hd with e | e
    · subst e; split <;> omega
    · have := h d e; split <;> omega
theorem Cert.ctx {cs : List C} (hl : jz w cs) (K : Cert w rs f u p) (hz : z ∉ rs) : ∃ u', Ctx w (rs ++ [z]) z f u' p := by
  obtain ⟨b, b0, hb⟩ := zlz (fun c => (w z c).getD 0 - p c) cs
  have fz : f z = none := by
    cases e : f z with
    | none => rfl
    | some c => exact absurd (K.mt.dom z c e).1 hz
  refine ⟨set1 u z b, ⟨fun r c e => ?_, K.mt.inj⟩, ⟨fun r hr => ?_, K.du.p0, fun r hr c x hx => ?_⟩, fun r c x e hx => ?_, fun r hr ne e => ?_, K.fr, fz⟩
  · obtain ⟨h1, h2⟩ := K.mt.dom r c e
    exact ⟨by simp [h1], h2⟩
  · unfold set1
    split
    · exact b0
    · rename_i ne; exact K.du.u0 r (by simpa [ne] using hr)
  · unfold set1
    split
    · rename_i e; subst e
      have := hb c (hl _ _ _ hx)
      simp [hx] at this
      omega
    · rename_i ne; exact K.du.fe r (by simpa [ne] using hr) c x hx
  · have ne : r ≠ z := fun e2 => by subst e2; rw [fz] at e; cases e
    simp only [set1, if_neg ne]
    exact K.ti r c x e hx
  · simp only [set1, if_neg ne]
    exact K.un r (by simpa [ne] using hr) e
theorem Cert.more {cs : List C} (hl : jz w cs) (K : Cert w rs f u p) (nd : rs.Nodup) (hz : z ∉ rs) : ∃ f u p, Cert w (rs ++ [z]) f u p := by
  obtain ⟨u', X⟩ := K.ctx hl hz
  have nd' : (rs ++ [z]).Nodup := List.nodup_append.mpr ⟨nd, by simp, fun a ha b hb e => by simp at hb; subst hb; subst e; exact hz ha⟩
  obtain ⟨g, m, I, Z⟩ := zlx X nd' _ _ _ (Nat.le_refl _) (Inv.start X)
  obtain ⟨q, P⟩ := Pr.exists w f g X.mt.inj fun r c h => (X.mt.dom r c h).2
  obtain ⟨O, hO⟩ := owners f X.mt.inj
  obtain ⟨n, M⟩ := Mov.start X I P (by simp) hO
  obtain ⟨F, h⟩ := zly X I Z P n f O z M
  exact ⟨F, g, q, h⟩
theorem zkd {cs : List C} (hl : jz w cs) : ∀ rs : List R, rs.Nodup → ∃ f u p, Cert w rs.reverse f u p
  | [], _ => ⟨fun _ => none, fun _ => 0, fun _ => 0, ⟨by simp, by simp⟩, ⟨by simp, by simp, by simp⟩, by simp, by simp, by simp⟩
  | z :: rs, nd => by
    have nd' := List.nodup_cons.mp nd
    obtain ⟨f, u, p, K⟩ := zkd hl rs nd'.2
    rw [List.reverse_cons]
    exact K.more hl ((List.reverse_perm rs).nodup_iff.mpr nd'.2) (by simpa using nd'.1)
end
end Mt
end Mv
namespace Mv
namespace Mt
section
variable {R C : Type} [DecidableEq R] [DecidableEq C]
variable {w : R → C → Option Int} {rs : List R} {z : R} {f F : R → Option C} {u : R → Int} {p : C → Int} {g : R → Int} {m : R → Option C} {q : C → Int}
theorem zq8 {α : Type} {a : α → Int} : ∀ {l : List α}, (∀ x, x ∈ l → 0 ≤ a x) → (l.map a).sum ≤ 0 → ∀ x, x ∈ l → a x = 0
  | [], _, _ => by simp
  | y :: l, h, hs => by
    have h1 := h y (by simp)
    have h2 := zhe (p := a) (l := l) fun x hx => h x (by simp [hx])
    simp only [List.map_cons, List.sum_cons] at hs
    have ih := zq8 (a := a) (l := l) (fun x hx => h x (by simp [hx])) (by omega)
    intro x hx
    rcases List.mem_cons.mp hx with e | e
    · subst e; omega
    · exact ih x e
theorem zgf {α : Type} {a b : α → Int} : ∀ {l : List α}, (l.map fun x => a x - b x).sum = (l.map a).sum - (l.map b).sum
  | [] => by simp
  | x :: l => by
    have := zgf (a := a) (b := b) (l := l)
    simp only [List.map_cons, List.sum_cons]; omega
theorem zhf {w : R → C → Option Int} {f : R → Option C} (G : Mat w rs f) {c : C} : c ∈ rs.filterMap f ↔ ∃ r, f r = some c := by
  rw [List.mem_filterMap]
  exact ⟨fun ⟨r, _, h⟩ => ⟨r, h⟩, fun ⟨r, h⟩ => ⟨r, (G.dom r c h).1, h⟩⟩
theorem Cert.cols_le (nd : rs.Nodup) (K : Cert w rs F g q) {w' : R → C → Option Int} (G : Mat w' rs f) : (rs.map (colv q f)).sum ≤ (rs.map (colv q F)).sum := by
  rw [y5, y5]
  refine zc0 K.du.p0 (zcm (rs := rs) G nd) fun c hc ne => ?_
  refine (zhf K.mt).mpr ?_
  refine Classical.byContradiction fun h => ne (K.fr c fun r e => h ⟨r, e⟩)
theorem Cert.other (nd : rs.Nodup) (K : Cert w rs F g q) (G : Mat w rs f) (h : V w rs F ≤ V w rs f) : Cert w rs f g q := by
  have h1 := zq7 K.du G
  have h2 := K.val
  have h3 := K.cols_le nd G
  have term : ∀ r, r ∈ rs → (g r + colv q f r) - Mt.val w f r = 0 := by
    refine zq8 (fun r hr => ?_) ?_
    · unfold Mt.val colv
      cases e : f r with
      | none => have := K.du.u0 r hr; simp; exact this
      | some c =>
        obtain ⟨_, x, hx⟩ := G.dom r c e
        have := K.du.fe r hr c x hx
        simp [hx]; omega
    · rw [zgf, zcz]
      unfold V at h h1 h2
      omega
  refine ⟨G, K.du, fun r c x e hx => ?_, fun r hr e => ?_, fun c hc => ?_⟩
  · have := term r (G.dom r c e).1
    simp [Mt.val, colv, e, hx] at this
    omega
  · have := term r hr
    simp [Mt.val, colv, e] at this
    exact this
  · by_cases ne : q c = 0
    · exact ne
    · exfalso
      have nf : c ∉ rs.filterMap f := fun h => by obtain ⟨r, e⟩ := (zhf G).mp h; exact hc r e
      have h4 : (((c :: rs.filterMap f)).map q).sum ≤ ((rs.filterMap F).map q).sum := by
        refine zc0 K.du.p0 (List.nodup_cons.mpr ⟨nf, zcm (rs := rs) G nd⟩) fun d hd ned => ?_
        exact (zhf K.mt).mpr (Classical.byContradiction fun h => ned (K.fr d fun r e => h ⟨r, e⟩))
      have h0 := K.du.p0 c
      have e1 := y5 q f rs
      have e2 := y5 q F rs
      simp only [List.map_cons, List.sum_cons] at h4
      omega
theorem zq9 {cs : List C} (hl : jz w cs) (nd : rs.Nodup) : ∃ f u p, Cert w rs f u p := by
  have := zkd hl rs.reverse ((List.reverse_perm rs).nodup_iff.mpr nd)
  simpa using this
theorem znu {cs : List C} (hl : jz w cs) (nd : rs.Nodup) (G : Mat w rs f) (h : ∀ F, Mat w rs F → V w rs F ≤ V w rs f) : ∃ u p, Cert w rs f u p := by
  obtain ⟨F, u, p, K⟩ := zq9 hl nd
  exact ⟨u, p, K.other nd G (h F K.mt)⟩
structure PInv (w : R → C → Option Int) (rs : List R) (f : R → Option C) (pr : C → Int) : Prop where
  p0 : ∀ c, 0 ≤ pr c
  le : ∀ u p, Cert w rs f u p → ∀ c, pr c ≤ p c
def ur (w : R → C → Option Int) (f : R → Option C) (pr : C → Int) (r : R) (x : Int) : Int := match f r with
  | some c => x + pr c - (w r c).getD 0
  | none => x
theorem PInv.start : PInv w rs f (fun _ => 0) := ⟨fun _ => Int.le_refl _, fun _ _ K c => K.du.p0 c⟩
theorem PInv.step {pr : C → Int} (I : PInv w rs f pr) {r : R} {c : C} {x : Int} (hr : r ∈ rs) (hx : w r c = some x) (hg : pr c < ur w f pr r x) : PInv w rs f (set1 pr c (ur w f pr r x)) := by
  refine ⟨fun d => ?_, fun u p K d => ?_⟩
  · have := I.p0 d
    have := I.p0 c
    unfold set1; split <;> omega
  · have h1 := I.le u p K
    unfold set1
    split
    · rename_i e; subst e
      have h2 := K.du.fe r hr d x hx
      unfold ur
      cases e : f r with
      | none => have := K.un r hr e; simp; omega
      | some c' =>
        obtain ⟨_, y, hy⟩ := K.mt.dom r c' e
        have h3 := K.ti r c' y e hy
        have h4 := h1 c'
        simp [hy]; omega
    · exact h1 d
def PFix (w : R → C → Option Int) (rs : List R) (f : R → Option C) (pr : C → Int) : Prop := ∀ r, r ∈ rs → ∀ c x, w r c = some x → ur w f pr r x ≤ pr c
def worthOf (w : R → C → Option Int) (f : R → Option C) (pr : C → Int) (r : R) : Int := match f r with
  | some c => (w r c).getD 0 - pr c
  | none => 0
theorem PInv.cert {pr : C → Int} (I : PInv w rs f pr) (Z : PFix w rs f pr) (K : Cert w rs f u p) : Cert w rs f (worthOf w f pr) pr := by
  have hle := I.le u p K
  refine ⟨K.mt, ⟨fun r hr => ?_, I.p0, fun r hr c x hx => ?_⟩, fun r c x e hx => ?_, fun r hr e => ?_, fun c hc => ?_⟩
  · unfold worthOf
    cases e : f r with
    | none => simp
    | some c =>
      obtain ⟨_, y, hy⟩ := K.mt.dom r c e
      have h3 := K.ti r c y e hy
      have h4 := hle c
      have h5 := K.du.u0 r hr
      simp [hy]; omega
  · have h := Z r hr c x hx
    unfold ur at h
    unfold worthOf
    cases e : f r with
    | none => rw [e] at h; simp at h ⊢; omega
    | some c' => rw [e] at h; simp at h ⊢; omega
  · simp [worthOf, e, hx]
  · simp [worthOf, e]
  · have h1 := K.fr c hc
    have h2 := hle c
    have h3 := I.p0 c
    omega
def wOut (w : R → C → Option Int) (z : R) : R → C → Option Int := fun r c => if r = z then none else w r c
theorem Cert.more2 {cs : List C} (hl : jz w cs) (K : Cert w rs f u p) (nd : rs.Nodup) (hz : z ∉ rs) : ∃ F g q, Cert w (rs ++ [z]) F g q ∧ Cert w rs f g q := by
  obtain ⟨u', X⟩ := K.ctx hl hz
  have nd' : (rs ++ [z]).Nodup := List.nodup_append.mpr ⟨nd, by simp, fun a ha b hb e => by simp at hb; subst hb; subst e; exact hz ha⟩
  obtain ⟨g, m, I, Z⟩ := zlx X nd' _ _ _ (Nat.le_refl _) (Inv.start X)
  obtain ⟨q, P⟩ := Pr.exists w f g X.mt.inj fun r c h => (X.mt.dom r c h).2
  obtain ⟨O, hO⟩ := owners f X.mt.inj
  obtain ⟨n, M⟩ := Mov.start X I P (by simp) hO
  obtain ⟨F, h⟩ := zly X I Z P n f O z M
  refine ⟨F, g, q, h, ⟨K.mt, ⟨fun r hr => h.du.u0 r (by simp [hr]), h.du.p0, fun r hr => h.du.fe r (by simp [hr])⟩, fun r c x e hx => ?_, fun r hr e => ?_, fun c hc => P.fr c hc⟩⟩
  · have ne : r ≠ z := fun e2 => by subst e2; exact hz (K.mt.dom r c e).1
    obtain ⟨_, y, hy, h1⟩ := M.ent r c ne e
    rw [hx] at hy; cases hy; exact h1
  · have ne : r ≠ z := fun e2 => by subst e2; exact hz hr
    exact M.un r (by simp [hr]) ne e
theorem sum_perm {α : Type} {a : α → Int} {l m : List α} (h : l.Perm m) : (l.map a).sum = (m.map a).sum := by
  induction h with
  | nil => rfl
  | cons x _ ih => simp [ih]
  | swap x y l => simp; omega
  | trans _ _ h1 h2 => exact h1.trans h2
theorem Cert.perm {rs' : List R} (h : rs.Perm rs') (K : Cert w rs f u p) : Cert w rs' f u p :=
  ⟨⟨fun r c e => ⟨h.mem_iff.mp (K.mt.dom r c e).1, (K.mt.dom r c e).2⟩, K.mt.inj⟩, ⟨fun r hr => K.du.u0 r (h.mem_iff.mpr hr), K.du.p0, fun r hr => K.du.fe r (h.mem_iff.mpr hr)⟩, K.ti, fun r hr => K.un r (h.mem_iff.mpr hr), K.fr⟩
theorem worth_row {cs : List C} {pr : C → Int} {f' : R → Option C} (hl : jz w cs) (nd : rs.Nodup) (I : PInv w rs f pr) (Z : PFix w rs f pr) (K : Cert w rs f u p) (hz : z ∈ rs)
    (G : Mat (wOut w z) rs f') (best : ∀ F, Mat (wOut w z) rs F → V (wOut w z) rs F ≤ V (wOut w z) rs f') : V (wOut w z) rs f' = V w rs f - worthOf w f pr z := by
  have K1 := I.cert Z K
  have s1 := y0 (p := worthOf w f pr) hz
  have v1 := K1.val
  have c1 := K1.cols_le nd G
  -- at most
  have up : V (wOut w z) rs f' ≤ V w rs f - worthOf w f pr z := by
    have D : Dual (wOut w z) rs (set1 (worthOf w f pr) z 0) pr := ⟨fun r hr => by have := K1.du.u0 r hr; unfold set1; split <;> omega, I.p0, fun r hr c x hx => by
      unfold wOut at hx
      split at hx
      · cases hx
      · rename_i ne
        simp only [set1, if_neg ne]
        exact K1.du.fe r hr c x hx⟩
    have h1 := zq7 D G
    have s2 := y0 (p := set1 (worthOf w f pr) z 0) hz
    have s3 : (rs.erase z).map (set1 (worthOf w f pr) z 0) = (rs.erase z).map (worthOf w f pr) := List.map_congr_left fun a ha => by
      have : a ≠ z := fun e => by subst e; exact (List.Nodup.not_mem_erase nd) ha
      simp [set1, this]
    rw [s3] at s2
    have s4 : set1 (worthOf w f pr) z 0 z = 0 := by simp [set1]
    omega
  -- at least
  have hlo : jz (wOut w z) cs := fun r c x h => by
    unfold wOut at h
    split at h
    · cases h
    · exact hl _ _ _ h
  have fz : f' z = none := by
    cases e : f' z with
    | none => rfl
    | some c => obtain ⟨_, x, hx⟩ := G.dom z c e; simp [wOut] at hx
  obtain ⟨u2, p2, K2⟩ := znu hlo nd G best
  have ze : z ∉ rs.erase z := List.Nodup.not_mem_erase nd
  have K3 : Cert w (rs.erase z) f' u2 p2 := by
    refine ⟨⟨fun r c e => ?_, K2.mt.inj⟩, ⟨fun r hr => K2.du.u0 r (List.mem_of_mem_erase hr), K2.du.p0, fun r hr c x hx => ?_⟩, fun r c x e hx => ?_, fun r hr => K2.un r (List.mem_of_mem_erase hr), K2.fr⟩
    · have ne : r ≠ z := fun e2 => by subst e2; rw [fz] at e; cases e
      obtain ⟨h1, x, hx⟩ := K2.mt.dom r c e
      simp [wOut, ne] at hx
      exact ⟨(List.mem_erase_of_ne ne).mpr h1, x, hx⟩
    · have ne : r ≠ z := fun e2 => by subst e2; exact ze hr
      exact K2.du.fe r (List.mem_of_mem_erase hr) c x (by simp [wOut, ne, hx])
    · have ne : r ≠ z := fun e2 => by subst e2; rw [fz] at e; cases e
      exact K2.ti r c x e (by simp [wOut, ne, hx])
  obtain ⟨F, g, q, KF, Kf⟩ := K3.more2 hl (nd.erase z) ze
  have pm : (rs.erase z ++ [z]).Perm rs := (List.perm_append_comm).trans (List.perm_cons_erase hz).symm
  have KF' := KF.perm pm
  have b1 := K.best nd KF'.mt
  have b2 := KF'.best nd K.mt
  have Kfg := KF'.other nd K.mt b1
  -- the least prices are below these
  have gz : g z ≤ worthOf w f pr z := by
    unfold worthOf
    cases e : f z with
    | none => have := Kfg.un z hz e; simp; omega
    | some c =>
      obtain ⟨_, y, hy⟩ := K.mt.dom z c e
      have h1 := Kfg.ti z c y e hy
      have h2 := I.le g q Kfg c
      simp [hy]; omega
  have v3 := Kf.val
  have v4 := KF'.val
  have sg := y0 (p := g) hz
  have vv : V (wOut w z) rs f' = V w (rs.erase z) f' := by
    unfold V
    rw [y0 (p := Mt.val (wOut w z) f') hz]
    have e0 : Mt.val (wOut w z) f' z = 0 := by simp [Mt.val, fz]
    rw [e0, Int.zero_add]
    congr 1
    refine List.map_congr_left fun a ha => ?_
    have ne : a ≠ z := fun e => by subst e; exact ze ha
    unfold Mt.val
    cases f' a <;> simp [wOut, ne]
  have cz : (rs.map (colv q F)).sum ≤ ((rs.erase z).map (colv q f')).sum := by
    have e1 : (rs.map (colv q F)).sum = ((rs.filterMap F).map q).sum := y5 q F rs
    have e2 : ((rs.erase z).map (colv q f')).sum = (((rs.erase z).filterMap f').map q).sum := y5 q f' _
    rw [e1, e2]
    refine zc0 KF.du.p0 (zcm (rs := rs) KF'.mt nd) fun c hc ne => ?_
    exact (zhf Kf.mt).mpr (Classical.byContradiction fun h => ne (Kf.fr c fun r e => h ⟨r, e⟩))
  omega
end
end Mt
end Mv
namespace Mv
namespace Tk
open PySem PySem.Spec PyProof.Rows L2
open Mt (Cert PInv PFix ur worthOf set1 Mat)
section
variable {R C : Type} [DecidableEq R] [DecidableEq C]
def tb (t : List ((R × C) × Int)) : R → C → Option Int := fun r c => valG t (r, c)
def fn {κ α : Type} [DecidableEq κ] (t : List (κ × α)) : κ → Option α := fun k => valG t k
def pv (t : List (C × Int)) : C → Int := fun c => (valG t c).getD 0
theorem zgg (t : List (C × Int)) (c : C) (x : Int) : pv (putG t c x) = set1 (pv t) c x := by
  funext d
  unfold pv set1
  rw [jh]
  split <;> rfl
def rm (cs : List C) (p q : C → Int) : Nat := (cs.map fun c => (p c - q c).toNat).sum
theorem zra {p q : C → Int} {c : C} {x : Int} : ∀ {cs : List C}, cs.Nodup → c ∈ cs → q c < x → x ≤ p c → rm cs p (set1 q c x) < rm cs p q
  | d :: cs, nd, hc, h1, h2 => by
    obtain ⟨n1, n2⟩ := List.nodup_cons.mp nd
    have no : ∀ cs : List C, c ∉ cs → rm cs p (set1 q c x) = rm cs p q := by
      intro cs h
      unfold rm
      congr 1
      refine List.map_congr_left fun e he => ?_
      have : e ≠ c := fun z => h (z ▸ he)
      simp [set1, this]
    rcases List.mem_cons.mp hc with e | hc
    · subst e
      have h3 := no cs n1
      unfold rm at h3 ⊢
      rw [List.map_cons, List.map_cons, List.sum_cons, List.sum_cons, h3]
      have e1 : set1 q c x c = x := if_pos rfl
      rw [e1]
      omega
    · have h3 := zra (p := p) n2 hc h1 h2
      have : d ≠ c := fun z => n1 (z ▸ hc)
      unfold rm at h3 ⊢
      rw [List.map_cons, List.map_cons, List.sum_cons, List.sum_cons]
      simp only [set1, if_neg this] at h3 ⊢
      omega
end
end Tk
end Mv
namespace Mv
namespace Tk
open PySem PySem.Spec PyProof.Rows L2
open Mt (Cert PInv PFix ur worthOf set1 Mat)
section
variable {R C : Type} [DecidableEq R] [DecidableEq C] {entries : List ((R × C) × Int)} {pairs : List (R × C)} {rs : List R} {u : R → Int} {p : C → Int}
theorem has_iff {κ α : Type} [DecidableEq κ] {t : List (κ × α)} {k : κ} : hasG t k = true ↔ k ∈ za t := valG_key.symm
theorem z2z {Q : List (C × Int) → Prop} (nd : (za entries).Nodup) (hl : entries.length ≤ 1000000) (K : Cert (tb entries) rs (fn pairs) u p) (hr : ∀ r c, (r, c) ∈ za entries → r ∈ rs)
    (h : ∀ prices : List (C × Int), (za prices).Nodup → (∀ c, c ∈ za prices ↔ ∃ r, (r, c) ∈ za entries) → prices.length ≤ entries.length → PInv (tb entries) rs (fn pairs) (pv prices) → PFix (tb entries) rs (fn pairs) (pv prices) → Q prices) : cpW entries pairs Q := by
  have hz : (1000000 : Nat) < sizeLine := by decide
  have lk : (za entries).length = entries.length := by simp [za]
  refine zdf (f := fun x : R × C => x.2) (by rw [lk]; exact hl) fun t0 h1 h2 h3 h4 => ?_
  have cols : ∀ c, c ∈ za t0 ↔ ∃ r, (r, c) ∈ za entries := fun c => (h2 c).trans ⟨fun ⟨x, hx, e⟩ => ⟨x.1, by subst e; exact hx⟩, fun ⟨r, hx⟩ => ⟨_, hx, rfl⟩⟩
  have p00 : pv t0 = fun _ => 0 := by
    funext c
    unfold pv
    cases e : valG t0 c with
    | none => rfl
    | some v => exact h3 c v e
  have dom : ∀ r c x, tb entries r c = some x → (r, c) ∈ za entries := fun r c x e => valG_key.mpr (by unfold tb at e; rw [e]; rfl)
  -- what stays
  let B : List (C × Int) → Prop := fun t => za t = za t0 ∧ PInv (tb entries) rs (fn pairs) (pv t)
  refine ⟨fun n t b => B t ∧ (b = false → PFix (tb entries) rs (fn pairs) (pv t)) ∧ rm (za t0) p (pv t) + (if b = true then 1 else 0) ≤ n, ⟨_, ⟨rfl, p00 ▸ PInv.start⟩, fun z => (nomatch z), Nat.le_refl _⟩, ?_⟩
  rintro n t b ⟨⟨b1, b2⟩, bf, bm⟩
  show if b = true then _ else _
  cases b with
  | false =>
    rw [if_neg (by decide)]
    refine h t (b1 ▸ h1) (fun c => by rw [b1]; exact cols c) ?_ b2 (bf rfl)
    have e1 : (za t).length = (za t0).length := by rw [b1]
    have e2 : (za t).length = t.length := by simp [za]
    have e3 : (za t0).length = t0.length := by simp [za]
    omega
  | true =>
    rw [if_pos rfl]
    rw [if_pos rfl] at bm
    refine zde (fun i t' b' => B t' ∧ (b' = false → t' = t ∧ ∀ j x, j < i → entries[j]? = some x → ur (tb entries) (fn pairs) (pv t) x.1.1 x.2 ≤ pv t x.1.2) ∧ rm (za t0) p (pv t') ≤ rm (za t0) p (pv t) ∧ (b' = true → rm (za t0) p (pv t') < rm (za t0) p (pv t)))
      ⟨⟨b1, b2⟩, fun _ => ⟨rfl, fun j x hj => absurd hj (Nat.not_lt_zero _)⟩, Nat.le_refl _, fun z => (nomatch z)⟩ ?_ ?_
    · intro i x t' b' nx hx ⟨⟨c1, c2⟩, cf, cm, ct⟩ hn
      obtain ⟨⟨r, c⟩, g⟩ := x
      have hxe : (r, c) ∈ za entries := by
        unfold za
        exact List.mem_map.mpr ⟨_, List.mem_of_getElem? hx, rfl⟩
      have hval : tb entries r c = some g := jf nd (List.mem_of_getElem? hx)
      have hrr : r ∈ rs := hr r c hxe
      have hc0 : c ∈ za t0 := (cols c).mpr ⟨r, hxe⟩
      have hct : c ∈ za t' := by rw [c1]; exact hc0
      -- behind the branch
      have fin : ∀ y : Int, y = ur (tb entries) (fn pairs) (pv t') r g → (getW t' c fun t_5 => ifW (decide (t_5 < y)) (putW t' c y fun prices5 => asgW true fun is_changed6 => nx prices5 is_changed6) (nx t' b')) := by
        intro y hy
        obtain ⟨z, hz2⟩ : ∃ z, valG t' c = some z := Option.isSome_iff_exists.mp (valG_key.mp hct)
        have hpz : pv t' c = z := by unfold pv; rw [hz2]; rfl
        refine ⟨z, hz2, ?_⟩
        show ifW (decide (z < y)) _ _
        unfold ifW
        by_cases lt : z < y
        · rw [decide_eq_true lt, if_pos rfl]
          have hlen : t'.length < sizeLine := by
            have e1 : (za t').length = (za t0).length := by rw [c1]
            have e2 : (za t').length = t'.length := by simp [za]
            have e3 : (za t0).length = t0.length := by simp [za]
            omega
          have I2 := PInv.step (pr := pv t') c2 hrr hval (by rw [hpz, ← hy]; exact lt)
          rw [← hy] at I2
          have le1 : y ≤ p c := by
            have := I2.le u p K c
            have e : set1 (pv t') c y c = y := if_pos rfl
            rw [e] at this; exact this
          have rm1 := zra (p := p) h1 hc0 (show pv t' c < y by rw [hpz]; exact lt) le1
          refine ⟨hlen, hn _ _ ⟨⟨?_, ?_⟩, fun z => (nomatch z), ?_, fun _ => ?_⟩⟩
          · rw [uy, if_pos hct, c1]
          · rw [zgg]; exact I2
          · rw [zgg]; omega
          · rw [zgg]; omega
        · rw [decide_eq_false lt, if_neg (by decide)]
          refine hn _ _ ⟨⟨c1, c2⟩, fun hb => ?_, cm, ct⟩
          obtain ⟨e, hall⟩ := cf hb
          refine ⟨e, fun j x hj hjx => ?_⟩
          by_cases ji : j = i
          · subst ji
            rw [hx] at hjx; cases hjx
            subst e
            show ur _ _ _ r g ≤ pv t' c
            rw [hpz, ← hy]; omega
          · exact hall j x (by omega) hjx
      show ifW (hasG pairs r) (getW pairs r fun t_1 => getW t' t_1 fun t_2 => getW pairs r fun t_3 => getW entries (r, t_3) fun t_4 => _) _
      unfold ifW
      cases hp : valG pairs r with
      | none =>
        have e1 : hasG pairs r = false := by unfold hasG; rw [hp]; rfl
        rw [e1, if_neg (by decide)]
        refine fin g ?_
        unfold ur fn; rw [hp]
      | some c' =>
        have e1 : hasG pairs r = true := by unfold hasG; rw [hp]; rfl
        rw [e1, if_pos rfl]
        obtain ⟨_, y, hy⟩ := K.mt.dom r c' hp
        have hc' : c' ∈ za t' := by rw [c1]; exact (cols c').mpr ⟨r, dom r c' y hy⟩
        obtain ⟨z, hz2⟩ : ∃ z, valG t' c' = some z := Option.isSome_iff_exists.mp (valG_key.mp hc')
        refine ⟨c', hp, z, hz2, c', hp, y, hy, ?_⟩
        refine fin (g + (z - y)) ?_
        have e2 : fn pairs r = some c' := hp
        unfold ur
        rw [e2]
        show g + (z - y) = g + pv t' c' - (tb entries r c').getD 0
        rw [hy]
        unfold pv
        rw [hz2]
        simp only [Option.getD_some]
        omega
    · intro t' b' ⟨c0, cf, cm, ct⟩
      cases b' with
      | true =>
        have := ct rfl
        exact ⟨n - 1, by omega, c0, fun z => (nomatch z), by rw [if_pos rfl]; omega⟩
      | false =>
        obtain ⟨e, hall⟩ := cf rfl
        subst e
        refine ⟨n - 1, by omega, c0, fun _ r hr c x hx => ?_, by rw [if_neg (by decide)]; omega⟩
        have hm := ui hx
        obtain ⟨j, hj, e⟩ := List.mem_iff_getElem.mp hm
        exact hall j ((r, c), x) hj (by rw [List.getElem?_eq_getElem hj, e])
end
end Tk
end Mv
namespace Mv
namespace Tk
open PySem PySem.Spec PyProof.Rows L2
open Mt (Cert PInv PFix ur worthOf set1 Mat)
section
variable {R C : Type} [DecidableEq R] [DecidableEq C] {entries : List ((R × C) × Int)} {pairs : List (R × C)} {rs : List R} {u : R → Int} {p : C → Int}
open Classical in
theorem z20 {Q : List (R × Int) → Prop} (nd : (za entries).Nodup) (hl : entries.length ≤ 1000000) (np : (za pairs).Nodup) (K : Cert (tb entries) rs (fn pairs) u p) (hr : ∀ r c, (r, c) ∈ za entries → r ∈ rs)
    (h : ∀ (prices : List (C × Int)) (found : List (R × Int)), PInv (tb entries) rs (fn pairs) (pv prices) → PFix (tb entries) rs (fn pairs) (pv prices) → (za found).Nodup → (∀ r, r ∈ za found ↔ ∃ c, (r, c) ∈ za entries) → found.length ≤ entries.length →
      (∀ r, r ∈ za found → valG found r = some (worthOf (tb entries) (fn pairs) (pv prices) r)) → Q found) : rwW entries pairs Q := by
  have hz : (1000000 : Nat) < sizeLine := by decide
  have lk : (za entries).length = entries.length := by simp [za]
  refine z2z nd hl K hr fun prices q1 q2 q3 q4 q5 => ?_
  refine zdf (f := fun x : R × C => x.1) (by rw [lk]; exact hl) fun t0 h1 h2 h3 h4 => ?_
  have rows : ∀ r, r ∈ za t0 ↔ ∃ c, (r, c) ∈ za entries := fun c => (h2 c).trans ⟨fun ⟨x, hx, e⟩ => ⟨x.2, by subst e; exact hx⟩, fun ⟨r, hx⟩ => ⟨_, hx, rfl⟩⟩
  have dom : ∀ r c x, tb entries r c = some x → (r, c) ∈ za entries := fun r c x e => valG_key.mpr (by unfold tb at e; rw [e]; rfl)
  have mem : ∀ r c, (r, c) ∈ pairs → ∃ y, tb entries r c = some y ∧ fn pairs r = some c := fun r c hm => by
    have e : fn pairs r = some c := jf np hm
    obtain ⟨_, y, hy⟩ := K.mt.dom r c e
    exact ⟨y, hy, e⟩
  refine xi (fun i (t : List (R × Int)) => za t = za t0 ∧ ∀ r, r ∈ za t0 → valG t r = some (if ∃ j c, j < i ∧ pairs[j]? = some (r, c) then worthOf (tb entries) (fn pairs) (pv prices) r else 0)) ⟨rfl, fun r hk => ?_⟩ ?_ ?_
  · obtain ⟨v, hv⟩ := Option.isSome_iff_exists.mp (valG_key.mp hk)
    rw [hv, h3 r v hv, if_neg]
    rintro ⟨j, c, hj, _⟩; omega
  · intro i x t nx hx ⟨c1, c2⟩ hn
    obtain ⟨r, c⟩ := x
    obtain ⟨y, hy, e⟩ := mem r c (List.mem_of_getElem? hx)
    have hck : c ∈ za prices := (q2 c).mpr ⟨r, dom r c y hy⟩
    obtain ⟨z, hz2⟩ := Option.isSome_iff_exists.mp (valG_key.mp hck)
    have hrk : r ∈ za t0 := (rows r).mpr ⟨c, dom r c y hy⟩
    have hlen : t.length < sizeLine := by
      have e1 : (za t).length = (za t0).length := by rw [c1]
      have e2 : (za t).length = t.length := by simp [za]
      have e3 : (za t0).length = t0.length := by simp [za]
      omega
    refine ⟨y, hy, z, hz2, hlen, hn _ ⟨by rw [uy, if_pos (by rw [c1]; exact hrk), c1], fun r' hk => ?_⟩⟩
    rw [jh]
    by_cases er : r' = r
    · subst er
      rw [if_pos rfl, if_pos ⟨i, c, by omega, hx⟩]
      unfold worthOf
      rw [e]
      show some (y - z) = some ((tb entries r' c).getD 0 - pv prices c)
      rw [hy]
      unfold pv
      rw [hz2]; rfl
    · rw [if_neg er, c2 r' hk]
      congr 1
      by_cases q : ∃ j c, j < i ∧ pairs[j]? = some (r', c)
      · obtain ⟨j, d, hj, hd⟩ := q
        rw [if_pos ⟨j, d, hj, hd⟩, if_pos ⟨j, d, by omega, hd⟩]
      · rw [if_neg q, if_neg]
        rintro ⟨j, d, hj, hd⟩
        by_cases ji : j = i
        · subst ji; rw [hx] at hd; cases hd; exact er rfl
        · exact q ⟨j, d, by omega, hd⟩
  · intro t ⟨c1, c2⟩
    have e1 : (za t).length = (za t0).length := by rw [c1]
    have e2 : (za t).length = t.length := by simp [za]
    have e3 : (za t0).length = t0.length := by simp [za]
    refine h prices t q4 q5 (c1 ▸ h1) (fun r => by rw [c1]; exact rows r) (by omega) fun r hk => ?_
    rw [c1] at hk
    rw [c2 r hk]
    congr 1
    split
    · rfl
    · rename_i q
      unfold worthOf
      cases e : fn pairs r with
      | none => rfl
      | some c =>
        refine absurd ?_ q
        obtain ⟨j, hj, e'⟩ := List.mem_iff_getElem.mp (ui e)
        exact ⟨j, c, hj, by rw [List.getElem?_eq_getElem hj, e']⟩
end
end Tk
end Mv
namespace Mv
namespace Tk
open PySem PySem.Spec PyProof.Rows L2
section
variable {R C : Type} [DecidableEq R] [DecidableEq C]
def reW (ks : List (R × C)) (entries : List ((R × C) × Int)) (Q : List (R × List (C × Int)) → Prop) : Prop :=
 asgW ([] : List (R × List (C × Int))) fun found =>
 zx (entries.length ≤ 16777216) <| xo ks found (fun (x_ : R × C) (found2 : List (R × List (C × Int))) nxt =>
   sdfW found2 x_.1 ([] : List (C × Int)) fun found3 =>
   getW entries x_ fun t_ => getW found3 x_.1 fun row => putW row x_.2 t_ fun row1 => asgW (putG found3 x_.1 row1) fun found4 =>
   nxt found4) (fun (found1 : List (R × List (C × Int))) =>
   retW found1 Q)
def bmW (rows : List (R × List (C × Int))) (pairs : List (R × C)) (owners : List (C × R)) (Q : List (R × C) → Prop) : Prop :=
 x4 (za rows) ([] : List (R × Int)) (fun (x_ : R) (acc : List (R × Int)) (nxt : List (R × Int) → Prop) => putW acc x_ (0 : Int) nxt) fun t_ => asgW t_ fun gains =>
 asgW ([] : List (R × C)) fun moves =>
 asgW true fun is_changed =>
 zea gains moves is_changed (fun (gains2 : List (R × Int)) (moves2 : List (R × C)) (is_changed2 : Bool) k_ => k_ is_changed2) (fun (gains2 : List (R × Int)) (moves2 : List (R × C)) (is_changed2 : Bool) nxt1 =>
   asgW false fun is_changed3 =>
   zbo rows gains2 moves2 is_changed3 (fun (x_1 : R × List (C × Int)) (gains4 : List (R × Int)) (moves4 : List (R × C)) (is_changed5 : Bool) nxt2 =>
     zbo x_1.2 gains4 moves4 is_changed5 (fun (x_2 : C × Int) (gains6 : List (R × Int)) (moves6 : List (R × C)) (is_changed7 : Bool) nxt3 =>
       asgW x_2.2 fun gain =>
       zd3 (fun (gain1 : Int) =>
         getW gains6 x_1.1 fun t_5 => ifW ((decide (t_5 < gain1)) && (!eqB (valG pairs x_1.1) (some x_2.1)))
          (putW gains6 x_1.1 (gain1, x_2.1).1 fun gains7 => putW moves6 x_1.1 (gain1, x_2.1).2 fun moves7 =>
           asgW true fun is_changed8 =>
           nxt3 gains7 moves7 is_changed8)
          (nxt3 gains6 moves6 is_changed7)) fun cont =>
       ifW (hasG owners x_2.1)
        (getW owners x_2.1 fun t_1 => asgW t_1 fun other =>
       getW gains6 other fun t_2 => getW rows other fun t_3 => getW t_3 x_2.1 fun t_4 => asgW (gain + (t_2 - t_4)) fun gain2 =>
       cont gain2)
        (cont gain)) (fun (gains5 : List (R × Int)) (moves5 : List (R × C)) (is_changed6 : Bool) =>
       nxt2 gains5 moves5 is_changed6)) (fun (gains3 : List (R × Int)) (moves3 : List (R × C)) (is_changed4 : Bool) =>
     nxt1 gains3 moves3 is_changed4)) (fun (gains1 : List (R × Int)) (moves1 : List (R × C)) (is_changed1 : Bool) =>
   retW moves1 Q)
def gpW (ks : List (R × C)) (entries : List ((R × C) × Int)) (Q : List (R × C) → Prop) : Prop :=
 reW ks entries fun t_ => asgW t_ fun every =>
 zpy ([] : List (R × List (C × Int))) ([] : List (R × C)) ([] : List (C × R)) fun rows pairs owners =>
 zbo every rows pairs owners (fun (x_ : R × List (C × Int)) (rows2 : List (R × List (C × Int))) (pairs2 : List (R × C)) (owners2 : List (C × R)) nxt =>
   putW rows2 x_.1 x_.2 fun rows3 =>
   bmW rows3 pairs2 owners2 fun t_1 => asgW t_1 fun moves =>
   asgW (some x_.1) fun row =>
   zea pairs2 owners2 row (fun (pairs4 : List (R × C)) (owners4 : List (C × R)) (row2 : Option R) k_ => k_ (inN moves row2)) (fun (pairs4 : List (R × C)) (owners4 : List (C × R)) (row2 : Option R) nxt1 =>
     unW row2 fun t_2 => getW moves t_2 fun t_3 => asgW t_3 fun column =>
     asgW (valG owners4 column) fun other =>
     unW row2 fun t_4 => unW row2 fun t_5 => putW pairs4 t_5 (column, t_4).1 fun pairs5 => putW owners4 column (column, t_4).2 fun owners5 =>
     asgW other fun row3 =>
     nxt1 pairs5 owners5 row3) (fun (pairs3 : List (R × C)) (owners3 : List (C × R)) (row1 : Option R) =>
     asgW (zlw pairs3 row1) fun pairs6 =>
     nxt rows3 pairs6 owners3)) (fun (rows1 : List (R × List (C × Int))) (pairs1 : List (R × C)) (owners1 : List (C × R)) =>
   retW pairs1 Q)
end
end Tk
end Mv
namespace Mv
namespace Tk
open PySem PySem.Spec PyProof.Rows L2
open Mt (Cert Ctx Inv Fix jy set1 Mat)
section
variable {R C : Type} [DecidableEq R] [DecidableEq C] {rows : List (R × List (C × Int))} {pairs : List (R × C)} {owners : List (C × R)} {u : R → Int} {p : C → Int} {z : R}
theorem zao {α : Type} [DecidableEq α] : ∀ {l m : List α}, l.Nodup → (∀ x ∈ l, x ∈ m) → l.length ≤ m.length
  | [], m, _, _ => Nat.zero_le _
  | x :: l, m, nd, h => by
    obtain ⟨n1, n2⟩ := List.nodup_cons.mp nd
    have hx := h x (by simp)
    have := zao (m := m.erase x) n2 fun y hy => (List.mem_erase_of_ne (show y ≠ x from fun e => n1 (e ▸ hy))).mpr (h y (by simp [hy]))
    rw [List.length_erase_of_mem hx] at this
    have h0 : 0 < m.length := List.length_pos_of_mem hx
    simp only [List.length_cons]; omega
def nb (rows : List (R × List (C × Int))) : R → C → Option Int := fun r c => (valG rows r).bind fun t => valG t c
theorem zgh {κ α : Type} [DecidableEq κ] (t : List (κ × α)) (k : κ) (v : α) : fn (putG t k v) = set1 (fn t) k (some v) := by
  funext d
  unfold fn set1
  rw [jh]
theorem z21 {Q : List (R × C) → Prop} (nd : (za rows).Nodup) (hl : rows.length ≤ 1000000) (ni : ∀ q ∈ rows, (za q.2).Nodup) (X : Ctx (nb rows) (za rows) z (fn pairs) u p) (ho : ∀ r c, fn owners c = some r ↔ fn pairs r = some c)
    (h : ∀ (moves : List (R × C)) (g : R → Int), Inv (nb rows) (za rows) (fn pairs) u p g (fn moves) → Fix (nb rows) (za rows) (fn pairs) g → Q moves) : bmW rows pairs owners Q := by
  have hz : (1000000 : Nat) < sizeLine := by decide
  have lk : (za rows).length = rows.length := by simp [za]
  refine zdf (f := fun x : R => x) (by rw [lk]; exact hl) fun t0 h1 h2 h3 h4 => ?_
  have dom : ∀ r, r ∈ za t0 ↔ r ∈ za rows := fun r => (h2 r).trans ⟨fun ⟨x, hx, e⟩ => e ▸ hx, fun hx => ⟨r, hx, rfl⟩⟩
  have p00 : pv t0 = fun _ => 0 := by
    funext c
    unfold pv
    cases e : valG t0 c with
    | none => rfl
    | some v => exact h3 c v e
  have row_of : ∀ r t, (r, t) ∈ rows → ∀ c x, (c, x) ∈ t → nb rows r c = some x := fun r t hm c x hc => by
    unfold nb
    rw [jf nd hm]
    exact jf (ni _ hm) hc
  let B : List (R × Int) → List (R × C) → Prop := fun t m => za t = za t0 ∧ (za m).Nodup ∧ Inv (nb rows) (za rows) (fn pairs) u p (pv t) (fn m)
  have start : B t0 [] := ⟨rfl, .nil, by
    rw [p00]
    have : (fn ([] : List (R × C))) = fun _ => none := by funext r; rfl
    rw [this]; exact Inv.start X⟩
  refine ⟨fun n t m b => B t m ∧ (b = false → Fix (nb rows) (za rows) (fn pairs) (pv t)) ∧ rm (za rows) u (pv t) + (if b = true then 1 else 0) ≤ n, ⟨_, start, fun z => (nomatch z), Nat.le_refl _⟩, ?_⟩
  rintro n t m b ⟨bB, bf, bm⟩
  show if b = true then _ else _
  cases b with
  | false =>
    rw [if_neg (by decide)]
    exact h m (pv t) bB.2.2 (bf rfl)
  | true =>
    rw [if_pos rfl]
    rw [if_pos rfl] at bm
    -- what holds while the entries are walked; V the entries that were seen
    let J : List (R × Int) → List (R × C) → Bool → (R → C → Int → Prop) → Prop := fun t' m' b' V => B t' m' ∧ (b' = false → t' = t ∧ ∀ r c x, V r c x → nb rows r c = some x → fn pairs r ≠ some c → ∀ o, (∀ a, o = some a ↔ fn pairs a = some c) → jy (nb rows) (pv t) x c o ≤ pv t r) ∧
      rm (za rows) u (pv t') ≤ rm (za rows) u (pv t) ∧ (b' = true → rm (za rows) u (pv t') < rm (za rows) u (pv t))
    have one : ∀ (r : R) (c : C) (x : Int) (t' : List (R × Int)) (m' : List (R × C)) (b' : Bool) (V V' : R → C → Int → Prop) (nx : List (R × Int) → List (R × C) → Bool → Prop), r ∈ za rows → nb rows r c = some x → J t' m' b' V → (∀ r' c' x', V' r' c' x' → V r' c' x' ∨ (r' = r ∧ c' = c)) → (∀ t2 m2 b2, J t2 m2 b2 V' → nx t2 m2 b2) →
        zd3 (fun (gain1 : Int) =>
         getW t' r fun t_5 => ifW ((decide (t_5 < gain1)) && (!eqB (valG pairs r) (some c)))
          (putW t' r (gain1, c).1 fun gains7 => putW m' r (gain1, c).2 fun moves7 =>
           asgW true fun is_changed8 =>
           nx gains7 moves7 is_changed8)
          (nx t' m' b')) fun cont =>
       ifW (hasG owners c)
        (getW owners c fun t_1 => asgW t_1 fun other =>
       getW t' other fun t_2 => getW rows other fun t_3 => getW t_3 c fun t_4 => asgW (x + (t_2 - t_4)) fun gain2 =>
       cont gain2)
        (cont x) := by
      intro r c x t' m' b' V V' nx hr hx ⟨⟨c1, c2, c3⟩, cf, cm, ct⟩ hV hn
      obtain ⟨v, hv⟩ : ∃ v, valG t' r = some v := Option.isSome_iff_exists.mp (valG_key.mp (by rw [c1]; exact (dom r).mpr hr))
      have hpv : pv t' r = v := by unfold pv; rw [hv]; rfl
      have fin : ∀ (y : Int) (o : Option R), (∀ a, o = some a ↔ fn pairs a = some c) → y = jy (nb rows) (pv t') x c o → (getW t' r fun t_5 => ifW ((decide (t_5 < y)) && (!eqB (valG pairs r) (some c))) (putW t' r (y, c).1 fun gains7 => putW m' r (y, c).2 fun moves7 => asgW true fun is_changed8 => nx gains7 moves7 is_changed8) (nx t' m' b')) := by
        intro y o hoo hy
        refine ⟨v, hv, ?_⟩
        show ifW (decide (v < y) && !eqB (valG pairs r) (some c)) _ _
        unfold ifW
        by_cases lt : v < y ∧ fn pairs r ≠ some c
        · have e1 : (decide (v < y) && !eqB (valG pairs r) (some c)) = true := by
            rw [Bool.and_eq_true]
            refine ⟨decide_eq_true lt.1, ?_⟩
            rw [Bool.not_eq_true']
            exact eqB_no.mpr lt.2
          rw [e1, if_pos rfl]
          have I2 := Inv.step X c3 hr hx hoo lt.2 (by rw [hpv, ← hy]; exact lt.1)
          rw [← hy] at I2
          have le1 : y ≤ u r := by
            have := I2.gu r hr
            have e : set1 (pv t') r y r = y := if_pos rfl
            rw [e] at this; exact this
          have rm1 := zra (p := u) nd hr (show pv t' r < y by rw [hpv]; exact lt.1) le1
          have l1 : t'.length < sizeLine := by
            have a1 : (za t').length = (za t0).length := by rw [c1]
            have a2 : (za t').length = t'.length := by simp [za]
            have a3 : (za t0).length = t0.length := by simp [za]
            omega
          have l2 : m'.length < sizeLine := by
            have a1 := zao c2 fun q hq => (c3.mr q _ (show fn m' q = some _ from (Option.some_get (valG_key.mp hq)).symm)).1
            have a2 : (za m').length = m'.length := by simp [za]
            omega
          refine ⟨l1, l2, hn _ _ _ ⟨⟨?_, jo c2 _ _, ?_⟩, fun z => (nomatch z), ?_, fun _ => ?_⟩⟩
          · rw [uy, if_pos (by rw [c1]; exact (dom r).mpr hr), c1]
          · show Inv _ _ _ u p (pv (putG t' r y)) (fn (putG m' r c))
            rw [zgg, zgh]; exact I2
          · show rm _ u (pv (putG t' r y)) ≤ _
            rw [zgg]; omega
          · show rm _ u (pv (putG t' r y)) < _
            rw [zgg]; omega
        · have e1 : (decide (v < y) && !eqB (valG pairs r) (some c)) = false := by
            cases q : (decide (v < y) && !eqB (valG pairs r) (some c)) with
            | false => rfl
            | true =>
              rw [Bool.and_eq_true, Bool.not_eq_true'] at q
              exact absurd ⟨of_decide_eq_true q.1, eqB_no.mp q.2⟩ lt
          rw [e1, if_neg (by decide)]
          refine hn _ _ _ ⟨⟨c1, c2, c3⟩, fun hb => ?_, cm, ct⟩
          obtain ⟨e, hall⟩ := cf hb
          refine ⟨e, fun r' c' x' hv' hx' hne o' ho' => ?_⟩
          rcases hV r' c' x' hv' with hv' | ⟨rfl, rfl⟩
          · exact hall r' c' x' hv' hx' hne o' ho'
          · rw [hx] at hx'; cases hx'
            have eo : o' = o := by
              cases o with
              | none =>
                cases o' with
                | none => rfl
                | some b => exact (nomatch (hoo b).mpr ((ho' b).mp rfl))
              | some a => exact (ho' a).mpr ((hoo a).mp rfl)
            subst eo
            subst e
            rw [← hy, hpv]
            by_cases l : v < y
            · exact absurd ⟨l, hne⟩ lt
            · omega
      show ifW (hasG owners c) _ _
      unfold ifW
      cases hp : valG owners c with
      | none =>
        have e1 : hasG owners c = false := by unfold hasG; rw [hp]; rfl
        rw [e1, if_neg (by decide)]
        refine fin x none (fun a => ⟨fun e => (nomatch e), fun e => ?_⟩) rfl
        have := (ho a c).mpr e
        unfold fn at this
        rw [hp] at this; cases this
      | some a =>
        have e1 : hasG owners c = true := by unfold hasG; rw [hp]; rfl
        rw [e1, if_pos rfl]
        have fa : fn pairs a = some c := (ho a c).mp hp
        obtain ⟨ha, y, hy⟩ := X.mt.dom a c fa
        obtain ⟨va, hva⟩ : ∃ v, valG t' a = some v := Option.isSome_iff_exists.mp (valG_key.mp (by rw [c1]; exact (dom a).mpr ha))
        unfold nb at hy
        obtain ⟨ra, hra, hy2⟩ := Option.bind_eq_some_iff.mp hy
        refine ⟨a, hp, va, hva, ra, hra, y, hy2, ?_⟩
        refine fin (x + (va - y)) (some a) (fun b => ⟨fun e => by cases e; exact fa, fun e => by rw [X.mt.inj b a c e fa]⟩) ?_
        show x + (va - y) = x + pv t' a - (nb rows a c).getD 0
        have e3 : nb rows a c = some y := by unfold nb; rw [hra]; exact hy2
        rw [e3]
        unfold pv
        rw [hva]
        simp only [Option.getD_some]
        omega
    refine ziy (fun i t' m' b' => J t' m' b' fun r c x => ∃ j q, j < i ∧ rows[j]? = some q ∧ q.1 = r ∧ (c, x) ∈ q.2) ⟨bB, fun _ => ⟨rfl, fun r c x ⟨j, q, hj, _⟩ => absurd hj (Nat.not_lt_zero _)⟩, Nat.le_refl _, fun z => (nomatch z)⟩ ?_ ?_
    · intro i q t' m' b' nx hq hJ hn
      obtain ⟨r, tr⟩ := q
      have hm := List.mem_of_getElem? hq
      have hr : r ∈ za rows := by unfold za; exact List.mem_map.mpr ⟨_, hm, rfl⟩
      refine ziy (fun k t' m' b' => J t' m' b' fun r' c x => (∃ j q, j < i ∧ rows[j]? = some q ∧ q.1 = r' ∧ (c, x) ∈ q.2) ∨ (r' = r ∧ ∃ j, j < k ∧ tr[j]? = some (c, x))) ?_ ?_ ?_
      · obtain ⟨a, b, c, d⟩ := hJ
        refine ⟨a, fun hb => ⟨(b hb).1, fun r' c' x' hv => ?_⟩, c, d⟩
        rcases hv with hv | ⟨_, j, hj, _⟩
        · exact (b hb).2 r' c' x' hv
        · exact absurd hj (Nat.not_lt_zero _)
      · intro k y t2 m2 b2 nx2 hy hJ2 hn2
        obtain ⟨c, x⟩ := y
        refine one r c x t2 m2 b2 _ _ nx2 hr (row_of r tr hm c x (List.mem_of_getElem? hy)) hJ2 (fun r' c' x' hv => ?_) hn2
        rcases hv with hv | ⟨rfl, j, hj, e⟩
        · exact .inl (.inl hv)
        · by_cases jk : j = k
          · subst jk; rw [hy] at e; cases e; exact .inr ⟨rfl, rfl⟩
          · exact .inl (.inr ⟨rfl, j, by omega, e⟩)
      · intro t2 m2 b2 ⟨a, b, c, d⟩
        refine hn _ _ _ ⟨a, fun hb => ⟨(b hb).1, fun r' c' x' ⟨j, q, hj, e1, e2, e3⟩ => ?_⟩, c, d⟩
        by_cases ji : j = i
        · subst ji
          rw [hq] at e1; cases e1
          obtain ⟨l, hl2, e4⟩ := List.mem_iff_getElem.mp e3
          exact (b hb).2 r' c' x' (.inr ⟨e2.symm, l, hl2, by rw [List.getElem?_eq_getElem hl2, e4]⟩)
        · exact (b hb).2 r' c' x' (.inl ⟨j, q, by omega, e1, e2, e3⟩)
    · intro t' m' b' ⟨c0, cf, cm, ct⟩
      cases b' with
      | true =>
        have := ct rfl
        exact ⟨n - 1, by omega, c0, fun z => (nomatch z), by rw [if_pos rfl]; omega⟩
      | false =>
        obtain ⟨e, hall⟩ := cf rfl
        subst e
        refine ⟨n - 1, by omega, c0, fun _ r hr c x o hx hne hoo => ?_, by rw [if_neg (by decide)]; omega⟩
        unfold nb at hx
        obtain ⟨tr, htr, hx2⟩ := Option.bind_eq_some_iff.mp hx
        have hm := ui htr
        obtain ⟨j, hj, e⟩ := List.mem_iff_getElem.mp hm
        exact hall r c x ⟨j, (r, tr), hj, by rw [List.getElem?_eq_getElem hj, e], rfl, ui hx2⟩ hx hne o hoo
end
end Tk
end Mv
namespace Mv
namespace Tk
open PySem PySem.Spec PyProof.Rows L2
open Mt (Cert Ctx Inv Fix jy set1 Mat Mov Pr jz)
section
variable {R C : Type} [DecidableEq R] [DecidableEq C] {entries : List ((R × C) × Int)}
theorem zko {κ α : Type} [DecidableEq κ] (t : List (κ × α)) (k : κ) (v : α) (k' : κ) : valG (setG t k v) k' = if k' = k then some ((valG t k).getD v) else valG t k' := by
  unfold setG
  cases h : valG t k with
  | some x =>
    rw [if_pos (show (some x).isSome = true from rfl)]
    split
    · rename_i e; subst e; exact h
    · rfl
  | none =>
    rw [if_neg (by simp)]
    have h2 : k ∉ za t := fun z => by have := valG_key.mp z; rw [h] at this; cases this
    have := jh t k v k'
    rw [v5 h2] at this
    exact this
theorem zff {κ α : Type} [DecidableEq κ] (t : List (κ × α)) (k : κ) (v : α) : za (setG t k v) = if k ∈ za t then za t else za t ++ [k] := by
  unfold setG
  cases h : valG t k with
  | some x =>
    rw [if_pos (show (some x).isSome = true from rfl), if_pos (valG_key.mpr (by rw [h]; rfl))]
  | none =>
    have h2 : k ∉ za t := fun z => by have := valG_key.mp z; rw [h] at this; cases this
    rw [if_neg (by simp), if_neg h2]
    simp [za]
theorem xc {κ α : Type} (t : List (κ × α)) : (za t).length = t.length := by simp [za]
theorem z22 {ks : List (R × C)} {Q : List (R × List (C × Int)) → Prop} (nd : (za entries).Nodup) (hl : entries.length ≤ 1000000) (hp : ks.Perm (za entries))
    (h : ∀ every : List (R × List (C × Int)), (za every).Nodup → (∀ q ∈ every, (za q.2).Nodup) → every.length ≤ entries.length → (∀ r c, nb every r c = tb entries r c) → (∀ r, r ∈ za every ↔ ∃ c, (r, c) ∈ za entries) → Q every) : reW ks entries Q := by
  have hz : (1000000 : Nat) < sizeLine := by decide
  have lk : ks.length = entries.length := by rw [hp.length_eq, xc]
  refine ⟨by omega, ?_⟩
  refine xi (fun i (t : List (R × List (C × Int))) => (za t).Nodup ∧ (∀ r row, valG t r = some row → (za row).Nodup ∧ row.length ≤ i) ∧ (∀ r c x, nb t r c = some x ↔ ∃ j, j < i ∧ ks[j]? = some (r, c) ∧ tb entries r c = some x) ∧ (∀ r, r ∈ za t ↔ ∃ j c, j < i ∧ ks[j]? = some (r, c)) ∧ t.length ≤ i)
    ⟨.nil, fun r row e => (nomatch e), fun r c x => ⟨fun e => (nomatch e), fun ⟨j, hj, _⟩ => absurd hj (Nat.not_lt_zero _)⟩, fun r => ⟨fun e => (nomatch e), fun ⟨j, c, hj, _⟩ => absurd hj (Nat.not_lt_zero _)⟩, Nat.le_refl _⟩ ?_ ?_
  · intro i k t nx hk ⟨h1, h2, h3, h4, h5⟩ hn
    obtain ⟨r, c⟩ := k
    have hi := (List.getElem?_eq_some_iff.mp hk).1
    have hke : (r, c) ∈ za entries := hp.mem_iff.mp (List.mem_of_getElem? hk)
    obtain ⟨x, hx⟩ := Option.isSome_iff_exists.mp (valG_key.mp hke)
    refine ⟨by omega, x, hx, (valG t r).getD [], by rw [zko, if_pos rfl], ?_⟩
    have hrow : (za ((valG t r).getD [])).Nodup ∧ ((valG t r).getD []).length ≤ i := by
      cases e : valG t r with
      | none => exact ⟨.nil, Nat.zero_le _⟩
      | some row => exact h2 r row e
    refine ⟨by omega, hn _ ⟨?_, ?_, ?_, ?_, ?_⟩⟩
    · refine jo ?_ _ _
      rw [zff]
      split
      · exact h1
      · rename_i q
        rw [List.nodup_append]
        exact ⟨h1, by simp, fun a ha b hb e => by
          have hb : b = r := by simpa using hb
          subst hb; exact q (e ▸ ha)⟩
    · intro r' row' e
      rw [jh] at e
      split at e
      · cases e
        exact ⟨jo hrow.1 _ _, Nat.le_trans (yq _ _ _) (by omega)⟩
      · rename_i q
        rw [zko, if_neg q] at e
        have := h2 r' row' e
        exact ⟨this.1, by omega⟩
    · intro r' c' y
      have e1 : nb (putG (setG t r []) r (putG ((valG t r).getD []) c x)) r' c' = if r' = r ∧ c' = c then some x else nb t r' c' := by
        unfold nb
        rw [jh]
        by_cases er : r' = r
        · subst er
          rw [if_pos rfl]
          simp only [Option.bind_some, true_and]
          rw [jh]
          by_cases ec : c' = c
          · rw [if_pos ec, if_pos ec]
          · rw [if_neg ec, if_neg ec]
            cases valG t r' with
            | none => rfl
            | some row => rfl
        · rw [if_neg er, zko, if_neg er, if_neg (fun z => er z.1)]
      rw [e1]
      by_cases e : r' = r ∧ c' = c
      · obtain ⟨rfl, rfl⟩ := e
        rw [if_pos ⟨rfl, rfl⟩]
        exact ⟨fun q => by cases q; exact ⟨i, by omega, hk, hx⟩, fun ⟨j, _, _, q⟩ => by rw [← q]; exact hx.symm⟩
      · rw [if_neg e, h3]
        constructor
        · rintro ⟨j, a, b, d⟩; exact ⟨j, by omega, b, d⟩
        · rintro ⟨j, a, b, d⟩
          refine ⟨j, ?_, b, d⟩
          have : j ≠ i := fun z => by subst z; rw [hk] at b; cases b; exact e ⟨rfl, rfl⟩
          omega
    · intro r'
      rw [uy]
      have hin : r ∈ za (setG t r []) := by
        rw [zff]; split
        · assumption
        · simp
      rw [if_pos hin, zff]
      have : (r' ∈ (if r ∈ za t then za t else za t ++ [r])) ↔ (r' ∈ za t ∨ r' = r) := by
        split
        · rename_i q
          exact ⟨.inl, fun z => z.elim id fun e => e ▸ q⟩
        · simp
      rw [this, h4]
      constructor
      · rintro (⟨j, d, a, b⟩ | rfl)
        · exact ⟨j, d, by omega, b⟩
        · exact ⟨i, c, by omega, hk⟩
      · rintro ⟨j, d, a, b⟩
        by_cases e : j = i
        · subst e; rw [hk] at b; cases b; exact .inr rfl
        · exact .inl ⟨j, d, by omega, b⟩
    · have hin : r ∈ za (setG t r []) := by
        rw [zff]; split
        · assumption
        · simp
      have e1 := xc (putG (setG t r []) r (putG ((valG t r).getD []) c x))
      have e2 : (setG t r ([] : List (C × Int))).length ≤ t.length + 1 := by
        unfold setG; split
        · omega
        · simp
      rw [uy, if_pos hin] at e1
      have e3 := xc (setG t r ([] : List (C × Int)))
      show (putG (setG t r []) r (putG ((valG t r).getD []) c x)).length ≤ i + 1
      omega
  · intro t ⟨h1, h2, h3, h4, h5⟩
    refine h t h1 (fun q hq => (h2 q.1 q.2 (jf h1 hq)).1) (by omega) (fun r c => ?_) fun r => ?_
    · cases e : tb entries r c with
      | some x =>
        have hm : (r, c) ∈ ks := hp.mem_iff.mpr (valG_key.mpr (by unfold tb at e; rw [e]; rfl))
        obtain ⟨j, hj, e2⟩ := List.mem_iff_getElem.mp hm
        exact (h3 r c x).mpr ⟨j, hj, by rw [List.getElem?_eq_getElem hj, e2], e⟩
      | none =>
        cases e2 : nb t r c with
        | none => rfl
        | some x =>
          obtain ⟨j, _, _, q⟩ := (h3 r c x).mp e2
          rw [e] at q; cases q
    · rw [h4]
      constructor
      · rintro ⟨j, c, _, b⟩; exact ⟨c, hp.mem_iff.mp (List.mem_of_getElem? b)⟩
      · rintro ⟨c, hc⟩
        obtain ⟨j, hj, e2⟩ := List.mem_iff_getElem.mp (hp.mem_iff.mpr hc)
        exact ⟨j, c, hj, by rw [List.getElem?_eq_getElem hj, e2]⟩
end
end Tk
end Mv
namespace Mv
namespace Tk
open PySem PySem.Spec PyProof.Rows L2
open Mt
section
variable {κ α : Type} [DecidableEq κ]
theorem zyb (t : List (κ × α)) (k k' : κ) : valG (vz t k) k' = if k' = k then none else valG t k' := by
  induction t with
  | nil => simp [vz, valG]
  | cons q t ih =>
    have e : vz (q :: t) k = if q.1 = k then vz t k else q :: vz t k := by
      unfold vz
      by_cases h : q.1 = k <;> simp [h]
    rw [e, xh]
    by_cases h : q.1 = k
    · rw [if_pos h, ih]
      by_cases h2 : k' = k
      · simp [h2]
      · rw [if_neg h2, if_neg h2, if_neg (fun z : q.1 = k' => h2 (z.symm.trans h))]
    · rw [if_neg h, xh, ih]
      by_cases h3 : q.1 = k'
      · rw [if_pos h3, if_pos h3, if_neg (fun z => h (h3.trans z))]
      · rw [if_neg h3, if_neg h3]
theorem zwp (t : List (κ × α)) (k : κ) : za (vz t k) = (za t).filter fun x => decide (x ≠ k) := by
  unfold vz za
  rw [List.filter_map]; rfl
theorem zu0 {t : List (κ × α)} (nd : (za t).Nodup) (k : κ) : (za (vz t k)).Nodup := by
  rw [zwp]; exact nd.filter _
theorem ztw (t : List (κ × α)) (k : κ) : fn (vz t k) = set1 (fn t) k none := by
  funext d; unfold fn set1; rw [zyb]
theorem zep {t : List (κ × α)} {k : κ} {v : α} (h : fn t k = some v) : k ∈ za t := valG_key.mpr (by unfold fn at h; rw [h]; rfl)
theorem zdg {t : List (κ × α)} {k : κ} (h : k ∈ za t) : ∃ v, fn t k = some v := Option.isSome_iff_exists.mp (valG_key.mp h)
end
section
variable {R C : Type} [DecidableEq R] [DecidableEq C] {entries : List ((R × C) × Int)}
theorem _root_.Mv.Mt.Cert.congr {w w' : R → C → Option Int} {rs : List R} {f : R → Option C} {u : R → Int} {p : C → Int} (e : ∀ r, r ∈ rs → ∀ c, w r c = w' r c) (K : Cert w rs f u p) : Cert w' rs f u p :=
  ⟨⟨fun r c h => by obtain ⟨a, x, hx⟩ := K.mt.dom r c h; exact ⟨a, x, by rw [← e r a]; exact hx⟩, K.mt.inj⟩,
   ⟨K.du.u0, K.du.p0, fun r hr c x h => K.du.fe r hr c x (by rw [e r hr]; exact h)⟩,
   fun r c x h hx => K.ti r c x h (by rw [e r (K.mt.dom r c h).1]; exact hx), K.un, K.fr⟩
theorem z23 {ks : List (R × C)} {Q : List (R × C) → Prop} (nd : (za entries).Nodup) (hl : entries.length ≤ 1000000) (hp : ks.Perm (za entries))
    (h : ∀ (rs : List R) (pairs : List (R × C)) (u : R → Int) (p : C → Int), rs.Nodup → (∀ r, r ∈ rs ↔ ∃ c, (r, c) ∈ za entries) → rs.length ≤ entries.length → (za pairs).Nodup → pairs.length ≤ entries.length → Cert (tb entries) rs (fn pairs) u p → Q pairs) : gpW ks entries Q := by
  have hz : (1000000 : Nat) < sizeLine := by decide
  refine z22 nd hl hp fun every e1 e2 e3 e4 e5 => ?_
  have lk : (za every).length = every.length := xc _
  let cs : List C := (za entries).map (·.2)
  have csl : cs.length = entries.length := by simp [cs, xc]
  have hcs : jz (nb every) cs := fun r c x hx => by
    rw [e4] at hx
    exact List.mem_map.mpr ⟨(r, c), valG_key.mpr (by unfold tb at hx; rw [hx]; rfl), rfl⟩
  have sub : ∀ (rows : List (R × List (C × Int))), (∀ q ∈ rows, q ∈ every) → (za rows).Nodup → ∀ r, r ∈ za rows → ∀ c, nb rows r c = nb every r c := fun rows hs hn r hr c => by
    obtain ⟨t, ht⟩ := zdg hr
    have ht' : valG rows r = some t := ht
    have hm := ui ht'
    unfold nb
    rw [ht', jf e1 (hs _ hm)]
  refine ziy (fun i (rows : List (R × List (C × Int))) (pairs : List (R × C)) (owners : List (C × R)) => rows = every.take i ∧ (za pairs).Nodup ∧ (za owners).Nodup ∧ (∀ r c, fn owners c = some r ↔ fn pairs r = some c) ∧ ∃ u p, Cert (nb every) (za rows) (fn pairs) u p)
    ⟨rfl, .nil, .nil, fun r c => ⟨fun z => (nomatch z), fun z => (nomatch z)⟩, fun _ => 0, fun _ => 0, ⟨fun r c z => (nomatch z), fun r r' c z => (nomatch z)⟩, ⟨fun r z => (nomatch z), fun c => Int.le_refl _, fun r z => (nomatch z)⟩, fun r c x z => (nomatch z), fun r z => (nomatch z), fun c _ => rfl⟩ ?_ ?_
  · intro i x rows pairs owners nx hx ⟨i1, i2, i3, i4, u, p, i5⟩ hn
    have hi := (List.getElem?_eq_some_iff.mp hx).1
    have kt : za rows = (za every).take i := by rw [i1]; unfold za; rw [List.map_take]
    have hxk : (za every)[i]? = some x.1 := by unfold za; rw [List.getElem?_map, hx]; rfl
    have nt : ((za every).take (i + 1)).Nodup := e1.sublist (List.take_sublist _ _)
    have ts : (za every).take (i + 1) = za rows ++ [x.1] := by rw [List.take_succ, hxk, kt]; rfl
    have nin : x.1 ∉ za rows := by
      rw [ts] at nt
      exact fun z => (List.nodup_append.mp nt).2.2 _ z _ (by simp) rfl
    have r3 : putG rows x.1 x.2 = every.take (i + 1) := by
      rw [v5 nin, i1, List.take_succ, hx]; rfl
    have lr : rows.length ≤ every.length := by rw [i1]; simp; omega
    have k3 : za (putG rows x.1 x.2) = za rows ++ [x.1] := by rw [uy, if_neg nin]
    have n3 : (za (putG rows x.1 x.2)).Nodup := by rw [k3, ← ts]; exact nt
    have s3 : ∀ q ∈ putG rows x.1 x.2, q ∈ every := fun q hq => by rw [r3] at hq; exact List.mem_of_mem_take hq
    have l3 : (putG rows x.1 x.2).length ≤ every.length := by rw [r3]; simp; omega
    refine ⟨by omega, ?_⟩
    obtain ⟨u', X⟩ := i5.ctx hcs nin
    have ce := sub _ s3 n3
    have X3 : Ctx (nb (putG rows x.1 x.2)) (za (putG rows x.1 x.2)) x.1 (fn pairs) u' p := by
      rw [← k3] at X
      exact ⟨⟨fun r c h => by obtain ⟨a, y, hy⟩ := X.mt.dom r c h; exact ⟨a, y, by rw [ce r a]; exact hy⟩, X.mt.inj⟩,
        ⟨X.du.u0, X.du.p0, fun r hr c y h => X.du.fe r hr c y (by rw [← ce r hr]; exact h)⟩,
        fun r c y h hy => X.ti r c y h (by rw [← ce r (X.mt.dom r c h).1]; exact hy), X.un, X.fr, X.zn⟩
    refine z21 (z := x.1) n3 (by omega) (fun q hq => e2 q (s3 q hq)) X3 i4 fun moves g I Z => ?_
    obtain ⟨q, P⟩ := Pr.exists (nb (putG rows x.1 x.2)) (fn pairs) g X3.mt.inj fun r c h => (X3.mt.dom r c h).2
    obtain ⟨n0, M0⟩ := Mov.start X3 I P (by rw [k3]; simp) i4
    have hl3 : jz (nb (putG rows x.1 x.2)) cs := fun r c y hy => by
      have hr : r ∈ za (putG rows x.1 x.2) := by
        cases e : valG (putG rows x.1 x.2) r with
        | none => unfold nb at hy; rw [e] at hy; cases hy
        | some t => exact valG_key.mpr (by rw [e]; rfl)
      rw [ce r hr] at hy; exact hcs r c y hy
    have lp : ∀ (F : List (R × C)) (O : List (C × R)) n a, Mov (nb (putG rows x.1 x.2)) (za (putG rows x.1 x.2)) (fn pairs) (fn moves) g q (fn F) (fn O) n a → (za F).Nodup → F.length < sizeLine := fun F O n a M nF => by
      have := zao (l := za F) (m := za (putG rows x.1 x.2)) nF fun r hr => by
        by_cases e : r = a
        · subst e; exact M.ra
        · obtain ⟨c, hc⟩ := zdg hr
          exact (M.ent r c e hc).1
      rw [xc, xc] at this
      omega
    have lo : ∀ (F : List (R × C)) (O : List (C × R)) n a, Mov (nb (putG rows x.1 x.2)) (za (putG rows x.1 x.2)) (fn pairs) (fn moves) g q (fn F) (fn O) n a → (za O).Nodup → O.length < sizeLine := fun F O n a M nO => by
      have := zao (l := za O) (m := cs) nO fun c hc => by
        obtain ⟨r, hr⟩ := zdg hc
        obtain ⟨h1, h2⟩ := (M.inv r c).mp hr
        obtain ⟨_, y, hy, _⟩ := M.ent r c h1 h2
        exact hl3 r c y hy
      rw [xc, csl] at this
      omega
    refine ⟨fun n F O row => (za F).Nodup ∧ (za O).Nodup ∧ ((∃ a k, row = some a ∧ n = k + 1 ∧ Mov (nb (putG rows x.1 x.2)) (za (putG rows x.1 x.2)) (fn pairs) (fn moves) g q (fn F) (fn O) k a) ∨ (row = none ∧ (∀ r c, fn O c = some r ↔ fn F r = some c) ∧ Cert (nb (putG rows x.1 x.2)) (za (putG rows x.1 x.2)) (fn F) g q)), ⟨_, i2, i3, .inl ⟨_, _, rfl, rfl, M0⟩⟩, ?_⟩
    rintro n F O row ⟨w1, w2, w3⟩
    show if inN moves row = true then _ else _
    have done : ∀ F' : List (R × C), (za F').Nodup → (∀ r c, fn O c = some r ↔ fn F' r = some c) → Cert (nb (putG rows x.1 x.2)) (za (putG rows x.1 x.2)) (fn F') g q → nx (putG rows x.1 x.2) F' O := fun F' a1 a2 a3 => by
      refine hn _ _ _ ⟨r3, a1, w2, a2, g, q, a3.congr ce⟩
    rcases w3 with ⟨a, k, rfl, rfl, M⟩ | ⟨rfl, v1, v2⟩
    · by_cases hm : hasG moves a = true
      · rw [if_pos (show inN moves (some a) = true from hm)]
        obtain ⟨c, hc⟩ := zdg (has_iff.mp hm)
        refine ⟨a, rfl, c, hc, ?_⟩
        refine ⟨a, rfl, a, rfl, lp _ _ _ _ M w1, ?_⟩
        refine ⟨lo _ _ _ _ M w2, ?_⟩
        show ∃ m, _
        rcases Mov.step X3 I Z P M hc with ⟨o1, o2, o3⟩ | ⟨o, k', o1, o2, o3⟩
        · refine ⟨0, Nat.succ_pos _, jo w1 _ _, jo w2 _ _, .inr ⟨o1, fun r c' => ?_, ?_⟩⟩
          · rw [zgh, zgh]; exact o2 r c'
          · rw [zgh]; exact o3
        · refine ⟨k' + 1, by omega, jo w1 _ _, jo w2 _ _, .inl ⟨o, k', o1, rfl, ?_⟩⟩
          show Mov _ _ _ _ _ _ (fn (putG F a c)) (fn (putG O c a)) k' o
          rw [zgh, zgh]; exact o3
      · rw [if_neg (show ¬ inN moves (some a) = true from hm)]
        have hm' : fn moves a = none := by
          cases e : fn moves a with
          | none => rfl
          | some c => exact absurd (has_iff.mpr (zep e)) hm
        obtain ⟨s1, s2⟩ := Mov.stop X3 I Z P M hm'
        show nx _ (vz F a) O
        refine done _ (zu0 w1 _) (fun r c => ?_) ?_
        · rw [ztw]; exact s1 r c
        · rw [ztw]; exact s2
    · rw [if_neg (show ¬ inN moves none = true from fun z => (nomatch z))]
      exact done F w1 v1 v2
  · intro rows pairs owners ⟨i1, i2, i3, i4, u, p, i5⟩
    have er : rows = every := by rw [i1, List.take_length]
    subst er
    refine h (za rows) pairs u p e1 e5 (by rw [lk]; exact e3) i2 ?_ ?_
    · have := zao (l := za pairs) (m := za rows) i2 fun r hr => by
        obtain ⟨c, hc⟩ := zdg hr
        exact (i5.mt.dom r c hc).1
      rw [xc, xc] at this
      omega
    · exact i5.congr fun r _ c => e4 r c
end
end Tk
end Mv
namespace Mv
namespace Mt
theorem zi3 {a a' b b' k : Int} (h1 : 0 ≤ b) (h2 : b < k) (h3 : 0 ≤ b') (h4 : b' < k) : a * k + b ≤ a' * k + b' ↔ a < a' ∨ a = a' ∧ b ≤ b' := by
  rcases Int.lt_trichotomy a a' with h | h | h
  · have : (a + 1) * k ≤ a' * k := Int.mul_le_mul_of_nonneg_right (by omega) (by omega)
    rw [Int.add_mul] at this
    constructor <;> intro _ <;> omega
  · subst h; constructor <;> intro _ <;> omega
  · have : (a' + 1) * k ≤ a * k := Int.mul_le_mul_of_nonneg_right (by omega) (by omega)
    rw [Int.add_mul] at this
    constructor <;> intro _ <;> omega
theorem zrb {a a' b b' k : Int} (h1 : 0 ≤ b) (h2 : b < k) (h3 : 0 ≤ b') (h4 : b' < k) : a * k + b = a' * k + b' ↔ a = a' ∧ b = b' := by
  have x := zi3 (a := a) (a' := a') h1 h2 h3 h4
  have y := zi3 (a := a') (a' := a) h3 h4 h1 h2
  constructor
  · intro e
    have := x.mp (by omega); have := y.mp (by omega); omega
  · rintro ⟨rfl, rfl⟩; rfl
section
variable {R C : Type} [DecidableEq R] [DecidableEq C]
def num (K : Int) (d : R → Int) : List R → Int
  | [] => 0
  | r :: rs => d r * K ^ rs.length + num K d rs
theorem zrc {K : Int} (h : 0 < K) : ∀ n : Nat, 0 < K ^ n
  | 0 => by simp
  | n + 1 => by rw [Int.pow_succ]; exact Int.mul_pos (zrc h n) h
theorem znv {K : Int} {d : R → Int} (hK : 0 < K) : ∀ {rs : List R}, (∀ r, r ∈ rs → 0 ≤ d r ∧ d r < K) → 0 ≤ num K d rs ∧ num K d rs < K ^ rs.length
  | [], _ => by simp [num]
  | r :: rs, h => by
    obtain ⟨i1, i2⟩ := znv hK (rs := rs) fun x hx => h x (by simp [hx])
    obtain ⟨j1, j2⟩ := h r (by simp)
    have hp := zrc hK rs.length
    have e : K ^ (r :: rs).length = K ^ rs.length * K := by simp [Int.pow_succ]
    have a1 : 0 ≤ d r * K ^ rs.length := Int.mul_nonneg j1 (by omega)
    have a2 : (d r + 1) * K ^ rs.length ≤ K * K ^ rs.length := Int.mul_le_mul_of_nonneg_right (by omega) (by omega)
    rw [Int.add_mul, Int.mul_comm K] at a2
    unfold num
    rw [e]
    constructor <;> omega
theorem ztx {K : Int} {d : R → Int} : ∀ {rs : List R}, rs.Nodup → num K d rs = (rs.map fun r => d r * K ^ (rs.length - 1 - rs.idxOf r)).sum
  | [], _ => by simp [num]
  | a :: rs, nd => by
    obtain ⟨n1, n2⟩ := List.nodup_cons.mp nd
    have ih := ztx (K := K) (d := d) n2
    unfold num
    rw [ih, List.map_cons, List.sum_cons]
    have e1 : (a :: rs).length - 1 - (a :: rs).idxOf a = rs.length := by simp
    rw [e1]
    congr 2
    refine List.map_congr_left fun r hr => ?_
    have ne : a ≠ r := fun z => n1 (z ▸ hr)
    have e2 : (a :: rs).idxOf r = rs.idxOf r + 1 := by
      rw [List.idxOf_cons, beq_false_of_ne ne]; rfl
    rw [e2]
    have := List.idxOf_lt_length_iff.mpr hr
    have : (a :: rs).length - 1 - (rs.idxOf r + 1) = rs.length - 1 - rs.idxOf r := by simp; omega
    rw [this]
structure Ex (R C : Type) where
  ns : List R
  ps : List C
  hm : R → C → Bool
variable (X : Ex R C) (w : R → C → Option Int)
def Ex.n : Int := X.ns.length
def Ex.m : Int := X.ps.length
def Ex.M : Int := (X.m + 1) ^ X.ns.length
def Ex.hd (r : R) (c : C) : Int := if X.hm r c = true then 1 else 0
def Ex.dg (c : C) : Int := X.m - (X.ps.idxOf c : Int)
def Ex.wt (r : R) (c : C) (x : Int) : Int := ((x * (X.n + 1) + 1) * (X.n + 1) + X.hd r c) * X.M + X.dg c * (X.m + 1) ^ (X.ns.length - 1 - X.ns.idxOf r)
def Ex.tab (r : R) (c : C) : Option Int := (w r c).map (X.wt r c)
def card (rs : List R) (f : R → Option C) : Int := (rs.map fun r => if (f r).isSome = true then (1 : Int) else 0).sum
def Ex.home (f : R → Option C) : Int := (X.ns.map fun r => match f r with | some c => X.hd r c | none => 0).sum
def Ex.dig (f : R → Option C) (r : R) : Int := match f r with | some c => X.dg c | none => 0
def Ex.ord (f : R → Option C) : Int := num (X.m + 1) (X.dig f) X.ns
structure Ex.Fits : Prop where
  nd : X.ns.Nodup
  rows : ∀ r c x, w r c = some x → r ∈ X.ns
  cols : ∀ r c x, w r c = some x → c ∈ X.ps
variable {X : Ex R C} {w : R → C → Option Int}
theorem zj3 {α : Type} {a : α → Int} {k : Int} : ∀ {l : List α}, (l.map fun x => a x * k).sum = (l.map a).sum * k
  | [] => by simp
  | x :: l => by simp only [List.map_cons, List.sum_cons, zj3 (l := l), Int.add_mul]
theorem Ex.val (F : X.Fits w) {f : R → Option C} (G : Mat w X.ns f) : V (X.tab w) X.ns f = ((V w X.ns f * (X.n + 1) + card X.ns f) * (X.n + 1) + X.home f) * X.M + X.ord f := by
  have e : V (X.tab w) X.ns f = (X.ns.map fun r => ((Mt.val w f r * (X.n + 1) + (if (f r).isSome = true then (1 : Int) else 0)) * (X.n + 1) + (match f r with | some c => X.hd r c | none => 0)) * X.M + X.dig f r * (X.m + 1) ^ (X.ns.length - 1 - X.ns.idxOf r)).sum := by
    unfold V
    congr 1
    refine List.map_congr_left fun r hr => ?_
    unfold Mt.val Ex.dig
    cases h : f r with
    | none => simp
    | some c =>
      obtain ⟨_, x, hx⟩ := G.dom r c h
      simp [Ex.tab, hx, Ex.wt]
  rw [e, zcz, zj3, zcz, zj3, zcz, zj3]
  unfold Ex.ord
  rw [ztx F.nd]
  rfl
theorem zl0 {rs : List R} {f : R → Option C} : 0 ≤ card rs f ∧ card rs f ≤ rs.length := by
  unfold card
  induction rs with
  | nil => simp
  | cons r rs ih => simp only [List.map_cons, List.sum_cons, List.length_cons]; split <;> omega
theorem Ex.home_bound {f : R → Option C} : 0 ≤ X.home f ∧ X.home f ≤ X.n := by
  unfold Ex.home Ex.n
  generalize X.ns = rs
  induction rs with
  | nil => simp
  | cons r rs ih =>
    simp only [List.map_cons, List.sum_cons, List.length_cons]
    have : ∀ c, 0 ≤ X.hd r c ∧ X.hd r c ≤ 1 := fun c => by unfold Ex.hd; split <;> omega
    cases f r with
    | none => simp only; omega
    | some c => simp only; have := this c; omega
theorem Ex.dg_bound {c : C} (h : c ∈ X.ps) : 1 ≤ X.dg c ∧ X.dg c ≤ X.m := by
  have := List.idxOf_lt_length_iff.mpr h
  unfold Ex.dg Ex.m; omega
theorem Ex.dig_bound (F : X.Fits w) {f : R → Option C} (G : Mat w X.ns f) (r : R) : 0 ≤ X.dig f r ∧ X.dig f r < X.m + 1 := by
  have h0 : 0 ≤ X.m := by unfold Ex.m; omega
  unfold Ex.dig
  cases h : f r with
  | none => simp only; omega
  | some c =>
    obtain ⟨_, x, hx⟩ := G.dom r c h
    have := Ex.dg_bound (F.cols r c x hx)
    simp only; omega
theorem Ex.ord_bound (F : X.Fits w) {f : R → Option C} (G : Mat w X.ns f) : 0 ≤ X.ord f ∧ X.ord f < X.M := by
  have h0 : 0 ≤ X.m := by unfold Ex.m; omega
  exact znv (by omega) fun r _ => Ex.dig_bound F G r
def Ex.le (X : Ex R C) (w : R → C → Option Int) (f g : R → Option C) : Prop :=
  V w X.ns f < V w X.ns g ∨ V w X.ns f = V w X.ns g ∧ (card X.ns f < card X.ns g ∨ card X.ns f = card X.ns g ∧ (X.home f < X.home g ∨ X.home f = X.home g ∧ X.ord f ≤ X.ord g))
theorem Ex.le_iff (F : X.Fits w) {f g : R → Option C} (A : Mat w X.ns f) (B : Mat w X.ns g) : V (X.tab w) X.ns f ≤ V (X.tab w) X.ns g ↔ X.le w f g := by
  rw [Ex.val F A, Ex.val F B]
  have h1 := Ex.ord_bound F A; have h2 := Ex.ord_bound F B
  have h3 := Ex.home_bound (X := X) (f := f); have h4 := Ex.home_bound (X := X) (f := g)
  have h5 := zl0 (rs := X.ns) (f := f); have h6 := zl0 (rs := X.ns) (f := g)
  have hn : X.n = X.ns.length := rfl
  rw [zi3 h1.1 h1.2 h2.1 h2.2, show ∀ a b : Int, (a < b) ↔ ¬ (b ≤ a) from fun a b => by omega, zi3 h4.1 (by omega) h3.1 (by omega), zrb h3.1 (by omega) h4.1 (by omega),
    show ∀ a b : Int, (V w X.ns g * (X.n + 1) + a < V w X.ns f * (X.n + 1) + b) ↔ ¬ (V w X.ns f * (X.n + 1) + b ≤ V w X.ns g * (X.n + 1) + a) from fun a b => by omega, zi3 h5.1 (by omega) h6.1 (by omega), zrb h5.1 (by omega) h6.1 (by omega), zrb h6.1 (by omega) h5.1 (by omega)]
  unfold Ex.le
  omega
theorem Ex.mat (F : X.Fits w) {f : R → Option C} : Mat (X.tab w) X.ns f ↔ Mat w X.ns f := by
  constructor
  · exact fun G => ⟨fun r c h => by
      obtain ⟨a, x, hx⟩ := G.dom r c h
      unfold Ex.tab at hx
      cases e : w r c with
      | none => rw [e] at hx; cases hx
      | some y => exact ⟨a, y, rfl⟩, G.inj⟩
  · exact fun G => ⟨fun r c h => by
      obtain ⟨a, x, hx⟩ := G.dom r c h
      exact ⟨a, _, by unfold Ex.tab; rw [hx]; rfl⟩, G.inj⟩
theorem Ex.best (F : X.Fits w) {f : R → Option C} (A : Mat w X.ns f) (h : ∀ g, Mat (X.tab w) X.ns g → V (X.tab w) X.ns g ≤ V (X.tab w) X.ns f) : ∀ g, Mat w X.ns g → X.le w g f :=
  fun g G => (Ex.le_iff F G A).mp (h g ((Ex.mat F).mpr G))
theorem Ex.le_val {f g : R → Option C} (h : X.le w f g) : V w X.ns f ≤ V w X.ns g := by unfold Ex.le at h; omega
end
end Mt
end Mv
namespace Mv
namespace Lb
open PySem PySem.Spec PyProof.Rows L2 Tk
section
variable {α β γ κ : Type}
theorem asgI {a : α} {k : α → Prop} (h : k a) : asgW a k := h
theorem retI {a : α} {k : α → Prop} (h : k a) : retW a k := h
theorem ifI {b : Bool} {A B : Prop} (h1 : b = true → A) (h2 : b = false → B) : ifW b A B := by
  unfold ifW; cases b with
  | true => rw [if_pos rfl]; exact h1 rfl
  | false => rw [if_neg (by decide)]; exact h2 rfl
theorem ifT {b : Bool} {A B : Prop} (e : b = true) (h : A) : ifW b A B := by unfold ifW; rw [if_pos e]; exact h
theorem ifF {b : Bool} {A B : Prop} (e : b = false) (h : B) : ifW b A B := by unfold ifW; rw [e, if_neg (by decide)]; exact h
theorem andI {b : Bool} {m : (Bool → Prop) → Prop} {k : Bool → Prop} (h1 : b = true → m k) (h2 : b = false → k false) : andW b m k := by
  unfold andW; cases b with
  | true => rw [if_pos rfl]; exact h1 rfl
  | false => rw [if_neg (by decide)]; exact h2 rfl
theorem x5 {p k : Prop} (h1 : p) (h2 : k) : zx p k := ⟨h1, h2⟩
theorem unI {o : Option α} {a : α} {k : α → Prop} (e : o = some a) (h : k a) : unW o k := ⟨a, e, h⟩
theorem getI [DecidableEq κ] {t : List (κ × α)} {x : κ} {v : α} {k : α → Prop} (e : valG t x = some v) (h : k v) : getW t x k := ⟨v, e, h⟩
theorem putI [DecidableEq κ] {t : List (κ × α)} {x : κ} {v : α} {k : List (κ × α) → Prop} (e : t.length < sizeLine) (h : k (putG t x v)) : putW t x v k := ⟨e, h⟩
theorem ixI {xs : List α} {i : Int} {x : α} {k : α → Prop} (e : atI xs i = some x) (h : k x) : ixW xs i k := ⟨x, e, h⟩
theorem appI {xs : List α} {v : α} {k : List α → Prop} (e : xs.length < sizeLine) (h : k (xs ++ [v])) : appW xs v k := ⟨e, h⟩
theorem zrd {a : α} {b : β} {k : α → β → Prop} (h : k a b) : zc3 a b k := h
end
class LeOk {α : Type} (e : α → D) [h : SrtE e] : Prop where
  tr : ∀ a b c, h.le a b = true → h.le b c = true → h.le a c = true
  to : ∀ a b, h.le a b = true ∨ h.le b a = true
  an : ∀ a b, h.le a b = true → h.le b a = true → a = b
instance : LeOk D.int where
  tr a b c h1 h2 := by have := of_decide_eq_true h1; have := of_decide_eq_true h2; exact decide_eq_true (by omega)
  to a b := by
    by_cases h : a ≤ b
    · exact .inl (decide_eq_true h)
    · exact .inr (decide_eq_true (by omega))
  an a b h1 h2 := by have := of_decide_eq_true h1; have := of_decide_eq_true h2; omega
theorem z0i {a b : Str} (h : a.cps.toList = b.cps.toList) : a = b := by
  cases a; cases b; simp at h; simp [h]
instance : LeOk sD where
  tr a b c h1 h2 := decide_eq_true (List.le_trans (of_decide_eq_true h1) (of_decide_eq_true h2))
  to a b := by
    rcases List.le_total a.1.cps.toList b.1.cps.toList with h | h
    · exact .inl (decide_eq_true h)
    · exact .inr (decide_eq_true h)
  an a b h1 h2 := Subtype.ext (z0i (List.le_antisymm (of_decide_eq_true h1) (of_decide_eq_true h2)))
section
variable {α : Type} {e : α → D} [h : SrtE e] [LeOk e]
def leS (e : α → D) [h : SrtE e] (a b : α) : Prop := h.le a b = true
omit [LeOk e] in
theorem jt (e : α → D) [h : SrtE e] (xs : List α) : (z4 e xs).Perm xs := List.mergeSort_perm _ _
theorem zi4 (xs : List α) : (z4 e xs).Pairwise (leS e) := by
  unfold z4
  exact List.pairwise_mergeSort (fun a b c => LeOk.tr (e := e) a b c) (fun a b => by
    rcases LeOk.to (e := e) a b with q | q <;> simp [q]) xs
theorem sort_unique {xs ys : List α} (hx : xs.Pairwise (leS e)) (hy : ys.Pairwise (leS e)) (p : xs.Perm ys) : xs = ys :=
  List.Perm.eq_of_pairwise (fun a b _ _ h1 h2 => LeOk.an (e := e) a b h1 h2) hx hy p
theorem zre {xs ys : List α} (p : xs.Perm ys) : z4 e xs = z4 e ys :=
  sort_unique (zi4 xs) (zi4 ys) ((jt e xs).trans (p.trans (jt e ys).symm))
theorem zc4 {xs ys : List α} (hx : xs.Nodup) (hy : ys.Nodup) (hm : ∀ a, a ∈ xs ↔ a ∈ ys) : xs.Perm ys := (List.perm_ext_iff_of_nodup hx hy).mpr hm
omit [LeOk e] in
theorem mem_sortL {xs : List α} {a : α} : a ∈ z4 e xs ↔ a ∈ xs := (jt e xs).mem_iff
omit [LeOk e] in
theorem nodup_sortL {xs : List α} : (z4 e xs).Nodup ↔ xs.Nodup := (jt e xs).nodup_iff
omit [LeOk e] in
theorem zi5 {xs : List α} : (z4 e xs).length = xs.length := (jt e xs).length_eq
def dd [DecidableEq α] : List α → List α
  | [] => []
  | x :: xs => if x ∈ xs then dd xs else x :: dd xs
omit h [LeOk e] in
theorem mem_dd [DecidableEq α] {a : α} : ∀ {xs : List α}, a ∈ dd xs ↔ a ∈ xs
  | [] => Iff.rfl
  | x :: xs => by
    unfold dd
    split
    · rename_i q
      rw [mem_dd (xs := xs), List.mem_cons]
      exact ⟨.inr, fun z => z.elim (fun z => z ▸ q) id⟩
    · rw [List.mem_cons, List.mem_cons, mem_dd (xs := xs)]
omit h [LeOk e] in
theorem y6 [DecidableEq α] : ∀ {xs : List α}, (dd xs).Nodup
  | [] => .nil
  | x :: xs => by
    unfold dd
    split
    · exact y6
    · rename_i q; exact List.nodup_cons.mpr ⟨fun z => q (mem_dd.mp z), y6⟩
def asc [DecidableEq α] (e : α → D) [h : SrtE e] (xs : List α) : List α := z4 e (dd xs)
theorem asc_of [DecidableEq α] {xs ys : List α} (nd : ys.Nodup) (hm : ∀ a, a ∈ ys ↔ a ∈ xs) : z4 e ys = asc e xs :=
  zre (zc4 nd (y6) (fun a => by rw [hm, mem_dd]))
theorem mem_asc [DecidableEq α] {xs : List α} {a : α} : a ∈ asc e xs ↔ a ∈ xs := by unfold asc; rw [mem_sortL, mem_dd]
theorem znw [DecidableEq α] {xs : List α} : (asc e xs).Nodup := nodup_sortL.mpr y6
theorem zty [DecidableEq α] {xs : List α} : (asc e xs).length ≤ xs.length := zao znw fun a h => mem_asc.mp h
theorem zwq [DecidableEq α] {xs ys : List α} (hm : ∀ a, a ∈ xs ↔ a ∈ ys) : asc e xs = asc e ys := by
  refine asc_of y6 fun a => ?_
  rw [mem_dd, hm]
end
end Lb
end Mv
namespace Mv
namespace Lb
open PySem PySem.Spec PyProof.Rows L2 Tk
def Bits (k : Nat) (x : Int) : Prop := x.natAbs < 2 ^ k
theorem Bits.mono {k l : Nat} {x : Int} (h : Bits k x) (e : k ≤ l) : Bits l x := Nat.lt_of_lt_of_le h (Nat.pow_le_pow_right (by decide) e)
theorem Bits.mul {k l : Nat} {x y : Int} (h : Bits k x) (g : Bits l y) : Bits (k + l) (x * y) := L2.wide_lt h g
theorem Bits.add {k : Nat} {x y : Int} (h : Bits k x) (g : Bits k y) : Bits (k + 1) (x + y) := by
  unfold Bits at *
  rw [Nat.pow_succ]; omega
theorem Bits.of {k : Nat} {x : Int} (h0 : 0 ≤ x) (h : x < (2 ^ k : Nat)) : Bits k x := by unfold Bits; omega
theorem Bits.cm {k l : Nat} {x y : Int} (h : Bits k x) (g : Bits l y) (h0 : 0 < k) (h1 : 0 < l) (e : k + l ≤ 1000000) : CM x y := .inr (L2.wide_mul h g h0 h1 e)
theorem Bits.pow {k : Nat} {x : Int} (h : Bits k x) : ∀ n : Nat, Bits (k * n + 1) (x ^ n)
  | 0 => by simp [Bits]
  | n + 1 => by
    rw [Int.pow_succ]
    exact ((Bits.pow h n).mul h).mono (by rw [Nat.mul_succ]; omega)
abbrev Tb := List ((Sg × Int) × Int)
def nms (t : Tb) : List Sg := asc sD ((za t).map (·.1))
def pls (t : Tb) : List Int := asc D.int ((za t).map (·.2))
def tnW (table : Tb) (Q : List Sg → Prop) : Prop :=
 x4 (za table) ([] : (List (Sg × Bool))) (fun (x_ : (Sg × Int)) (acc : (List (Sg × Bool))) (nxt : (List (Sg × Bool)) → Prop) => putW acc x_.1 true nxt) fun t_ => zx (t_.length ≤ 16777216) <| retW (z4 sD (za t_)) Q
def tpW (table : Tb) (Q : List Int → Prop) : Prop :=
 x4 (za table) ([] : (List (Int × Bool))) (fun (x_ : (Sg × Int)) (acc : (List (Int × Bool))) (nxt : (List (Int × Bool)) → Prop) => putW acc x_.2 true nxt) fun t_ => zx (t_.length ≤ 16777216) <| retW (z4 D.int (za t_)) Q
theorem z24 {t : Tb} {Q : List Sg → Prop} (hl : t.length ≤ 1000000) (h : Q (nms t)) : tnW t Q := by
  refine zdf (f := fun x : Sg × Int => x.1) (by rw [xc]; exact hl) fun u h1 h2 h3 h4 => ?_
  rw [xc] at h4
  refine ⟨by omega, ?_⟩
  show Q _
  rw [asc_of (xs := (za t).map (·.1)) h1 fun a => by rw [h2, List.mem_map]]
  exact h
theorem z25 {t : Tb} {Q : List Int → Prop} (hl : t.length ≤ 1000000) (h : Q (pls t)) : tpW t Q := by
  refine zdf (f := fun x : Sg × Int => x.2) (by rw [xc]; exact hl) fun u h1 h2 h3 h4 => ?_
  rw [xc] at h4
  refine ⟨by omega, ?_⟩
  show Q _
  rw [asc_of (xs := (za t).map (·.2)) h1 fun a => by rw [h2, List.mem_map]]
  exact h
theorem mem_nms {t : Tb} {n : Sg} : n ∈ nms t ↔ ∃ p, (n, p) ∈ za t := by
  unfold nms; rw [mem_asc, List.mem_map]
  exact ⟨fun ⟨a, h, e⟩ => ⟨a.2, e ▸ h⟩, fun ⟨p, h⟩ => ⟨_, h, rfl⟩⟩
theorem mem_pls {t : Tb} {p : Int} : p ∈ pls t ↔ ∃ n, (n, p) ∈ za t := by
  unfold pls; rw [mem_asc, List.mem_map]
  exact ⟨fun ⟨a, h, e⟩ => ⟨a.1, e ▸ h⟩, fun ⟨p, h⟩ => ⟨_, h, rfl⟩⟩
theorem z0j (t : Tb) : (nms t).length ≤ t.length := Nat.le_trans zty (by simp [xc])
theorem z0k (t : Tb) : (pls t).length ≤ t.length := Nat.le_trans zty (by simp [xc])
theorem yh (t : Tb) : (nms t).Nodup := znw
def zgi (homes : Option (List (Sg × Int))) (n : Sg) (p : Int) : Bool := match homes with
  | none => false
  | some d => decide (valG d n = some p)
def exX (t : Tb) (homes : Option (List (Sg × Int))) : Mt.Ex Sg Int := ⟨nms t, pls t, zgi homes⟩
def exT (t : Tb) (homes : Option (List (Sg × Int))) : Tb := t.map fun q => (q.1, (exX t homes).wt q.1.1 q.1.2 q.2)
theorem zkp (t : Tb) (homes) : za (exT t homes) = za t := by unfold exT za; rw [List.map_map]; rfl
theorem ztz {κ α β : Type} [DecidableEq κ] (f : κ → α → β) (t : List (κ × α)) (k : κ) : valG (t.map fun q => (q.1, f q.1 q.2)) k = (valG t k).map (f k) := by
  induction t with
  | nil => rfl
  | cons q t ih =>
    rw [List.map_cons, xh, xh, ih]
    by_cases h : q.1 = k
    · rw [if_pos h, if_pos h, ← h]; rfl
    · rw [if_neg h, if_neg h]
theorem z15 (t : Tb) (homes) : tb (exT t homes) = (exX t homes).tab (tb t) := by
  funext r c
  unfold tb Mt.Ex.tab exT
  exact ztz (fun (k : Sg × Int) (x : Int) => (exX t homes).wt k.1 k.2 x) t (r, c)
theorem zeq {R C : Type} [DecidableEq R] [DecidableEq C] {t : List ((R × C) × Int)} {r : R} {c : C} {x : Int} (h : tb t r c = some x) : (r, c) ∈ za t := zep h
theorem zkq (t : Tb) (homes) : (exX t homes).Fits (tb t) := ⟨yh t, fun r c x h => mem_nms.mpr ⟨c, zeq h⟩, fun r c x h => mem_pls.mpr ⟨r, zeq h⟩⟩
def exW (table : (List ((Sg × Int) × Int))) (homes : (Option (List (Sg × Int)))) (Q : (List ((Sg × Int) × Int)) → Prop) : Prop :=
 tnW table fun t_ => tpW table fun t_1 => zc3 t_ t_1 fun names places =>
 asgW ([(1 : Int)] : (List Int)) fun powers =>
 xo names powers (fun (x_ : Sg) (powers2 : (List Int)) nxt =>
   ixW powers2 (-(1 : Int)) fun t_2 => zx (CM t_2 ((places.length : Int) + (1 : Int))) <| appW powers2 (t_2 * ((places.length : Int) + (1 : Int))) fun powers3 =>
   nxt powers3) (fun (powers1 : (List Int)) =>
   asgW ([] : (List ((Sg × Int) × Int))) fun found =>
   xo table found (fun (x_1 : ((Sg × Int) × Int)) (found2 : (List ((Sg × Int) × Int))) nxt1 =>
     asgW x_1.1 fun p_ =>
     andW homes.isSome (fun k_1 => unW homes fun t_3 => andW (hasG t_3 p_.1) (fun k_ => unW homes fun t_4 => getW t_4 p_.1 fun t_5 => k_ (eqB t_5 p_.2)) fun t_6 => k_1 t_6) fun t_7 => asgW t_7 fun is_home =>
     idxW places p_.2 fun t_8 => idxW names p_.1 fun t_9 => ixW powers1 (((names.length : Int) - (1 : Int)) - t_9) fun t_10 => zx (CM ((places.length : Int) - t_8) t_10) <| asgW (((places.length : Int) - t_8) * t_10) fun digit =>
     zx (CM x_1.2 ((names.length : Int) + (1 : Int))) <| zx (CM ((x_1.2 * ((names.length : Int) + (1 : Int))) + (1 : Int)) ((names.length : Int) + (1 : Int))) <| asgW ((((x_1.2 * ((names.length : Int) + (1 : Int))) + (1 : Int)) * ((names.length : Int) + (1 : Int))) + (if is_home = true then (1 : Int) else 0)) fun rank =>
     ixW powers1 (names.length : Int) fun t_11 => zx (CM rank t_11) <| putW found2 x_1.1 ((rank * t_11) + digit) fun found3 =>
     nxt1 found3) (fun (found1 : (List ((Sg × Int) × Int))) =>
     retW found1 Q))
theorem z0l {α : Type} {xs : List α} {x : α} {n : Nat} (hn : xs.length = n + 1) (h : xs[n]? = some x) : atI xs (-1) = some x := by
  have e : ixN xs.length (-1) = some n := by
    unfold ixN
    rw [if_neg (by decide), if_pos (by omega)]
    congr 1; omega
  unfold atI; rw [e]; exact h
theorem zwr {α : Type} {xs : List α} {x : α} {i : Int} {n : Nat} (hi : i = n) (h : xs[n]? = some x) : atI xs i = some x := by
  have hl := (List.getElem?_eq_some_iff.mp h).1
  have e : ixN xs.length i = some n := by
    unfold ixN
    rw [if_pos (by omega), if_pos (by omega)]
    congr 1; omega
  unfold atI; rw [e]; exact h
def idx {α : Type} [DecidableEq α] (xs : List α) (x : α) : Nat := xs.idxOf x
theorem zws {α : Type} [DecidableEq α] {xs : List α} {x : α} (h : x ∈ xs) : idx xs x < xs.length := List.idxOf_lt_length_iff.mpr h
theorem zwt {α : Type} [DecidableEq α] {xs : List α} {x : α} {k : Int → Prop} (h : x ∈ xs) (hk : k ((idx xs x : Nat) : Int)) : idxW xs x k := by
  have hl := List.idxOf_lt_length_iff.mpr h
  refine ⟨xs.idxOf x, ?_, fun m hm e => ?_, hk⟩
  · rw [List.getElem?_eq_getElem hl, List.getElem_idxOf hl]
  · obtain ⟨h1, h2⟩ := List.getElem?_eq_some_iff.mp e
    have := List.not_of_lt_findIdx (p := fun y => y == x) (xs := xs) hm
    simp [h2] at this
def pows (K : Int) (n : Nat) : List Int := (List.range n).map fun i : Nat => K ^ i
theorem zkr {K : Int} {n i : Nat} (h : i < n) : (pows K n)[i]? = some (K ^ i) := by simp [pows, h]
theorem zwu (K : Int) (n : Nat) : pows K (n + 1) = pows K n ++ [K ^ n] := by simp [pows, List.range_succ]
theorem take_snoc {α : Type} {xs : List α} {i : Nat} {x : α} (h : xs[i]? = some x) : xs.take (i + 1) = xs.take i ++ [x] := by
  rw [List.take_add_one, h]; rfl
theorem zyc {κ α : Type} [DecidableEq κ] {t : List (κ × α)} (nd : (za t).Nodup) {i : Nat} {k : κ} {v : α} (h : t[i]? = some (k, v)) : putG (t.take i) k v = t.take (i + 1) := by
  have hk : (za t)[i]? = some k := by unfold za; rw [List.getElem?_map, h]; rfl
  have e : za (t.take i) = (za t).take i := by unfold za; rw [List.map_take]
  have nin : k ∉ za (t.take i) := fun z => by
    rw [e] at z
    have nt : ((za t).take (i + 1)).Nodup := nd.sublist (List.take_sublist _ _)
    rw [take_snoc hk] at nt
    exact (List.nodup_append.mp nt).2.2 _ z _ (by simp) rfl
  rw [v5 nin, take_snoc h]
theorem z26 {t : Tb} {homes : Option (List (Sg × Int))} {Q : Tb → Prop} (nd : (za t).Nodup) (hl : t.length ≤ 1000) {b : Nat} (hb : ∀ q ∈ t, Bits b q.2) (h100 : b ≤ 100000) (h : Q (exT t homes)) : exW t homes Q := by
  have hz : (1000000 : Nat) < sizeLine := by decide
  have n1 := z0j t
  have n2 := z0k t
  refine z24 (by omega) (z25 (by omega) ?_)
  let K : Int := ((pls t).length : Int) + 1
  have bK : Bits 11 K := Bits.of (by omega) (by show ((pls t).length : Int) + 1 < _; have : (2 ^ 11 : Nat) = 2048 := rfl; omega)
  have bP : ∀ n, n ≤ 1000 → Bits 11100 (K ^ n) := fun n hn => (Bits.pow bK n).mono (by omega)
  have bn : Bits 11 (((nms t).length : Int) + 1) := Bits.of (by omega) (by have : (2 ^ 11 : Nat) = 2048 := rfl; omega)
  refine xi (fun i (ps : List Int) => ps = pows K (i + 1)) rfl ?_ ?_
  · rintro i x ps nx hx rfl hn
    have hi := (List.getElem?_eq_some_iff.mp hx).1
    have lp : (pows K (i + 1)).length = i + 1 := by simp [pows]
    refine ⟨K ^ i, z0l lp (zkr (Nat.lt_succ_self _)), ?_⟩
    refine ⟨(bP i (by omega)).cm bK (by decide) (by decide) (by decide), by omega, hn _ ?_⟩
    rw [zwu K (i + 1), Int.pow_succ]
  · rintro ps rfl
    have lp : (pows K ((nms t).length + 1)).length = (nms t).length + 1 := by simp [pows]
    refine xi (fun i (found : Tb) => found = (exT t homes).take i) rfl ?_ ?_
    · rintro i ⟨⟨n, p⟩, v⟩ found nx hx rfl hn
      have hm : ((n, p), v) ∈ t := List.mem_of_getElem? hx
      have hi := (List.getElem?_eq_some_iff.mp hx).1
      have hk : (n, p) ∈ za t := List.mem_map.mpr ⟨_, hm, rfl⟩
      have hn' : n ∈ nms t := mem_nms.mpr ⟨p, hk⟩
      have hp' : p ∈ pls t := mem_pls.mpr ⟨n, hk⟩
      have ln := zws hn'
      have lpl := zws hp'
      have fin : ∀ b : Bool, b = zgi homes n p → asgW b fun is_home =>
     idxW (pls t) p fun t_8 => idxW (nms t) n fun t_9 => ixW (pows K ((nms t).length + 1)) ((((nms t).length : Int) - (1 : Int)) - t_9) fun t_10 => zx (CM (((pls t).length : Int) - t_8) t_10) <| asgW ((((pls t).length : Int) - t_8) * t_10) fun digit =>
     zx (CM v (((nms t).length : Int) + (1 : Int))) <| zx (CM ((v * (((nms t).length : Int) + (1 : Int))) + (1 : Int)) (((nms t).length : Int) + (1 : Int))) <| asgW ((((v * (((nms t).length : Int) + (1 : Int))) + (1 : Int)) * (((nms t).length : Int) + (1 : Int))) + (if is_home = true then (1 : Int) else 0)) fun rank =>
     ixW (pows K ((nms t).length + 1)) ((nms t).length : Int) fun t_11 => zx (CM rank t_11) <| putW ((exT t homes).take i) (n, p) ((rank * t_11) + digit) fun found3 => nx found3 := by
        rintro b rfl
        refine asgI ?_
        refine zwt hp' ?_
        refine zwt hn' ?_
        refine ixI (zwr (n := (nms t).length - 1 - idx (nms t) n) (by omega) (zkr (by omega))) ?_
        have b1 : Bits 11 (((pls t).length : Int) - (idx (pls t) p : Nat)) := Bits.of (by omega) (by have : (2 ^ 11 : Nat) = 2048 := rfl; omega)
        refine x5 (b1.cm (bP _ (by omega)) (by decide) (by decide) (by decide)) (asgI ?_)
        have bv : Bits (b + 1) v := (hb _ hm).mono (by omega)
        refine x5 (bv.cm bn (by omega) (by decide) (by omega)) ?_
        have b1' : Bits (b + 12) 1 := by
          have : Bits 1 1 := by unfold Bits; decide
          exact this.mono (by omega)
        have b2 := (bv.mul bn).add (b1'.mono (by omega))
        refine x5 (b2.cm bn (by omega) (by decide) (by omega)) (asgI ?_)
        have b3 : Bits (b + 26) (((v * (((nms t).length : Int) + (1 : Int))) + (1 : Int)) * (((nms t).length : Int) + (1 : Int)) + (if zgi homes n p = true then (1 : Int) else 0)) := by
          refine ((b2.mul bn).add ?_).mono (by omega)
          have : Bits 1 (if zgi homes n p = true then (1 : Int) else 0) := by split <;> (unfold Bits; decide)
          exact this.mono (by omega)
        refine ixI (zwr (n := (nms t).length) rfl (zkr (Nat.lt_succ_self _))) ?_
        refine x5 (b3.cm (bP _ (by omega)) (by omega) (by decide) (by omega)) ?_
        refine putI (by rw [List.length_take]; omega) (hn _ ?_)
        refine zyc (by rw [zkp]; exact nd) ?_
        unfold exT
        rw [List.getElem?_map, hx]
        rfl
      refine asgI ?_
      cases homes with
      | none => exact andI (fun z => nomatch z) fun _ => fin false rfl
      | some d =>
        refine andI (fun _ => unI rfl ?_) (fun z => nomatch z)
        cases e : valG d n with
        | none => exact andI (fun z => by unfold hasG at z; rw [e] at z; cases z) fun _ => fin false (by unfold zgi; simp [e])
        | some q =>
          refine andI (fun _ => unI rfl (getI e ?_)) (fun z => by unfold hasG at z; rw [e] at z; cases z)
          refine fin _ ?_
          unfold zgi
          simp [e, eqB]
    · rintro found rfl
      show Q _
      rw [List.take_of_length_le (by simp [exT])]
      exact h
end Lb
end Mv
namespace Mv
namespace Mt
section
variable {R C : Type} [DecidableEq R] [DecidableEq C] {w : R → C → Option Int} {rs rs' : List R} {f g : R → Option C} {u : R → Int} {p : C → Int}
theorem zrf (l : List R) : V w l f = V w (l.filter fun r => (f r).isSome) f := by
  unfold V
  induction l with
  | nil => rfl
  | cons r l ih =>
    rw [List.filter_cons]
    cases h : f r with
    | none => simp [h, ih, val]
    | some c => simp [h, ih]
theorem V_sup (n1 : rs.Nodup) (n2 : rs'.Nodup) (h1 : ∀ r c, f r = some c → r ∈ rs) (h2 : ∀ r c, f r = some c → r ∈ rs') : V w rs f = V w rs' f := by
  rw [zrf rs, zrf rs']
  refine sum_perm ((List.perm_ext_iff_of_nodup (n1.filter _) (n2.filter _)).mpr fun r => ?_)
  rw [List.mem_filter, List.mem_filter]
  constructor
  · rintro ⟨a, b⟩
    obtain ⟨c, hc⟩ := Option.isSome_iff_exists.mp b
    exact ⟨h2 r c hc, b⟩
  · rintro ⟨a, b⟩
    obtain ⟨c, hc⟩ := Option.isSome_iff_exists.mp b
    exact ⟨h1 r c hc, b⟩
theorem Mat.rows {w' : R → C → Option Int} (h : ∀ r c x, w r c = some x → r ∈ rs') (G : Mat w rs f) : Mat w rs' f := ⟨fun r c e => by
  obtain ⟨_, x, hx⟩ := G.dom r c e
  exact ⟨h r c x hx, x, hx⟩, G.inj⟩
theorem V_list {l : List (R × C)} (nl : (l.map (·.1)).Nodup) (n1 : rs.Nodup) (hf : ∀ r c, f r = some c ↔ (r, c) ∈ l) (h1 : ∀ r c, f r = some c → r ∈ rs) : (l.map fun q => (w q.1 q.2).getD 0).sum = V w rs f := by
  rw [V_sup n1 nl h1 fun r c e => List.mem_map.mpr ⟨_, (hf r c).mp e, rfl⟩]
  unfold V
  rw [List.map_map]
  congr 1
  refine List.map_congr_left fun q hq => ?_
  have := (hf q.1 q.2).mpr hq
  simp [val, this]
def tr (w : R → C → Option Int) : C → R → Option Int := fun c r => w r c
def Inv2 (f : R → Option C) (g : C → Option R) : Prop := ∀ r c, f r = some c ↔ g c = some r
structure Best (w : R → C → Option Int) (rs : List R) (f : R → Option C) : Prop where
  mt : Mat w rs f
  top : ∀ g, Mat w rs g → V w rs g ≤ V w rs f
theorem Cert.isBest (nd : rs.Nodup) (K : Cert w rs f u p) : Best w rs f := ⟨K.mt, fun g G => K.best nd G⟩
theorem best_ex {cs : List C} (hl : jz w cs) (nd : rs.Nodup) : ∃ f, Best w rs f := by
  obtain ⟨f, u, p, K⟩ := zq9 hl nd
  exact ⟨f, K.isBest nd⟩
theorem Best.cert {cs : List C} (hl : jz w cs) (nd : rs.Nodup) (B : Best w rs f) : ∃ u p, Cert w rs f u p := znu hl nd B.mt B.top
theorem Best.eq (A : Best w rs f) (B : Best w rs g) : V w rs f = V w rs g := Int.le_antisymm (B.top f A.mt) (A.top g B.mt)
theorem Best.rows (n1 : rs.Nodup) (n2 : rs'.Nodup) (h1 : ∀ r c x, w r c = some x → r ∈ rs) (h2 : ∀ r c x, w r c = some x → r ∈ rs') (B : Best w rs f) : Best w rs' f := by
  have dom : ∀ {l : List R} {k : R → Option C}, Mat w l k → ∀ l' : List R, (∀ r c x, w r c = some x → r ∈ l') → ∀ r c, k r = some c → r ∈ l' := fun G l' h r c e => by
    obtain ⟨_, x, hx⟩ := G.dom r c e; exact h r c x hx
  refine ⟨B.mt.rows (w' := w) h2, fun k G => ?_⟩
  rw [← V_sup n1 n2 (dom G rs h1) (dom G rs' h2), ← V_sup n1 n2 (dom B.mt rs h1) (dom B.mt rs' h2)]
  exact B.top k (G.rows (w' := w) h1)
end
end Mt
end Mv
namespace Mv
namespace Lb
open PySem PySem.Spec PyProof.Rows L2 Tk
open Mt (Cert Mat Best jz PInv PFix worthOf tr Inv2 wOut)
section
variable {R C : Type} [DecidableEq R] [DecidableEq C]
abbrev Tab (R C : Type) := List ((R × C) × Int)
def rws (t : Tab R C) : List R := dd ((za t).map (·.1))
def cls (t : Tab R C) : List C := dd ((za t).map (·.2))
theorem mem_rws {t : Tab R C} {r : R} : r ∈ rws t ↔ ∃ c, (r, c) ∈ za t := by
  unfold rws; rw [mem_dd, List.mem_map]
  exact ⟨fun ⟨a, h, e⟩ => ⟨a.2, e ▸ h⟩, fun ⟨p, h⟩ => ⟨_, h, rfl⟩⟩
theorem mem_cls {t : Tab R C} {c : C} : c ∈ cls t ↔ ∃ r, (r, c) ∈ za t := by
  unfold cls; rw [mem_dd, List.mem_map]
  exact ⟨fun ⟨a, h, e⟩ => ⟨a.1, e ▸ h⟩, fun ⟨p, h⟩ => ⟨_, h, rfl⟩⟩
theorem z16 {t : Tab R C} (r : R) (c : C) (x : Int) (h : tb t r c = some x) : r ∈ rws t := mem_rws.mpr ⟨c, zeq h⟩
theorem zrg {t : Tab R C} (r : R) (c : C) (x : Int) (h : tb t r c = some x) : c ∈ cls t := mem_cls.mpr ⟨r, zeq h⟩
theorem zi6 {t : Tb} (r : Sg) (c : Int) (x : Int) (h : tb t r c = some x) : r ∈ nms t := mem_nms.mpr ⟨c, zeq h⟩
theorem zrh {t : Tb} (r : Sg) (c : Int) (x : Int) (h : tb t r c = some x) : c ∈ pls t := mem_pls.mpr ⟨r, zeq h⟩
noncomputable def gvT (t : Tab R C) : Int := Mt.V (tb t) (rws t) (Classical.choose (Mt.best_ex (w := tb t) (rs := rws t) (cs := cls t) (fun r c x h => zrg r c x h) y6))
theorem zl1 {t : Tab R C} {rs : List R} {f : R → Option C} (nd : rs.Nodup) (hr : ∀ r c x, tb t r c = some x → r ∈ rs) (B : Best (tb t) rs f) : Mt.V (tb t) rs f = gvT t := by
  have A := Classical.choose_spec (Mt.best_ex (w := tb t) (rs := rws t) (cs := cls t) (fun r c x h => zrg r c x h) y6)
  exact B.eq (A.rows y6 nd z16 hr) |>.trans (Mt.V_sup nd y6 (fun r c e => by
    obtain ⟨_, x, hx⟩ := A.mt.dom r c e; exact hr r c x hx) fun r c e => (A.mt.dom r c e).1)
end
def cvW (table : Tb) (carrying : (List (Sg × Int))) (Q : Int → Prop) : Prop :=
 lcW carrying (fun (x_ : (Sg × Int)) (k_ : Option Int → Prop) => getW table (x_.1, x_.2) fun t_ => k_ (some t_)) fun t_1 => retW t_1.sum Q
def gpT (t : Tb) (Q : (List (Sg × Int)) → Prop) : Prop := gpW (z4 (eP2 sD D.int) (za t)) t Q
def gvW (table : Tb) (Q : Int → Prop) : Prop := gpT table fun t_ => cvW table t_ fun t_1 => retW t_1 Q
def bcW (table : Tb) (homes : (Option (List (Sg × Int)))) (Q : (List (Sg × Int)) → Prop) : Prop := exW table homes fun t_ => gpT t_ fun t_1 => retW t_1 Q
theorem zyd {t : Tb} {rs : List Sg} (nd : rs.Nodup) (h : ∀ r, r ∈ rs ↔ ∃ c, (r, c) ∈ za t) : rs.Perm (nms t) := zc4 nd (yh t) fun a => by rw [h, mem_nms]
theorem zwv {t : Tb} {Q : List (Sg × Int) → Prop} (nd : (za t).Nodup) (hl : t.length ≤ 1000000)
    (h : ∀ (row : List (Sg × Int)) (u : Sg → Int) (p : Int → Int), (za row).Nodup → row.length ≤ t.length → Cert (tb t) (nms t) (fn row) u p → Q row) : gpT t Q :=
  z23 nd hl (jt _ _) fun rs row u p n1 m1 _ n2 l2 K => h row u p n2 l2 (K.perm (zyd n1 m1))
theorem z27 {t : Tb} {row : List (Sg × Int)} {Q : Int → Prop} (nr : (za row).Nodup) (hl : row.length ≤ 1000000) (G : Mat (tb t) (nms t) (fn row)) (h : Q (Mt.V (tb t) (nms t) (fn row))) : cvW t row Q := by
  have hz : (1000000 : Nat) < sizeLine := by decide
  have hf : ∀ r c, fn row r = some c ↔ (r, c) ∈ row := fun r c => ⟨fun e => ui e, fun e => jf nr e⟩
  refine x5 (by omega) ?_
  refine xi (fun i (l : List Int) => l = (row.take i).map fun q => (tb t q.1 q.2).getD 0) rfl ?_ ?_
  · rintro i ⟨n, p⟩ l nx hx rfl hn
    obtain ⟨_, x, hx2⟩ := G.dom n p ((hf n p).mpr (List.mem_of_getElem? hx))
    refine getI hx2 (hn _ ?_)
    rw [take_snoc hx, List.map_append]
    simp [hx2]
  · rintro l rfl
    show Q _
    rw [List.take_length, Mt.V_list (w := tb t) (f := fn row) (rs := nms t) nr (yh t) hf fun r c e => (G.dom r c e).1]
    exact h
theorem z28 {t : Tb} {Q : Int → Prop} (nd : (za t).Nodup) (hl : t.length ≤ 1000000) (h : Q (gvT t)) : gvW t Q :=
  zwv nd hl fun row u p nr lr K => z27 nr (by omega) K.mt (by
    show Q _
    rw [zl1 (yh t) zi6 (K.isBest (yh t))]; exact h)
structure IsBest (t : Tb) (homes : Option (List (Sg × Int))) (f : Sg → Option Int) : Prop where
  mt : Mat (tb t) (nms t) f
  top : ∀ g, Mat (tb t) (nms t) g → (exX t homes).le (tb t) g f
theorem IsBest.best {t : Tb} {homes} {f : Sg → Option Int} (A : IsBest t homes f) : Best (tb t) (nms t) f := ⟨A.mt, fun g G => Mt.Ex.le_val (A.top g G)⟩
theorem znx {t t' : Tb} (h : ∀ k, k ∈ za t ↔ k ∈ za t') : nms t = nms t' := zwq fun a => by
  rw [List.mem_map, List.mem_map]
  exact ⟨fun ⟨b, h1, e⟩ => ⟨b, (h b).mp h1, e⟩, fun ⟨b, h1, e⟩ => ⟨b, (h b).mpr h1, e⟩⟩
theorem z0m (t : Tb) (homes) : nms (exT t homes) = nms t := znx fun k => by rw [zkp]
theorem z29 {t : Tb} {homes : Option (List (Sg × Int))} {Q : List (Sg × Int) → Prop} (nd : (za t).Nodup) (hl : t.length ≤ 1000) {b : Nat} (hb : ∀ q ∈ t, Bits b q.2) (h100 : b ≤ 100000)
    (h : ∀ row, (za row).Nodup → row.length ≤ t.length → IsBest t homes (fn row) → Q row) : bcW t homes Q := by
  have le : (exT t homes).length = t.length := by simp [exT]
  refine z26 nd hl hb h100 (zwv (by rw [zkp]; exact nd) (by omega) fun row u p nr lr K => h row nr (by omega) ?_)
  rw [z0m, z15] at K
  exact ⟨(Mt.Ex.mat (zkq t homes)).mp K.mt, Mt.Ex.best (zkq t homes) ((Mt.Ex.mat (zkq t homes)).mp K.mt) fun g G => K.best (yh t) G⟩
theorem IsBest.cert {t : Tb} {homes} {f : Sg → Option Int} (A : IsBest t homes f) : ∃ u p, Cert (tb t) (nms t) f u p := A.best.cert (cs := pls t) zrh (yh t)
end Lb
end Mv
namespace Mv
namespace Lb
open PySem PySem.Spec PyProof.Rows L2 Tk
open Mt (Cert Mat Best jz PInv PFix worthOf tr Inv2 wOut)
def nwW (table : Tb) (Q : (List (Sg × Int)) → Prop) : Prop := bcW table none fun t_ => rwW table t_ fun t_1 => retW t_1 Q
structure Fit (t : Tb) : Prop where
  nd : (za t).Nodup
  len : t.length ≤ 1000
  bits : ∃ b, b ≤ 100000 ∧ ∀ q ∈ t, Bits b q.2
theorem Fit.bc {t : Tb} (F : Fit t) {homes : Option (List (Sg × Int))} {Q : List (Sg × Int) → Prop}
    (h : ∀ row, (za row).Nodup → row.length ≤ t.length → IsBest t homes (fn row) → Q row) : bcW t homes Q := by
  obtain ⟨b, hb, h100⟩ := F.bits
  exact z29 F.nd F.len h100 hb h
theorem Fit.gv {t : Tb} (F : Fit t) {Q : Int → Prop} (h : Q (gvT t)) : gvW t Q := z28 F.nd (by have := F.len; omega) h
structure IsPr {R C : Type} [DecidableEq R] [DecidableEq C] (w : R → C → Option Int) (rs : List R) (f : R → Option C) (pr : C → Int) : Prop where
  inv : PInv w rs f pr
  fix : PFix w rs f pr
theorem Fit.nw {t : Tb} (F : Fit t) {Q : List (Sg × Int) → Prop}
    (h : ∀ (f : Sg → Option Int) (pr : Int → Int) (found : List (Sg × Int)), IsBest t none f → IsPr (tb t) (nms t) f pr → (za found).Nodup → (∀ n, n ∈ za found ↔ n ∈ nms t) → found.length ≤ t.length → (∀ n, n ∈ nms t → valG found n = some (worthOf (tb t) f pr n)) → Q found) : nwW t Q := by
  have := F.len
  refine F.bc fun row nr lr B => ?_
  obtain ⟨u, p, K⟩ := B.cert
  refine z20 F.nd (by omega) nr K (fun r c hk => mem_nms.mpr ⟨c, hk⟩) fun prices found h1 h2 h3 h4 h5 h6 => ?_
  have hk : ∀ n, n ∈ za found ↔ n ∈ nms t := fun n => by rw [h4, mem_nms]
  exact h (fn row) (pv prices) found B ⟨h1, h2⟩ h3 hk h5 fun n hn => h6 n ((hk n).mpr hn)
theorem zl2 {t t2 : Tb} {f : Sg → Option Int} {pr : Int → Int} (B : IsBest t none f) (P : IsPr (tb t) (nms t) f pr) {n : Sg} (hn : n ∈ nms t) (h2 : tb t2 = wOut (tb t) n) : worthOf (tb t) f pr n = gvT t - gvT t2 := by
  obtain ⟨u, p, K⟩ := B.cert
  have hr : ∀ r c x, tb t2 r c = some x → r ∈ nms t := fun r c x e => by
    rw [h2] at e; unfold wOut at e
    split at e
    · cases e
    · exact zi6 r c x e
  obtain ⟨f', B'⟩ := Mt.best_ex (w := tb t2) (rs := nms t) (cs := cls t2) zrg (yh t)
  have e1 := zl1 (yh t) hr B'
  have e2 := zl1 (yh t) zi6 B.best
  rw [h2] at B' e1
  have := Mt.worth_row (cs := pls t) zrh (yh t) P.inv P.fix K hn B'.mt B'.top
  omega
end Lb
end Mv
namespace Mv
namespace Lb
open PySem PySem.Spec PyProof.Rows L2 Tk
theorem zd6 {n : Int} {k : Int → Prop} (h1 : 0 < n) (h2 : n < 1073741824) (h : ∀ r, 0 ≤ r → r < n → k r) : qr () n k := ⟨⟨h1, h2⟩, h⟩
theorem zt0 {α : Type} {xs : List α} {k : α → Prop} (h1 : 0 < xs.length) (h2 : xs.length < 1073741824) (h : ∀ x ∈ xs, k x) : yz () xs k := ⟨⟨h1, h2⟩, h⟩
theorem zi7 {lo hi : Int} {k : List Int → Prop} (h1 : -1000000 ≤ lo ∧ lo ≤ 1000000) (h2 : -1000000 ≤ hi ∧ hi ≤ 1000000) (h : k (yr lo hi)) : zan lo hi k := ⟨⟨by omega, by omega, by omega, by omega⟩, h⟩
theorem zi8 (lo hi : Int) : (yr lo hi).length = (hi - lo).toNat := by simp [yr]
theorem mem_range {lo hi x : Int} : x ∈ yr lo hi ↔ lo ≤ x ∧ x < hi := by
  unfold yr
  simp only [List.mem_map, List.mem_range]
  constructor
  · rintro ⟨i, h, rfl⟩; omega
  · intro ⟨h1, h2⟩; exact ⟨(x - lo).toNat, by omega, by omega⟩
theorem v7 : (1000000 : Nat) < sizeLine := by decide
theorem zww {n : Nat} (h : n ≤ 1000000) : n < sizeLine := by have := v7; omega
theorem z3a {ι : Type} {xs : List ι} {body : ι → Prop → Prop} {k : Prop} (hs : ∀ x ∈ xs, ∀ nx : Prop, nx → body x nx) (hk : k) : zfa xs body k := by
  refine zwc (fun _ => True) trivial (fun i x nx hx _ h => hs x (List.mem_of_getElem? hx) nx (h trivial)) fun _ => hk
theorem mem_put {κ α : Type} [DecidableEq κ] {t : List (κ × α)} {k : κ} {v : α} {q : κ × α} (h : q ∈ putG t k v) : q ∈ t ∨ q = (k, v) := by
  by_cases e : k ∈ za t
  · rw [zcx e] at h
    obtain ⟨a, ha, rfl⟩ := List.mem_map.mp h
    split
    · rename_i z; subst z; exact .inr rfl
    · exact .inl ha
  · rw [v5 e] at h
    rcases List.mem_append.mp h with h | h
    · exact .inl h
    · exact .inr (by simpa using h)
end Lb
end Mv
namespace Mv
namespace Lb
open PySem PySem.Spec PyProof.Rows L2 Tk
open Mt (Cert Mat Best jz PInv PFix worthOf tr Inv2 wOut)
theorem zdm {κ α : Type} [DecidableEq κ] {t : List (κ × α)} (nd : (za t).Nodup) (c : κ → Bool) (k : κ) : valG (t.filter fun q => c q.1) k = if c k = true then valG t k else none := by
  induction t with
  | nil => simp [valG]
  | cons q t ih =>
    obtain ⟨n1, n2⟩ := List.nodup_cons.mp (show (q.1 :: za t).Nodup from nd)
    rw [List.filter_cons]
    by_cases e : c q.1 = true
    · rw [if_pos e, xh, xh, ih n2]
      by_cases h : q.1 = k
      · subst h; rw [if_pos rfl, if_pos e, if_pos rfl]
      · rw [if_neg h, if_neg h]
    · rw [if_neg e, ih n2, xh]
      by_cases h : q.1 = k
      · subst h
        rw [if_neg e, if_neg e]
      · rw [if_neg h]
theorem zl3 {κ α : Type} {t : List (κ × α)} (nd : (za t).Nodup) (p : κ × α → Bool) : (za (t.filter p)).Nodup := nd.sublist (List.Sublist.map _ List.filter_sublist)
theorem keys_at {κ α : Type} {t : List (κ × α)} {i : Nat} {k : κ} (h : (za t)[i]? = some k) : ∃ v, t[i]? = some (k, v) := by
  unfold za at h
  rw [List.getElem?_map] at h
  obtain ⟨q, hq, rfl⟩ := Option.map_eq_some_iff.mp h
  exact ⟨q.2, hq⟩
theorem zss {κ α : Type} [DecidableEq κ] {t : List (κ × α)} (c : κ → Bool) {K : List (κ × α) → Prop} (nd : (za t).Nodup) (hl : t.length ≤ 1000000) (h : K (t.filter fun q => c q.1)) :
    x4 (za t) ([] : List (κ × α)) (fun x acc nxt => ifW (c x) (getW t x fun v => putW acc x v nxt) (nxt acc)) K := by
  refine x5 (by rw [xc]; exact Nat.le_of_lt (zww hl)) ?_
  refine xi (fun i (u : List (κ × α)) => u = (t.take i).filter fun q => c q.1) rfl ?_ ?_
  · rintro i k u nx hk rfl hn
    obtain ⟨v, hv⟩ := keys_at hk
    have hval := jf nd (List.mem_of_getElem? hv)
    have hi := (List.getElem?_eq_some_iff.mp hv).1
    refine ifI (fun e => getI hval (putI (zww ?_) (hn _ ?_))) fun e => hn _ ?_
    · exact Nat.le_trans (List.length_filter_le _ _) (by rw [List.length_take]; omega)
    · have nin : k ∉ za ((t.take i).filter fun q => c q.1) := fun z => by
        obtain ⟨q, hq, rfl⟩ := List.mem_map.mp z
        have hq' := (List.mem_filter.mp hq).1
        have hk2 : q.1 ∈ (za t).take i := by unfold za; rw [← List.map_take]; exact List.mem_map.mpr ⟨q, hq', rfl⟩
        have nt : ((za t).take (i + 1)).Nodup := nd.sublist (List.take_sublist _ _)
        rw [take_snoc hk] at nt
        exact (List.nodup_append.mp nt).2.2 _ hk2 _ (by simp) rfl
      rw [v5 nin, take_snoc hv, List.filter_append]
      simp [e]
    · rw [take_snoc hv, List.filter_append]
      simp [e]
  · rintro u rfl
    rw [xc, List.take_length]; exact h
theorem Fit.filter {t : Tb} (F : Fit t) (p : (Sg × Int) × Int → Bool) : Fit (t.filter p) := by
  obtain ⟨b, h1, h2⟩ := F.bits
  exact ⟨zl3 F.nd p, Nat.le_trans (List.length_filter_le _ _) F.len, b, h1, fun q hq => h2 q (List.mem_filter.mp hq).1⟩
theorem zny {t : Tb} (nd : (za t).Nodup) (c : Sg × Int → Bool) (n : Sg) (p : Int) : tb (t.filter fun q => c q.1) n p = if c (n, p) = true then tb t n p else none := zdm nd c (n, p)
end Lb
end Mv
namespace Mv
namespace Lb
open PySem PySem.Spec PyProof.Rows L2 Tk
open Mt (Cert Mat Best jz)
section
variable {ι A0 A1 : Type}
theorem z0n {xs : List ι} {a : A0} {body : ι → A0 → (A0 → Prop) → Prop} {k : A0 → Prop} (g : A0 → ι → A0)
    (hs : ∀ i x nx, xs[i]? = some x → nx (g ((xs.take i).foldl g a) x) → body x ((xs.take i).foldl g a) nx) (hk : k (xs.foldl g a)) : xo xs a body k := by
  refine xi (fun i acc => acc = (xs.take i).foldl g a) rfl ?_ ?_
  · rintro i x acc nx hx rfl hn
    refine hs i x nx hx (hn _ ?_)
    rw [take_snoc hx, List.foldl_append]; rfl
  · rintro acc rfl
    rw [List.take_length]; exact hk
def addO {β : Type} (acc : List β) : Option β → List β
  | some y => acc ++ [y]
  | none => acc
theorem zgj {β : Type} (f : ι → Option β) : ∀ (xs : List ι) (a : List β), xs.foldl (fun acc x => addO acc (f x)) a = a ++ xs.filterMap f
  | [], a => by simp
  | x :: xs, a => by
    rw [List.foldl_cons, zgj f xs, List.filterMap_cons]
    cases f x with
    | none => rfl
    | some y => simp [addO]
end
abbrev Row := List (Sg × Int)
end Lb
end Mv
namespace Mv
namespace Lb
open PySem PySem.Spec PyProof.Rows L2 Tk
open Mt (Cert Mat Best jz)
def stays (house row : Row) : List Sg := (za row).filter fun n => decide (valG house n = valG row n)
end Lb
end Mv
namespace Mv
namespace Lb
open PySem PySem.Spec PyProof.Rows L2 Tk
end Lb
end Mv
namespace Mv
namespace Mt
section
variable {R C : Type} [DecidableEq R] [DecidableEq C] {w : R → C → Option Int} {rs : List R} {f : R → Option C} {u u' u2 : R → Int} {p p' p2 : C → Int}
end
end Mt
end Mv
namespace Mv
namespace Mt
section
variable {R C : Type} [DecidableEq R] [DecidableEq C] {w : R → C → Option Int} {f g : R → Option C}
theorem z17 (w : R → C → Option Int) (f : R → Option C) (r : R) (rs : List R) : V w (r :: rs) f = val w f r + V w rs f := by
  unfold V; rw [List.map_cons, List.sum_cons]
theorem z18 {w w' : R → C → Option Int} {f g : R → Option C} {rs : List R} (h : ∀ r, r ∈ rs → val w f r = val w' g r) : V w rs f = V w' rs g := by
  unfold V; rw [List.map_congr_left h]
def z3b (w : R → C → Option Int) (pre : List R) (f : R → Option C) (r : R) (c : C) : Option Int := if r ∉ pre ∧ (∀ m ∈ pre, f m ≠ some c) then w r c else none
def zl4 (w : R → C → Option Int) (n : R) (s : C) (r : R) (c : C) : Option Int := if r ≠ n ∧ c ≠ s then w r c else none
theorem zl5 {n r : R} {s c : C} {x : Int} (h : zl4 w n s r c = some x) : r ≠ n ∧ c ≠ s ∧ w r c = some x := by
  unfold zl4 at h
  split at h
  · rename_i q; exact ⟨q.1, q.2, h⟩
  · cases h
theorem zks {r : R} {c : C} {x : Int} (h : f r = some c) (hx : w r c = some x) : val w f r = x := by unfold val; rw [h]; simp [hx]
theorem zri {r : R} (h : f r = none) : val w f r = 0 := by unfold val; rw [h]
theorem ins {n : R} {s : C} {x : Int} {rs : List R} (hn : n ∉ rs) (hx : w n s = some x) (G : Mat (zl4 w n s) rs g) :
    Mat w (n :: rs) (fun r => if r = n then some s else g r) ∧ V w (n :: rs) (fun r => if r = n then some s else g r) = x + V (zl4 w n s) rs g := by
  have gw : ∀ r c, g r = some c → r ∈ rs ∧ r ≠ n ∧ c ≠ s ∧ ∃ x, w r c = some x := fun r c e => by
    obtain ⟨a, y, hy⟩ := G.dom r c e
    obtain ⟨b1, b2, b3⟩ := zl5 hy
    exact ⟨a, b1, b2, y, b3⟩
  refine ⟨⟨fun r c e => ?_, fun r r' c e e' => ?_⟩, ?_⟩
  · by_cases q : r = n
    · simp only [q, if_true] at e; cases e; subst q; exact ⟨List.mem_cons_self .., x, hx⟩
    · simp only [q, if_false] at e
      obtain ⟨a, _, _, y, hy⟩ := gw r c e
      exact ⟨List.mem_cons_of_mem _ a, y, hy⟩
  · by_cases q : r = n <;> by_cases q' : r' = n
    · rw [q, q']
    · simp only [q, q', if_true, if_false] at e e'
      cases e; exact absurd rfl (gw r' s e').2.2.1
    · simp only [q, q', if_true, if_false] at e e'
      cases e'; exact absurd rfl (gw r s e).2.2.1
    · simp only [q, q', if_false] at e e'; exact G.inj r r' c e e'
  · rw [z17]
    congr 1
    · exact zks (c := s) (by simp) hx
    · refine z18 fun r hr => ?_
      have q : r ≠ n := fun z => hn (z ▸ hr)
      cases e : g r with
      | none => rw [zri (f := g) e, zri (by simp only [q, if_false]; exact e)]
      | some c =>
        obtain ⟨_, y, hy⟩ := G.dom r c e
        rw [zks e hy, zks (c := c) (x := y) (by simp only [q, if_false]; exact e) (zl5 hy).2.2]
variable {X : Ex R C}
end
end Mt
end Mv
namespace Mv
namespace Lb
open PySem PySem.Spec PyProof.Rows L2 Tk
open Mt (Cert Mat Best jz PInv PFix worthOf tr Inv2 wOut)
section
variable {κ : Type} [DecidableEq κ]
theorem zyw {d : List (κ × Int)} {k : κ} (h : k ∈ za d) : valG d k = some (Tk.pv d k) := by
  obtain ⟨v, hv⟩ := zdg h
  have hv' : valG d k = some v := hv
  unfold Tk.pv; rw [hv']; rfl
theorem znz {α : Type} : ∀ (kvs t : List (κ × α)), (za (t ++ kvs)).Nodup → qg t kvs = t ++ kvs
  | [], t, _ => (List.append_nil t).symm
  | q :: kvs, t, h => by
    have hq : q.1 ∉ za t := by
      unfold za at *
      rw [List.map_append, List.map_cons] at h
      intro z
      exact (List.nodup_append.mp h).2.2 _ z _ (List.mem_cons_self ..) rfl
    have e : putG t q.1 q.2 = t ++ [q] := v5 hq
    show qg (putG t q.1 q.2) kvs = _
    rw [e, znz kvs (t ++ [q]) (by rw [List.append_assoc]; exact h), List.append_assoc]
    rfl
theorem zwx {α : Type} {t : List (κ × α)} (nd : (za t).Nodup) : qg [] t = t := by
  rw [znz t [] (by rw [List.nil_append]; exact nd), List.nil_append]
end
theorem z3c {A : Type} {K : A → Prop} {B : (A → Prop) → Prop} (h : ∀ c : A → Prop, (∀ a, K a → c a) → B c) : zd3 K B := h K fun a h => h
end Lb
end Mv
namespace Mv
namespace Lc
open PySem PySem.Spec PyProof.Rows L2 Tk Lb
theorem erase_perm {α : Type} : ∀ {xs : List α} {j : Nat} (h : j < xs.length), (xs[j] :: xs.eraseIdx j).Perm xs
  | x :: xs, 0, _ => List.Perm.refl _
  | x :: xs, j + 1, h => (List.Perm.swap _ _ _).trans (List.Perm.cons x (erase_perm (xs := xs) (j := j) (by simpa using h)))
theorem popI {α : Type} {xs : List α} {i : Int} {k : α → List α → Prop} (h0 : 0 ≤ i) (h1 : i < (xs.length : Int)) (hl : xs.length ≤ 1000000) (h : ∀ x r, (x :: r).Perm xs → k x r) : popW xs i k := by
  obtain ⟨j, rfl⟩ : ∃ j : Nat, i = (j : Int) := ⟨i.toNat, by omega⟩
  have hj : j < xs.length := by omega
  refine ⟨by omega, j, xs[j], ?_, List.getElem?_eq_getElem hj, h _ _ (erase_perm hj)⟩
  unfold seqIndex?
  simp only [show ¬ ((j : Int) < 0) by omega, if_false]
  rw [if_pos (by simp; omega)]
  simp
def sB : Sg := ⟨"b", by decide +kernel⟩
def sAb : Sg := ⟨"ab", by decide +kernel⟩
def sRed : Sg := ⟨"red", by decide +kernel⟩
def sZz : Sg := ⟨"zz", by decide +kernel⟩
def sNew : Sg := ⟨"new", by decide +kernel⟩
def ids9 : List Int := [1, 2, 3, 4, 5, 6, 7, 8, 9]
def drW (stream_here : Unit) (Q : ((List (List Int)) × (List (Int × Sg)) × (List (Int × Int)) × (List (Sg × Int))) → Prop) : Prop :=
 rgW (1 : Int) (10 : Int) fun t_ => zc3 t_ ([] : (List (List Int))) fun left groups =>
 qr stream_here (5 : Int) fun t_1 => zan 0 t_1 fun t_2 => yn t_2 left groups (fun (x_ : Int) (left2 : (List Int)) (groups2 : (List (List Int))) nxt =>
   asgW ([] : (List Int)) fun group =>
   qr stream_here (3 : Int) fun t_3 => zan 0 ((1 : Int) + t_3) fun t_4 => yn t_4 left2 group (fun (x_1 : Int) (left4 : (List Int)) (group2 : (List Int)) nxt1 =>
     ifW (!eqB left4 ([] : (List Int)))
      (qr stream_here (left4.length : Int) fun t_5 => popW left4 t_5 fun t_6 left5 => appW group2 t_6 fun group3 =>
       nxt1 left5 group3)
      (nxt1 left4 group2)) (fun (left3 : (List Int)) (group1 : (List Int)) =>
     zx (group1.length ≤ 16777216) <| zx (-(2 ^ 63) ≤ (if (!eqB group1 ([] : (List Int))) = true then (1 : Int) else 0) ∧ (if (!eqB group1 ([] : (List Int))) = true then (1 : Int) else 0) < 2 ^ 63 ∧ ([(z4 D.int group1)] : (List (List Int))).length * ((if (!eqB group1 ([] : (List Int))) = true then (1 : Int) else 0)).toNat ≤ sizeLine) <| zx (groups2.length + (List.replicate ((if (!eqB group1 ([] : (List Int))) = true then (1 : Int) else 0)).toNat ([(z4 D.int group1)] : (List (List Int)))).flatten.length ≤ sizeLine) <| asgW (groups2 ++ (List.replicate ((if (!eqB group1 ([] : (List Int))) = true then (1 : Int) else 0)).toNat ([(z4 D.int group1)] : (List (List Int)))).flatten) fun groups3 =>
     nxt left3 groups3)) (fun (left1 : (List Int)) (groups1 : (List (List Int))) =>
   zc3 ([] : (List (Int × Sg))) ([] : (List (Int × Int))) fun labels weights =>
   zan (1 : Int) (10 : Int) fun t_7 => yn t_7 labels weights (fun (x_2 : Int) (labels2 : (List (Int × Sg))) (weights2 : (List (Int × Int))) nxt2 =>
     zd3 (fun (labels3 : (List (Int × Sg))) =>
       qr stream_here (9 : Int) fun t_10 => zx (CPw (10 : Int) (6 : Int)) <| yz () ([(1 : Int), (1 : Int), (2 : Int), (3 : Int), ((1 : Int) + t_10), ((10 : Int) ^ ((6 : Int)).toNat)] : (List Int)) fun t_11 => putW weights2 x_2 t_11 fun weights3 =>
       nxt2 labels3 weights3) fun cont =>
     qr stream_here (4 : Int) fun t_8 => ifW (decide ((0 : Int) < t_8))
      (yz () ([sB, sAb, sRed, sZz] : (List Sg)) fun t_9 => putW labels2 x_2 t_9 fun labels4 =>
     cont labels4)
      (cont labels2)) (fun (labels1 : (List (Int × Sg))) (weights1 : (List (Int × Int))) =>
     asgW ([] : (List (Sg × Int))) fun stuck =>
     xo ([sRed, sAb, sB, sZz, sNew] : (List Sg)) stuck (fun (x_3 : Sg) (stuck2 : (List (Sg × Int))) nxt3 =>
       qr stream_here (3 : Int) fun t_12 => ifW (eqB t_12 (0 : Int))
        (qr stream_here (12 : Int) fun t_13 => putW stuck2 x_3 ((1 : Int) + t_13) fun stuck3 =>
         nxt3 stuck3)
        (nxt3 stuck2)) (fun (stuck1 : (List (Sg × Int))) =>
       retW (groups1, labels1, weights1, stuck1) Q)))
structure Drw (gs : List (List Int)) (lb : List (Int × Sg)) (wt : List (Int × Int)) (pn : List (Sg × Int)) : Prop where
  gl : gs.length ≤ 4
  nd : gs.flatten.Nodup
  rng : ∀ i ∈ gs.flatten, i ∈ ids9
  ne : ∀ g ∈ gs, g ≠ []
  lk : (za lb).Nodup
  ll : lb.length ≤ 9
  wk : ∀ i ∈ ids9, ∃ w, valG wt i = some w ∧ 1 ≤ w ∧ w ≤ 1000000
  pk : (za pn).Nodup
  pl : pn.length ≤ 5
  lv : ∀ q ∈ lb, q.1 ∈ ids9 ∧ q.2 ∈ [sB, sAb, sRed, sZz]
  wl : wt.length ≤ 9
  wn : (za wt).Nodup
  wv : ∀ q ∈ wt, q.1 ∈ ids9 ∧ 1 ≤ q.2 ∧ q.2 ≤ 1000000
  pv : ∀ q ∈ pn, q.1 ∈ [sRed, sAb, sB, sZz, sNew] ∧ 1 ≤ q.2 ∧ q.2 ≤ 12
theorem zkt {κ α : Type} [DecidableEq κ] {t : List (κ × α)} {k : κ} {v : α} {P : κ × α → Prop} (h : ∀ q ∈ t, P q) (hp : P (k, v)) : ∀ q ∈ putG t k v, P q := fun q hq => by
  rcases Lb.mem_put hq with z | z
  · exact h q z
  · rw [z]; exact hp
theorem mem_ids {i : Int} : i ∈ ids9 ↔ 1 ≤ i ∧ i ≤ 9 := by
  unfold ids9
  simp only [List.mem_cons, List.not_mem_nil, or_false]
  omega
theorem z19 : ids9.Nodup := by decide
theorem zye {Q : ((List (List Int)) × (List (Int × Sg)) × (List (Int × Int)) × (List (Sg × Int))) → Prop} (h : ∀ gs lb wt pn, Drw gs lb wt pn → Q (gs, lb, wt, pn)) : drW () Q := by
  have hz := v7
  have er : yr 1 10 = ids9 := by decide
  refine x5 (by unfold RgOk; decide) ?_
  rw [er]
  refine zrd (zd6 (by decide) (by decide) fun ng g0 g1 => zi7 (by decide) (by omega) ?_)
  refine zde (fun i (left : List Int) (groups : List (List Int)) => (left ++ groups.flatten).Perm ids9 ∧ groups.length ≤ i ∧ ∀ g ∈ groups, g ≠ []) ⟨by simp, Nat.le_refl _, by simp⟩ ?_ ?_
  · rintro i x left groups nx hx ⟨i1, i2, i3⟩ hn
    have hi := (List.getElem?_eq_some_iff.mp hx).1
    rw [zi8] at hi
    refine asgI (zd6 (by decide) (by decide) fun m m0 m1 => zi7 (by decide) (by omega) ?_)
    refine zde (fun j (left : List Int) (group : List Int) => (left ++ group ++ groups.flatten).Perm ids9) (by simpa using i1) ?_ ?_
    · rintro j y lf gr nx2 hy J hn2
      have hlen := J.length_eq
      simp only [List.length_append] at hlen
      have h9 : ids9.length = 9 := rfl
      rw [h9] at hlen
      refine ifI (fun q => ?_) fun q => hn2 _ _ J
      have hpos : 0 < lf.length := by
        cases lf with
        | nil => simp [eqB] at q
        | cons a l => simp
      refine zd6 (by omega) (by omega) fun d d0 d1 => popI d0 d1 (by omega) fun z r hp => appI (by omega) (hn2 _ _ ?_)
      refine List.Perm.trans ?_ J
      refine List.Perm.append_right _ ?_
      refine List.Perm.trans ?_ (List.Perm.append_right gr hp)
      rw [← List.append_assoc]
      refine List.Perm.trans List.perm_append_comm ?_
      rw [List.singleton_append, List.cons_append]
    · rintro lf gr J
      have hlen := J.length_eq
      simp only [List.length_append] at hlen
      have h9 : ids9.length = 9 := rfl
      rw [h9] at hlen
      by_cases q : gr = []
      · subst q
        refine x5 (by simp) (x5 (by simp [eqB]) (x5 (by simp [eqB]; omega) (asgI (hn _ _ ?_))))
        simp only [eqB, decide_true, Bool.not_true, Bool.false_eq_true, if_false]
        refine ⟨by simpa using J, by simp; omega, by simpa using i3⟩
      · refine x5 (by omega) (x5 (by simp [eqB, q]; omega) (x5 (by simp [eqB, q]; omega) (asgI (hn _ _ ?_))))
        simp only [eqB, decide_eq_false q, Bool.not_false, if_true]
        refine ⟨?_, by simp; omega, fun g hg => ?_⟩
        · refine List.Perm.trans ?_ J
          have : (groups ++ (List.replicate (1 : Int).toNat ([z4 D.int gr] : List (List Int))).flatten).flatten = groups.flatten ++ z4 D.int gr := by simp
          rw [this, List.append_assoc]
          refine List.Perm.append_left _ ?_
          exact List.perm_append_comm.trans (List.Perm.append_right _ (jt _ _))
        · rcases List.mem_append.mp hg with z | z
          · exact i3 g z
          · have : g = z4 D.int gr := by simpa using z
            rw [this]
            intro e
            have := (jt D.int gr).length_eq
            rw [e] at this
            exact q (List.length_eq_zero_iff.mp this.symm)
  · rintro left groups ⟨i1, i2, i3⟩
    rw [zi8] at i2
    refine zrd (zi7 (by decide) (by decide) ?_)
    rw [er]
    refine zde (fun i (lb : List (Int × Sg)) (wt : List (Int × Int)) => ((za lb).Nodup ∧ lb.length ≤ i ∧ wt.length ≤ i ∧ ∀ k ∈ ids9.take i, ∃ w, valG wt k = some w ∧ 1 ≤ w ∧ w ≤ 1000000) ∧ (∀ q ∈ lb, q.1 ∈ ids9 ∧ q.2 ∈ [sB, sAb, sRed, sZz]) ∧ (za wt).Nodup ∧ (∀ q ∈ wt, q.1 ∈ ids9 ∧ 1 ≤ q.2 ∧ q.2 ≤ 1000000)) ⟨⟨.nil, Nat.le_refl _, Nat.le_refl _, by simp⟩, (fun q h => nomatch h), .nil, (fun q h => nomatch h)⟩ ?_ ?_
    · rintro i x lb wt nx hx ⟨⟨j1, j2, j3, j4⟩, j5, j6, j7⟩ hn
      have hx9 : x ∈ ids9 := List.mem_of_getElem? hx
      have hi := (List.getElem?_eq_some_iff.mp hx).1
      have h9 : ids9.length = 9 := rfl
      rw [h9] at hi
      have tk : ids9.take (i + 1) = ids9.take i ++ [x] := by rw [List.take_succ, hx]; rfl
      refine z3c fun cont hc => ?_
      have fin : ∀ lb', (za lb').Nodup → lb'.length ≤ i + 1 → (∀ q ∈ lb', q.1 ∈ ids9 ∧ q.2 ∈ [sB, sAb, sRed, sZz]) → cont lb' := fun lb' a b c => hc lb' (zd6 (by decide) (by decide) fun d d0 d1 => x5 ⟨by decide, by decide +kernel⟩ (zt0 (by simp) (by simp) fun w hw => putI (by omega) (by
        have e6 : (10 : Int) ^ ((6 : Int)).toNat = 1000000 := rfl
        have hw2 : 1 ≤ w ∧ w ≤ 1000000 := by
          have hw := hw
          simp only [List.mem_cons, List.not_mem_nil, or_false] at hw
          rw [e6] at hw
          omega
        exact hn _ _ ⟨⟨a, b, Nat.le_trans (yq _ _ _) (by omega), fun k hk => by
          rw [jh]
          by_cases q : k = x
          · rw [if_pos q]; exact ⟨w, rfl, hw2⟩
          · rw [if_neg q]
            rw [tk, List.mem_append, List.mem_singleton] at hk
            exact j4 k (hk.resolve_right q)⟩, c, jo j6 _ _, zkt j7 ⟨hx9, hw2⟩⟩)))
      exact zd6 (by decide) (by decide) fun d d0 d1 => ifI (fun _ => zt0 (by simp) (by simp) fun l hl => putI (by omega) (fin _ (jo j1 _ _) (Nat.le_trans (yq _ _ _) (by omega)) (zkt j5 ⟨hx9, hl⟩))) fun _ => fin _ j1 (by omega) j5
    · rintro lb wt ⟨⟨j1, j2, j3, j4⟩, j5, j6, j7⟩
      have h9 : ids9.length = 9 := rfl
      rw [List.take_length] at j4
      rw [h9] at j2 j3
      refine asgI ?_
      refine xi (fun i (pn : List (Sg × Int)) => (za pn).Nodup ∧ pn.length ≤ i ∧ ∀ q ∈ pn, q.1 ∈ [sRed, sAb, sB, sZz, sNew] ∧ 1 ≤ q.2 ∧ q.2 ≤ 12) ⟨.nil, Nat.le_refl _, (fun q h => nomatch h)⟩ ?_ ?_
      · rintro i x pn nx hx ⟨k1, k2, k3⟩ hn
        have hi := (List.getElem?_eq_some_iff.mp hx).1
        have h5 : ([sRed, sAb, sB, sZz, sNew] : List Sg).length = 5 := rfl
        rw [h5] at hi
        exact zd6 (by decide) (by decide) fun d d0 d1 => ifI (fun _ => zd6 (by decide) (by decide) fun e e0 e1 => putI (by omega) (hn _ ⟨jo k1 _ _, Nat.le_trans (yq _ _ _) (by omega), zkt k3 ⟨List.mem_of_getElem? hx, by show 1 ≤ 1 + e; omega, by show 1 + e ≤ 12; omega⟩⟩)) fun _ => hn _ ⟨k1, by omega, k3⟩
      · rintro pn ⟨k1, k2, k3⟩
        have nd := i1.nodup_iff.mpr z19
        exact h _ _ _ _ ⟨by omega, (List.nodup_append.mp nd).2.1, fun i hi => i1.mem_iff.mp (List.mem_append_right _ hi), i3, j1, j2, j4, k1, k2, j5, j3, j6, j7, k3⟩
end Lc
end Mv
namespace Mv
namespace Lc
open PySem PySem.Spec PyProof.Rows L2 Tk Lb
open Mt (Mat Best)
def prs (xs : List (Int × List Int)) : List (Int × Int) := xs.flatMap fun (x : Int × List Int) => x.2.map fun (i : Int) => (x.1, i)
theorem zgk (xs ys : List (Int × List Int)) : prs (xs ++ ys) = prs xs ++ prs ys := by unfold prs; rw [List.flatMap_append]
theorem nest {A : Type} {xs : List (Int × List Int)} {a : A} (wrap : Int × List Int → Prop → Prop) (hw : ∀ x ∈ xs, ∀ P : Prop, P → wrap x P) (g : A → Int × Int → A) {body : Int × List Int → Int → A → (A → Prop) → Prop} {k : A → Prop}
    (hs : ∀ pre y post x, prs xs = pre ++ y :: post → x.1 = y.1 → ∀ nx, nx (g (pre.foldl g a) y) → body x y.2 (pre.foldl g a) nx) (hk : k ((prs xs).foldl g a)) :
    xo xs a (fun x acc nx => wrap x (xo x.2 acc (fun i acc2 nx2 => body x i acc2 nx2) (fun acc3 => nx acc3))) k := by
  refine xi (fun n (acc : A) => acc = (prs (xs.take n)).foldl g a) rfl ?_ ?_
  · rintro n x acc nx hx rfl hn
    have ex := (List.getElem?_eq_some_iff.mp hx).2
    have e : xs = xs.take n ++ x :: xs.drop (n + 1) := by rw [← ex, List.getElem_cons_drop, List.take_append_drop]
    have tk : xs.take (n + 1) = xs.take n ++ [x] := by rw [List.take_succ, hx]; rfl
    refine hw x (List.mem_of_getElem? hx) _ ?_
    refine xi (fun j (acc : A) => acc = (prs (xs.take n) ++ (x.2.take j).map fun (i : Int) => (x.1, i)).foldl g a) (by simp) ?_ ?_
    · rintro j i acc nx2 hi rfl hn2
      have ei := (List.getElem?_eq_some_iff.mp hi).2
      have e2 : x.2 = x.2.take j ++ i :: x.2.drop (j + 1) := by rw [← ei, List.getElem_cons_drop, List.take_append_drop]
      have tk2 : x.2.take (j + 1) = x.2.take j ++ [i] := by rw [List.take_succ, hi]; rfl
      refine hs _ (x.1, i) ((x.2.drop (j + 1)).map (fun (i : Int) => (x.1, i)) ++ prs (xs.drop (n + 1))) x ?_ rfl nx2 (hn2 _ ?_)
      · conv => lhs; rw [e, zgk]
        have : prs (x :: xs.drop (n + 1)) = (x.2.map fun (i : Int) => (x.1, i)) ++ prs (xs.drop (n + 1)) := by unfold prs; rw [List.flatMap_cons]
        rw [this]
        conv => lhs; rw [e2, List.map_append, List.map_cons]
        simp
      · rw [tk2, List.map_append, ← List.append_assoc, List.foldl_append (l' := List.map _ [i])]
        rfl
    · rintro acc rfl
      refine hn _ ?_
      rw [List.take_length, tk, zgk]
      have : prs [x] = x.2.map fun (i : Int) => (x.1, i) := by unfold prs; simp
      rw [this]
  · rintro acc rfl
    rw [List.take_length]; exact hk
theorem zyf {α : Type} (xs : List α) : (q8 xs).map (·.2) = xs := by
  unfold q8
  rw [List.map_map]
  exact List.zipIdx_map_fst 0 xs
theorem z0o (xs : List (Int × List Int)) : (prs xs).map (·.2) = (xs.map (·.2)).flatten := by
  unfold prs
  induction xs with
  | nil => rfl
  | cons x xs ih =>
    rw [List.flatMap_cons, List.map_append, ih, List.map_cons, List.flatten_cons, List.map_map]
    congr 1
    exact List.map_id _
theorem mem_enum {α : Type} {xs : List α} {p : Int} {x : α} : (p, x) ∈ q8 xs ↔ ∃ n : Nat, p = (n : Int) ∧ xs[n]? = some x := by
  unfold q8
  rw [List.mem_map]
  constructor
  · rintro ⟨⟨y, n⟩, h, e⟩
    have h2 := List.mk_mem_zipIdx_iff_getElem?.mp h
    cases e
    exact ⟨n, rfl, h2⟩
  · rintro ⟨n, rfl, h⟩
    exact ⟨(x, n), List.mk_mem_zipIdx_iff_getElem?.mpr h, rfl⟩
abbrev gp (gs : List (List Int)) : List (Int × Int) := prs (q8 gs)
theorem mem_gp {gs : List (List Int)} {p i : Int} : (p, i) ∈ gp gs ↔ ∃ (n : Nat) (g : List Int), p = (n : Int) ∧ gs[n]? = some g ∧ i ∈ g := by
  unfold gp prs
  rw [List.mem_flatMap]
  constructor
  · rintro ⟨⟨q, g⟩, h, h2⟩
    obtain ⟨j, hj, e⟩ := List.mem_map.mp h2
    cases e
    obtain ⟨n, rfl, hg⟩ := mem_enum.mp h
    exact ⟨n, g, rfl, hg, hj⟩
  · rintro ⟨n, g, rfl, hg, hi⟩
    exact ⟨((n : Int), g), mem_enum.mpr ⟨n, rfl, hg⟩, List.mem_map.mpr ⟨i, hi, rfl⟩⟩
theorem zi9 (gs : List (List Int)) : (gp gs).map (·.2) = gs.flatten := by rw [z0o, zyf]
section
variable {gs : List (List Int)}
end
def poW (groups : (List (List Int))) (Q : (List (Int × Int)) → Prop) : Prop :=
 x4 (q8 groups) ([] : (List (Int × Int))) (fun (x_ : (Int × (List Int))) (acc : (List (Int × Int))) (nxt : (List (Int × Int)) → Prop) => x4 x_.2 acc (fun (x_1 : Int) (acc1 : (List (Int × Int))) (nxt1 : (List (Int × Int)) → Prop) => putW acc1 x_1 x_.1 nxt1) nxt) fun t_ => retW t_ Q
def plT (gs : List (List Int)) : List (Int × Int) := (gp gs).map fun (y : Int × Int) => (y.2, y.1)
theorem zyg (gs : List (List Int)) : za (plT gs) = gs.flatten := by
  rw [← zi9]
  unfold plT za; rw [List.map_map]; rfl
theorem zku : ∀ (ys acc : List (Int × Int)), (za acc ++ ys.map (·.2)).Nodup → ys.foldl (fun (acc : List (Int × Int)) (y : Int × Int) => putG acc y.2 y.1) acc = acc ++ ys.map fun (y : Int × Int) => (y.2, y.1)
  | [], acc, _ => by simp
  | y :: ys, acc, h => by
    have hy : y.2 ∉ za acc := fun z => (List.nodup_append.mp h).2.2 _ z _ (List.mem_cons_self ..) rfl
    rw [List.foldl_cons, v5 hy, zku ys _ (by unfold za at *; simpa using h)]
    simp
end Lc
end Mv
namespace Mv
namespace Lb
open PySem PySem.Spec PyProof.Rows L2 Tk
open Mt (Cert Mat Best jz z3b zl4)
theorem zn0 {α : Type} {a : α → Int} {k : Int} : ∀ {l : List α}, (∀ x ∈ l, a x = k) → (l.map a).sum = k * (l.length : Int)
  | [], _ => by simp
  | y :: l, h => by
    have := zn0 fun x hx => h x (List.mem_cons_of_mem y hx)
    rw [List.map_cons, List.sum_cons, List.length_cons, this, h y (List.mem_cons_self ..)]
    push_cast
    rw [Int.mul_add]; omega
section
variable {n : Nat} {W : Nat → Sg} {t : Tb}
end
end Lb
end Mv
namespace Mv
namespace Lc
open PySem PySem.Spec PyProof.Rows L2 Tk Lb
open Mt (Mat Best)
theorem zhg {α : Type} [DecidableEq α] {a : α → Int} {k : α} {w : Int} : ∀ {l : List α}, l.Nodup → k ∈ l → (l.map fun x => a x + if x = k then w else 0).sum = (l.map a).sum + w
  | [], _, h => by cases h
  | x :: l, nd, h => by
    obtain ⟨n1, n2⟩ := List.nodup_cons.mp nd
    rw [List.map_cons, List.sum_cons, List.map_cons, List.sum_cons]
    by_cases q : x = k
    · subst q
      have : (l.map fun y => a y + if y = x then w else 0) = l.map a := List.map_congr_left fun y hy => by
        rw [if_neg (fun z : y = x => n1 (z ▸ hy))]; omega
      rw [this, if_pos rfl]; omega
    · rw [zhg n2 ((List.mem_cons.mp h).resolve_left (Ne.symm q)), if_neg q]; omega
def Kp (T : Tb) (f : Sg → Option Int) : Int := ((za T).map fun k => if f k.1 = some k.2 then Tk.pv T k else 0).sum
theorem zm0 {κ : Type} [DecidableEq κ] (d : List (κ × Int)) (k : κ) (v : Int) (x : κ) : Tk.pv (putG d k v) x = if x = k then v else Tk.pv d x := by
  unfold Tk.pv; rw [jh]; split <;> rfl
theorem zrj {κ : Type} [DecidableEq κ] {d : List (κ × Int)} {k : κ} (h : k ∉ za d) : Tk.pv d k = 0 := by
  unfold Tk.pv
  cases e : valG d k with
  | none => rfl
  | some v => exact absurd (zep (t := d) e) h
theorem z2a {T : Tb} (nd : (za T).Nodup) (k : Sg × Int) (w : Int) (f : Sg → Option Int) : Kp (putG T k (Tk.pv T k + w)) f = Kp T f + if f k.1 = some k.2 then w else 0 := by
  unfold Kp
  rw [uy]
  by_cases q : k ∈ za T
  · rw [if_pos q, ← zhg nd q (w := if f k.1 = some k.2 then w else 0)]
    congr 1
    refine List.map_congr_left fun x hx => ?_
    rw [zm0]
    by_cases e : x = k
    · subst e; rw [if_pos rfl, if_pos rfl]; split <;> omega
    · rw [if_neg e, if_neg e]; omega
  · rw [if_neg q, List.map_append, List.sum_append]
    have : ((za T).map fun x => if f x.1 = some x.2 then Tk.pv (putG T k (Tk.pv T k + w)) x else 0) = (za T).map fun x => if f x.1 = some x.2 then Tk.pv T x else 0 := List.map_congr_left fun x hx => by
      rw [zm0, if_neg (fun z : x = k => q (z ▸ hx))]
    rw [this]
    simp only [List.map_cons, List.map_nil, List.sum_cons, List.sum_nil, zm0, if_true, zrj q]
    split <;> omega
theorem V_Kp {T : Tb} (nd : (za T).Nodup) (f : Sg → Option Int) : Mt.V (tb T) (nms T) f = Kp T f := by
  have gen : ∀ (ks : List (Sg × Int)) (L : List Sg) (a : Sg × Int → Int), ks.Nodup → L.Nodup → (∀ k ∈ ks, k.1 ∈ L) →
      (ks.map fun k => if f k.1 = some k.2 then a k else 0).sum = (L.map fun l => match f l with | some p => if (l, p) ∈ ks then a (l, p) else 0 | none => 0).sum := by
    intro ks L a
    induction ks with
    | nil =>
      intro _ _ _
      have : ∀ l ∈ L, (match f l with | some p => if (l, p) ∈ ([] : List (Sg × Int)) then a (l, p) else 0 | none => 0) = 0 := fun l _ => by cases f l <;> simp
      rw [zn0 (k := 0) this]; simp
    | cons k ks ih =>
      intro n1 n2 h
      obtain ⟨n3, n4⟩ := List.nodup_cons.mp n1
      rw [List.map_cons, List.sum_cons, ih n4 n2 fun k' hk => h k' (List.mem_cons_of_mem _ hk), Int.add_comm, ← zhg n2 (h k (List.mem_cons_self ..)) (w := if f k.1 = some k.2 then a k else 0)]
      congr 1
      refine List.map_congr_left fun l hl => ?_
      by_cases e : l = k.1
      · subst e
        cases ef : f k.1 with
        | none => simp
        | some p =>
          by_cases ep : p = k.2
          · subst ep; simp [n3]
          · have : ¬ some p = some k.2 := fun z => ep (Option.some.inj z)
            have h2 : (k.1, p) ∈ k :: ks ↔ (k.1, p) ∈ ks := by
              rw [List.mem_cons]
              exact ⟨fun z => z.resolve_left fun z => ep (congrArg Prod.snd z), .inr⟩
            simp only [this, if_false, if_true, h2]; omega
      · rw [if_neg e, Int.add_zero]
        cases ef : f l with
        | none => rfl
        | some p =>
          have h2 : (l, p) ∈ k :: ks ↔ (l, p) ∈ ks := by
            rw [List.mem_cons]
            exact ⟨fun z => z.resolve_left fun z => e (congrArg Prod.fst z), .inr⟩
          simp only [h2]
  unfold Kp Mt.V
  rw [gen (za T) (nms T) (Tk.pv T) nd (yh T) fun k hk => mem_nms.mpr ⟨k.2, hk⟩]
  congr 1
  refine List.map_congr_left fun l _ => ?_
  unfold Mt.val
  cases ef : f l with
  | none => rfl
  | some p =>
    show (valG T (l, p)).getD 0 = if (l, p) ∈ za T then Tk.pv T (l, p) else 0
    by_cases q : (l, p) ∈ za T
    · rw [if_pos q]; rfl
    · rw [if_neg q]; exact zrj q
theorem zwy {T : Tb} (nd : (za T).Nodup) {F g : Sg → Option Int} (B : Best (tb T) (nms T) F) (inj : ∀ r r' c, g r = some c → g r' = some c → r = r') : Kp T g ≤ Kp T F := by
  let g' : Sg → Option Int := fun r => match g r with | some c => if (tb T r c).isSome = true then some c else none | none => none
  have hg : ∀ r c, g' r = some c → g r = some c ∧ ∃ x, tb T r c = some x := fun r c e => by
    show g r = some c ∧ _
    cases eg : g r with
    | none => simp [g', eg] at e
    | some d =>
      by_cases q : (tb T r d).isSome = true
      · simp [g', eg, q] at e
        subst e
        exact ⟨rfl, Option.isSome_iff_exists.mp q⟩
      · simp [g', eg, q] at e
  have M : Mat (tb T) (nms T) g' := ⟨fun r c e => by
    obtain ⟨_, x, hx⟩ := hg r c e
    exact ⟨zi6 r c x hx, x, hx⟩, fun r r' c e e' => inj r r' c (hg r c e).1 (hg r' c e').1⟩
  have h1 := B.top g' M
  rw [V_Kp nd, V_Kp nd] at h1
  have : Kp T g = Kp T g' := by
    unfold Kp
    congr 1
    refine List.map_congr_left fun k hk => ?_
    obtain ⟨x, hx⟩ := zdg hk
    have hx' : tb T k.1 k.2 = some x := hx
    by_cases q : g k.1 = some k.2
    · have : g' k.1 = some k.2 := by simp [g', q, hx']
      rw [if_pos q, if_pos this]
    · have : ¬ g' k.1 = some k.2 := fun z => q (hg _ _ z).1
      rw [if_neg q, if_neg this]
  omega
end Lc
end Mv
namespace Mv
namespace Lc
open PySem PySem.Spec PyProof.Rows L2 Tk Lb
open Mt (Mat Best)
section
variable (lb : List (Int × Sg)) (wt : List (Int × Int)) (f : Sg → Option Int)
def term (y : Int × Int) : Int := match valG lb y.2 with
  | some l => if f l = some y.1 then Tk.pv wt y.2 else 0
  | none => 0
def totl (y : Int × Int) : Int := match valG lb y.2 with
  | some _ => Tk.pv wt y.2
  | none => 0
def gone (y : Int × Int) : Bool := match valG lb y.2 with
  | some l => !eqB (f l) (some y.1)
  | none => false
def zfg (acc : Tb) (y : Int × Int) : Tb := match valG lb y.2 with
  | some l => putG acc (l, y.1) (Tk.pv acc (l, y.1) + Tk.pv wt y.2)
  | none => acc
end
section
variable {lb : List (Int × Sg)} {wt : List (Int × Int)}
structure TI (lb : List (Int × Sg)) (wt : List (Int × Int)) (ys : List (Int × Int)) (T : Tb) : Prop where
  nd : (za T).Nodup
  len : T.length ≤ ys.length
  val : ∀ q ∈ T, 0 ≤ q.2 ∧ q.2 ≤ 1000000 * (ys.length : Int)
  key : ∀ k ∈ za T, ∃ y ∈ ys, y.1 = k.2
  sum : ∀ f, Kp T f = (ys.map (term lb wt f)).sum
theorem TI.nil : TI lb wt [] [] := ⟨.nil, Nat.le_refl _, (fun q h => nomatch h), (fun q h => nomatch h), fun f => rfl⟩
theorem TI.step {ys : List (Int × Int)} {T : Tb} {y : Int × Int} (I : TI lb wt ys T) (hw : 0 ≤ Tk.pv wt y.2 ∧ Tk.pv wt y.2 ≤ 1000000) : TI lb wt (ys ++ [y]) (zfg lb wt T y) := by
  unfold zfg
  have bound : ∀ q ∈ T, 0 ≤ q.2 ∧ q.2 ≤ 1000000 * ((ys ++ [y]).length : Int) := fun q hq => by
    have := I.val q hq
    simp only [List.length_append, List.length_singleton]
    push_cast
    omega
  have sm : ∀ f, (((ys ++ [y]).map (term lb wt f)).sum) = (ys.map (term lb wt f)).sum + term lb wt f y := fun f => by simp
  cases e : valG lb y.2 with
  | none =>
    refine ⟨I.nd, by have := I.len; simp; omega, bound, fun k hk => ?_, fun f => ?_⟩
    · obtain ⟨z, hz, ez⟩ := I.key k hk; exact ⟨z, List.mem_append_left _ hz, ez⟩
    · rw [sm, I.sum]; unfold term; rw [e]; simp
  | some l =>
    refine ⟨jo I.nd _ _, ?_, fun q hq => ?_, fun k hk => ?_, fun f => ?_⟩
    · have := yq T (l, y.1) (Tk.pv T (l, y.1) + Tk.pv wt y.2)
      have := I.len
      simp; omega
    · rcases Lb.mem_put hq with z | rfl
      · exact bound q z
      · have h0 : 0 ≤ Tk.pv T (l, y.1) ∧ Tk.pv T (l, y.1) ≤ 1000000 * (ys.length : Int) := by
          by_cases q : (l, y.1) ∈ za T
          · exact I.val _ (ui (zyw q))
          · rw [zrj q]; omega
        simp only [List.length_append, List.length_singleton]
        push_cast
        omega
    · rw [uy] at hk
      split at hk
      · obtain ⟨z, hz, ez⟩ := I.key k hk; exact ⟨z, List.mem_append_left _ hz, ez⟩
      · rcases List.mem_append.mp hk with z | z
        · obtain ⟨x, hx, ex⟩ := I.key k z; exact ⟨x, List.mem_append_left _ hx, ex⟩
        · rw [List.mem_singleton] at z
          exact ⟨y, by simp, by rw [z]⟩
    · rw [sm, ← I.sum, z2a I.nd]
      unfold term; rw [e]
theorem TI.all : ∀ (zs ys : List (Int × Int)) (T : Tb), TI lb wt ys T → (∀ z ∈ zs, 0 ≤ Tk.pv wt z.2 ∧ Tk.pv wt z.2 ≤ 1000000) → TI lb wt (ys ++ zs) (zs.foldl (zfg lb wt) T)
  | [], ys, T, I, _ => by rw [List.append_nil]; exact I
  | z :: zs, ys, T, I, h => by
    have := TI.all zs (ys ++ [z]) _ (I.step (h z (List.mem_cons_self ..))) fun z hz => h z (List.mem_cons_of_mem _ hz)
    rw [List.append_assoc] at this
    exact this
end
def ltW (labels : (List (Int × Sg))) (groups : (List (List Int))) (weights : (List (Int × Int))) (Q : (List ((Sg × Int) × Int)) → Prop) : Prop :=
 asgW ([] : (List ((Sg × Int) × Int))) fun found =>
 xo (q8 groups) found (fun (x_ : (Int × (List Int))) (found2 : (List ((Sg × Int) × Int))) nxt =>
   xo x_.2 found2 (fun (x_1 : Int) (found4 : (List ((Sg × Int) × Int))) nxt1 =>
     ifW (hasG labels x_1)
      (getW labels x_1 fun t_ => asgW (t_, x_.1) fun key =>
       getW weights x_1 fun t_1 => putW found4 key (((valG found4 key).getD (0 : Int)) + t_1) fun found5 =>
       nxt1 found5)
      (nxt1 found4)) (fun (found3 : (List ((Sg × Int) × Int))) =>
     nxt found3)) (fun (found1 : (List ((Sg × Int) × Int))) =>
   retW found1 Q)
def rnW (labels : (List (Int × Sg))) (groups : (List (List Int))) (names : (List (Sg × Int))) (Q : (List Int) → Prop) : Prop :=
 asgW ([] : (List Int)) fun found =>
 xo (q8 groups) found (fun (x_ : (Int × (List Int))) (found2 : (List Int)) nxt =>
   lcW x_.2 (fun (x_1 : Int) (k_ : Option Int → Prop) => andW (hasG labels x_1) (fun k_1 => getW labels x_1 fun t_ => k_1 (!eqB (valG names t_) (some x_.1))) fun t_1 => ifW t_1 (k_ (some x_1)) (k_ none)) fun t_2 => zx (found2.length + t_2.length ≤ sizeLine) <| asgW (found2 ++ t_2) fun found3 =>
   nxt found3) (fun (found1 : (List Int)) =>
   zx (found1.length ≤ 16777216) <| retW (z4 D.int found1) Q)
def rens (lb : List (Int × Sg)) (f : Sg → Option Int) (xs : List (Int × List Int)) : List Int := (prs xs).filterMap fun y => if gone lb f y = true then some y.2 else none
theorem zt1 {lb : List (Int × Sg)} {wt : List (Int × Int)} {f : Sg → Option Int} : ∀ (ys : List (Int × Int)), ((ys.filterMap fun y => if gone lb f y = true then some y.2 else none).map (Tk.pv wt)).sum + (ys.map (term lb wt f)).sum = (ys.map (totl lb wt)).sum
  | [] => by simp
  | y :: ys => by
    have ih := zt1 (lb := lb) (wt := wt) (f := f) ys
    rw [List.filterMap_cons, List.map_cons, List.sum_cons, List.map_cons, List.sum_cons]
    have : (if gone lb f y = true then Tk.pv wt y.2 else 0) + term lb wt f y = totl lb wt y := by
      unfold gone term totl
      cases valG lb y.2 with
      | none => simp
      | some l =>
        by_cases q : f l = some y.1
        · simp [q, eqB]
        · simp [q, eqB]
    by_cases q : gone lb f y = true
    · rw [if_pos q] at this
      simp only [q, if_true, List.map_cons, List.sum_cons]; omega
    · rw [if_neg q] at this
      simp only [q]; simp only [Bool.false_eq_true, if_false]; omega
end Lc
end Mv
namespace Mv
namespace Lc
open PySem PySem.Spec PyProof.Rows L2 Tk Lb
open Mt (Mat Best)
def cnW (groups : (List (List Int))) (pins : (List (Sg × Int))) (Q : (List (Sg × Int)) → Prop) : Prop :=
 poW groups fun t_ => asgW t_ fun places =>
 asgW ([] : (List (Sg × Int))) fun found =>
 asgW ([] : (List (Int × Sg))) fun taken =>
 zx (pins.length ≤ 16777216) <| yn (z4 sD (za pins)) found taken (fun (x_ : Sg) (found2 : (List (Sg × Int))) (taken2 : (List (Int × Sg))) nxt =>
   getW pins x_ fun t_1 => asgW (valG places t_1) fun place =>
   ifW (place.isSome && (!inN taken2 place))
    (unW place fun t_2 => putW taken2 t_2 x_ fun taken3 =>
     getW pins x_ fun t_3 => putW found2 x_ t_3 fun found3 =>
     nxt found3 taken3)
    (nxt found2 taken2)) (fun (found1 : (List (Sg × Int))) (taken1 : (List (Int × Sg))) =>
   retW found1 Q)
def zj4 (gs : List (List Int)) (pn : List (Sg × Int)) (s : List (Sg × Int) × List (Int × Sg)) (x : Sg) : List (Sg × Int) × List (Int × Sg) := match (valG pn x).bind fun i => valG (plT gs) i with
  | some p => if hasG s.2 p = true then s else (putG s.1 x (Tk.pv pn x), putG s.2 p x)
  | none => s
def cntF (gs : List (List Int)) (pn : List (Sg × Int)) : List (Sg × Int) := ((z4 sD (za pn)).foldl (zj4 gs pn) ([], [])).1
def woW (table : (List ((Sg × Int) × Int))) (names : (List Sg)) (places : (List Int)) (Q : (List ((Sg × Int) × Int)) → Prop) : Prop :=
 x4 (za table) ([] : (List ((Sg × Int) × Int))) (fun (x_ : (Sg × Int)) (acc : (List ((Sg × Int) × Int))) (nxt : (List ((Sg × Int) × Int)) → Prop) => ifW ((!memB x_.1 names) && (!memB x_.2 places)) (getW table x_ fun t_ => putW acc x_ t_ nxt) (nxt acc)) fun t_1 => retW t_1 Q
def opW (labels : (List (Int × Sg))) (groups : (List (List Int))) (weights : (List (Int × Int))) (pins : (List (Sg × Int))) (Q : (List ((Sg × Int) × Int)) → Prop) : Prop :=
 poW groups fun t_ => asgW t_ fun places =>
 lcW (zcl pins) (fun (x_ : Int) (k_ : Option Int → Prop) => getW places x_ fun t_1 => k_ (some t_1)) fun t_2 => asgW t_2 fun pinned =>
 ltW labels groups weights fun t_3 => woW t_3 (za pins) pinned fun t_4 => retW t_4 Q
def pnd (gs : List (List Int)) (C : List (Sg × Int)) : List Int := (zcl C).map (Tk.pv (plT gs))
def opT (gs : List (List Int)) (C : List (Sg × Int)) (T : Tb) : Tb := T.filter fun q => (!memB q.1.1 (za C)) && (!memB q.1.2 (pnd gs C))
def coW (labels : (List (Int × Sg))) (groups : (List (List Int))) (weights : (List (Int × Int))) (pins : (Option (List (Sg × Int)))) (homes : (Option (List (Sg × Int)))) (Q : (List (Sg × Int)) → Prop) : Prop :=
 iteW pins.isNone (fun k_ => k_ ([] : (List (Sg × Int)))) (fun k_1 => unW pins fun t_ => k_1 t_) fun t_1 => cnW groups t_1 fun t_2 => asgW t_2 fun counting =>
 poW groups fun t_3 => asgW t_3 fun places =>
 x4 counting ([] : (List (Sg × Int))) (fun (x_ : (Sg × Int)) (acc : (List (Sg × Int))) (nxt : (List (Sg × Int)) → Prop) => getW places x_.2 fun t_4 => putW acc x_.1 t_4 nxt) fun t_5 => asgW t_5 fun found =>
 opW labels groups weights counting fun t_6 => bcW t_6 homes fun t_7 => zx (found.length + t_7.length ≤ sizeLine) <| retW (qg (qg [] found) t_7) Q
theorem zja {κ α : Type} [DecidableEq κ] : ∀ (kvs t : List (κ × α)) (k : κ), (za kvs).Nodup → valG (qg t kvs) k = (valG kvs k).or (valG t k)
  | [], t, k, _ => by simp [qg, valG]
  | q :: kvs, t, k, nd => by
    obtain ⟨n1, n2⟩ := List.nodup_cons.mp (show (q.1 :: za kvs).Nodup from nd)
    show valG (qg (putG t q.1 q.2) kvs) k = _
    rw [zja kvs _ k n2, jh, xh]
    by_cases e : q.1 = k
    · subst e
      have : valG kvs q.1 = none := by
        cases z : valG kvs q.1 with
        | none => rfl
        | some v => exact absurd (zep (t := kvs) z) n1
      rw [this, if_pos rfl, if_pos rfl]; rfl
    · rw [if_neg e, if_neg (Ne.symm e)]
theorem zfo {κ α : Type} [DecidableEq κ] : ∀ (kvs t : List (κ × α)), (za t).Nodup → (za (qg t kvs)).Nodup
  | [], t, h => h
  | q :: kvs, t, h => zfo kvs _ (jo h _ _)
theorem zjb {κ α : Type} [DecidableEq κ] : ∀ (kvs t : List (κ × α)), (qg t kvs).length ≤ t.length + kvs.length
  | [], t => Nat.le_refl _
  | q :: kvs, t => by
    have h1 := zjb kvs (putG t q.1 q.2)
    have h2 := yq t q.1 q.2
    show (qg (putG t q.1 q.2) kvs).length ≤ _
    rw [List.length_cons]; omega
end Lc
end Mv
namespace Mv
namespace Lc
open PySem PySem.Spec PyProof.Rows L2 Tk Lb
open Mt (Mat Best)
theorem atI_get {α : Type} {xs : List α} {n : Nat} {x : α} (h : xs[n]? = some x) : atI xs (n : Int) = some x := atI_nat h
def loW (groups : (List (List Int))) (names : (List (Sg × Int))) (Q : (List (Int × Sg)) → Prop) : Prop :=
 x4 names ([] : (List (Int × Sg))) (fun (x_ : (Sg × Int)) (acc : (List (Int × Sg))) (nxt : (List (Int × Sg)) → Prop) => ixW groups x_.2 fun t_ => x4 t_ acc (fun (x_1 : Int) (acc1 : (List (Int × Sg))) (nxt1 : (List (Int × Sg)) → Prop) => putW acc1 x_1 x_.1 nxt1) nxt) fun t_1 => retW t_1 Q
section
variable {lb : List (Int × Sg)} {gs : List (List Int)} {wt : List (Int × Int)} {C R : List (Sg × Int)} {homes : Option (List (Sg × Int))}
theorem zn1 {α : Type} (c : α → Bool) (F F' : α → Int) : ∀ (ks : List α), (∀ k ∈ ks, c k = true → F' k = F k) → (ks.map F).sum = ((ks.filter c).map F').sum + (ks.map fun k => if c k = true then 0 else F k).sum
  | [], _ => by simp
  | k :: ks, h => by
    have ih := zn1 c F F' ks fun k' hk => h k' (List.mem_cons_of_mem _ hk)
    have hk := h k (List.mem_cons_self ..)
    rw [List.map_cons, List.sum_cons, List.filter_cons, List.map_cons, List.sum_cons, ih]
    by_cases q : c k = true
    · rw [if_pos q, if_pos q, List.map_cons, List.sum_cons, hk q]; omega
    · rw [if_neg q, if_neg q]; omega
end
end Lc
end Mv
namespace Mv
namespace Lg
open PySem PySem.Spec PyProof.Rows L2 Tk Lb
abbrev zd5 := List (Int × (Int × List Int))
abbrev Rule := List (Int × Int)
structure Rul (m : Nat) (rule : Rule) : Prop where
  len : rule.length ≤ 4
  col : ∀ q ∈ rule, 1 ≤ q.1 ∧ q.1 ≤ (m : Int)
  st : ∀ q ∈ rule, 0 < q.2 ∧ q.2 < 1073741824
def keyF (rule : Rule) (fields : List Int) : List Int := rule.map fun q => (fields.getD (q.1 - 1).toNat 0) / q.2
def grp (I : List Int) (f : Int → List Int) (k : List Int) : List Int := I.filter fun i => decide (f i = k)
def grps (I : List Int) (f : Int → List Int) : List (List Int) := z14 (dd (I.map f))
def grpL (I : List Int) (f : Int → List Int) : List (List Int) := (grps I f).map (grp I f)
def idsA (items : zd5) : List Int := z4 D.int (za items)
def fld (items : zd5) (i : Int) : List Int := ((valG items i).map fun q => q.2).getD []
def keyO (rule : Rule) (items : zd5) (i : Int) : List Int := keyF rule (fld items i)
def zc1 (rule : Rule) (items : zd5) : List (List Int) := grpL (idsA items) (keyO rule items)
end Lg
end Mv
namespace Mv
namespace Ld
open PySem PySem.Spec PyProof.Rows L2 Tk Lb Lc
open Mt (Mat Best)
structure Grs (gs : List (List Int)) : Prop where
  gl : gs.length ≤ 250
  nd : gs.flatten.Nodup
  tot : gs.flatten.length ≤ 250
section
variable {gs : List (List Int)}
theorem Grs.ids (G : Grs gs) : ((gp gs).map (·.2)).Nodup := by rw [zi9]; exact G.nd
theorem Grs.len (G : Grs gs) : (gp gs).length ≤ 250 := by
  have h := G.tot
  rw [← zi9, List.length_map] at h
  exact h
theorem Grs.le (G : Grs gs) : ∀ g ∈ gs, g.length ≤ 250 := fun g hg => Nat.le_trans (List.sublist_flatten_of_mem hg).length_le G.tot
theorem Grs.id9 (G : Grs gs) {y : Int × Int} (h : y ∈ gp gs) : y.2 ∈ gs.flatten := (by rw [← zi9]; exact List.mem_map.mpr ⟨y, h, rfl⟩)
theorem Grs.one (G : Grs gs) {p q i : Int} (h : (p, i) ∈ gp gs) (h2 : (q, i) ∈ gp gs) : p = q := by
  have nd := G.ids
  have : ∀ (l : List (Int × Int)), (l.map (·.2)).Nodup → (p, i) ∈ l → (q, i) ∈ l → p = q := by
    intro l
    induction l with
    | nil => intro _ h _; cases h
    | cons y l ih =>
      intro n a b
      obtain ⟨n1, n2⟩ := List.nodup_cons.mp (show (y.2 :: l.map (·.2)).Nodup from n)
      rcases List.mem_cons.mp a with e1 | a' <;> rcases List.mem_cons.mp b with e2 | b'
      · exact congrArg Prod.fst (e1.trans e2.symm)
      · exact absurd (List.mem_map.mpr ⟨(q, i), b', by rw [← e1]⟩) n1
      · exact absurd (List.mem_map.mpr ⟨(p, i), a', by rw [← e2]⟩) n1
      · exact ih n2 a' b'
  exact this _ nd h h2
end
theorem zu1 {gs : List (List Int)} {Q : List (Int × Int) → Prop} (G : Grs gs) (h : Q (plT gs)) : poW gs Q := by
  have hg := G.le
  have hz := v7
  have gl := G.gl
  have L := G.len
  have le : (q8 gs).length = gs.length := by unfold q8; simp
  refine x5 (by omega) ?_
  refine nest (wrap := fun x P => zx (x.2.length ≤ sizeLine) P) (fun x hx P hP => x5 ?_ hP) (fun (acc : List (Int × Int)) (y : Int × Int) => putG acc y.2 y.1) ?_ ?_
  · obtain ⟨n, _, hn⟩ := mem_enum.mp (show (x.1, x.2) ∈ q8 gs from hx)
    have := hg _ (List.mem_of_getElem? hn)
    omega
  · intro pre y post x e ex nx hn
    have e' : gp gs = pre ++ y :: post := e
    have nd := G.ids
    rw [e', List.map_append] at nd
    have l2 : pre.length ≤ 250 := by
      have := congrArg List.length e'
      simp at this
      omega
    have fp := zku pre [] (by simpa [za] using (List.nodup_append.mp nd).1)
    rw [fp, List.nil_append] at hn ⊢
    rw [ex]
    exact putI (by rw [List.length_map]; omega) hn
  · have fp := zku (gp gs) [] (by simpa [za] using G.ids)
    rw [List.nil_append] at fp
    show retW _ _
    rw [fp]
    exact h
theorem zgl {gs : List (List Int)} (G : Grs gs) {i p : Int} : valG (plT gs) i = some p ↔ (p, i) ∈ gp gs := by
  have nk : (za (plT gs)).Nodup := by rw [zyg]; exact G.nd
  constructor
  · intro e
    obtain ⟨y, hy, e2⟩ := List.mem_map.mp (ui e)
    cases e2; exact hy
  · intro e
    exact jf nk (List.mem_map.mpr ⟨(p, i), e, rfl⟩)
section
variable (lb : List (Int × Sg)) (wt : List (Int × Int)) (f : Sg → Option Int)
end
section
variable {lb : List (Int × Sg)} {wt : List (Int × Int)}
end
def Wts (gs : List (List Int)) (wt : List (Int × Int)) : Prop := ∀ i ∈ gs.flatten, ∃ w, valG wt i = some w ∧ 1 ≤ w ∧ w ≤ 1000000
theorem Wts.pv {gs : List (List Int)} {wt : List (Int × Int)} (W : Wts gs wt) {i : Int} (h : i ∈ gs.flatten) : valG wt i = some (Tk.pv wt i) ∧ 1 ≤ Tk.pv wt i ∧ Tk.pv wt i ≤ 1000000 := by
  obtain ⟨w, e, h1, h2⟩ := W i h
  have : Tk.pv wt i = w := by unfold Tk.pv; rw [e]; rfl
  rw [this]; exact ⟨e, h1, h2⟩
def ltF (lb : List (Int × Sg)) (wt : List (Int × Int)) (gs : List (List Int)) : Tb := (gp gs).foldl (zfg lb wt) []
theorem zu2 {lb : List (Int × Sg)} {gs : List (List Int)} {wt : List (Int × Int)} {Q : Tb → Prop} (G : Grs gs) (W : Wts gs wt) (h : TI lb wt (gp gs) (ltF lb wt gs) → Q (ltF lb wt gs)) : ltW lb gs wt Q := by
  have hz := v7
  have L := G.len
  have hw : ∀ y ∈ gp gs, 0 ≤ Tk.pv wt y.2 ∧ Tk.pv wt y.2 ≤ 1000000 := fun y hy => by
    have := W.pv (G.id9 hy); omega
  refine asgI (nest (wrap := fun _ P => P) (fun _ _ _ h => h) (zfg lb wt) ?_ ?_)
  · intro pre y post x e ex nx hn
    have e' : gp gs = pre ++ y :: post := e
    have hy : y ∈ gp gs := by rw [e']; simp
    have I := TI.all pre [] [] (TI.nil (lb := lb) (wt := wt)) fun z hz => hw z (by rw [e']; simp [hz])
    rw [List.nil_append] at I
    have lp : pre.length ≤ 250 := by
      have := congrArg List.length e'
      simp at this
      omega
    have li := I.len
    unfold zfg at hn
    cases el : valG lb y.2 with
    | none =>
      rw [el] at hn
      exact ifF (by unfold hasG; rw [el]; rfl) hn
    | some l =>
      rw [el] at hn
      refine ifT (by unfold hasG; rw [el]; rfl) (getI el (asgI (getI (W.pv (G.id9 hy)).1 (putI (by omega) ?_))))
      rw [ex]; exact hn
  · have I := TI.all (gp gs) [] [] (TI.nil (lb := lb) (wt := wt)) hw
    rw [List.nil_append] at I
    exact h I
theorem zrk {lb : List (Int × Sg)} {wt : List (Int × Int)} {ys : List (Int × Int)} {T : Tb} (I : TI lb wt ys T) (h : ys.length ≤ 250) : Fit T := ⟨I.nd, by have := I.len; omega, 30, by decide, fun q hq => by
  have := I.val q hq
  refine Bits.of this.1 ?_
  have : (2 ^ 30 : Nat) = 1073741824 := rfl
  omega⟩
theorem z3d {lb : List (Int × Sg)} {gs : List (List Int)} {names : List (Sg × Int)} {Q : List Int → Prop} (G : Grs gs) (h : ∀ ids, ids.Perm (rens lb (fn names) (q8 gs)) → Q ids) : rnW lb gs names Q := by
  have hz := v7
  have L := G.len
  have small : ∀ n, (prs ((q8 gs).take n)).length ≤ 250 := fun n => by
    have e : prs (q8 gs) = prs ((q8 gs).take n) ++ prs ((q8 gs).drop n) := by rw [← zgk, List.take_append_drop]
    have := congrArg List.length e
    rw [List.length_append] at this
    have l2 : (prs (q8 gs)).length ≤ 250 := L
    omega
  have rl : ∀ n, (rens lb (fn names) ((q8 gs).take n)).length ≤ 250 := fun n => Nat.le_trans (List.length_filterMap_le _ _) (small n)
  refine asgI ?_
  refine xi (fun n (acc : List Int) => acc = rens lb (fn names) ((q8 gs).take n)) rfl ?_ ?_
  · rintro n x acc nx hx rfl hn
    have tk : (q8 gs).take (n + 1) = (q8 gs).take n ++ [x] := by rw [List.take_succ, hx]; rfl
    have s1 := small (n + 1)
    have one : prs [x] = x.2.map fun (i : Int) => (x.1, i) := by unfold prs; simp
    have lx : x.2.length ≤ 250 := by
      rw [tk, zgk, List.length_append, one, List.length_map] at s1; omega
    refine x5 (by omega) ?_
    refine z0n (fun acc i => addO acc (if gone lb (fn names) (x.1, i) = true then some i else none)) ?_ ?_
    · intro j i nx2 hi hn2
      have nil : ∀ l : List Int, l ++ (none : Option Int).toList = l := fun l => by simp
      have fin : ∀ b, b = gone lb (fn names) (x.1, i) → ifW b (nx2 (((x.2.take j).foldl (fun acc i => addO acc (if gone lb (fn names) (x.1, i) = true then some i else none)) []) ++ (some i).toList)) (nx2 (((x.2.take j).foldl (fun acc i => addO acc (if gone lb (fn names) (x.1, i) = true then some i else none)) []) ++ (none : Option Int).toList)) := by
        intro b eb
        refine ifI (fun q => ?_) fun q => ?_
        · rw [if_pos (eb ▸ q)] at hn2; exact hn2
        · rw [if_neg (by rw [← eb, q]; decide)] at hn2
          rw [nil]; exact hn2
      refine andI (fun q => ?_) fun q => fin _ ?_
      · obtain ⟨l, hl⟩ := zdg (has_iff.mp q)
        have hl' : valG lb i = some l := hl
        refine getI hl' (fin _ ?_)
        unfold gone
        show _ = match valG lb i with | some l => !eqB (fn names l) (some x.1) | none => false
        rw [hl']; rfl
      · unfold gone
        show _ = match valG lb i with | some l => !eqB (fn names l) (some x.1) | none => false
        unfold hasG at q
        cases e : valG lb i with
        | none => rfl
        | some l => rw [e] at q; cases q
    · rw [zgj, List.nil_append]
      have r1 := rl n
      have r2 := rl (n + 1)
      have e : rens lb (fn names) ((q8 gs).take (n + 1)) = rens lb (fn names) ((q8 gs).take n) ++ x.2.filterMap (fun i => if gone lb (fn names) (x.1, i) = true then some i else none) := by
        unfold rens
        rw [tk, zgk, List.filterMap_append, one, List.filterMap_map]
        rfl
      rw [e, List.length_append] at r2
      exact x5 (by omega) (asgI (hn _ e.symm))
  · rintro acc rfl
    have := rl (q8 gs).length
    refine x5 (by omega) (h _ ?_)
    rw [List.take_length]
    exact jt _ _
structure Cnt (gs : List (List Int)) (C : List (Sg × Int)) : Prop where
  nd : (za C).Nodup
  len : C.length ≤ 100
  at_ : ∀ n i, valG C n = some i → ∃ p, (p, i) ∈ gp gs
  inj : ∀ n n' i i' p, valG C n = some i → valG C n' = some i' → (p, i) ∈ gp gs → (p, i') ∈ gp gs → n = n'
theorem Cnt.nil (gs : List (List Int)) : Cnt gs [] := ⟨.nil, Nat.zero_le _, (fun n i h => nomatch h), (fun n n' i i' p h => nomatch h)⟩
theorem z3e {gs : List (List Int)} {pn : List (Sg × Int)} {Q : List (Sg × Int) → Prop} (G : Grs gs) (hl : pn.length ≤ 100) (h : ∀ C, Cnt gs C → C = cntF gs pn → Q C) : cnW gs pn Q := by
  have hz := v7
  refine zu1 G (asgI (asgI (asgI (x5 (by omega) ?_))))
  refine zde (fun i (C : List (Sg × Int)) (tk : List (Int × Sg)) => (C, tk) = ((z4 sD (za pn)).take i).foldl (zj4 gs pn) ([], []) ∧ (za C).Nodup ∧ C.length ≤ i ∧ tk.length ≤ i ∧ (∀ n i, valG C n = some i → ∃ p, (p, i) ∈ gp gs ∧ hasG tk p = true) ∧ (∀ n n' i i' p, valG C n = some i → valG C n' = some i' → (p, i) ∈ gp gs → (p, i') ∈ gp gs → n = n')) ⟨rfl, .nil, Nat.le_refl _, Nat.le_refl _, (fun n i h => nomatch h), (fun n n' i i' p h => nomatch h)⟩ ?_ ?_
  · rintro j x C tk nx hx ⟨i0, i1, i2, i3, i4, i5⟩ hn
    have hj := (List.getElem?_eq_some_iff.mp hx).1
    rw [zi5, xc] at hj
    have hm : x ∈ za pn := mem_sortL.mp (List.mem_of_getElem? hx)
    have hv := zyw hm
    have tkx : ((z4 sD (za pn)).take (j + 1)).foldl (zj4 gs pn) ([], []) = zj4 gs pn (C, tk) x := by
      rw [List.take_succ, hx, List.foldl_append, ← i0]; rfl
    refine getI hv (asgI (ifI (fun q => ?_) fun q => hn _ _ ⟨?_, i1, by omega, by omega, i4, i5⟩))
    rotate_left
    · rw [tkx]
      unfold zj4
      rw [hv]
      show _ = match valG (plT gs) (Tk.pv pn x) with | some p => if hasG tk p = true then (C, tk) else (putG C x (Tk.pv pn x), putG tk p x) | none => (C, tk)
      cases e : valG (plT gs) (Tk.pv pn x) with
      | none => rfl
      | some p =>
        rw [e] at q
        have : hasG tk p = true := by simpa [inN] using q
        show _ = if hasG tk p = true then (C, tk) else _
        rw [if_pos this]
    rw [Bool.and_eq_true] at q
    obtain ⟨p, hp⟩ := Option.isSome_iff_exists.mp q.1
    have hpg := (zgl G).mp hp
    have free : hasG tk p = false := by
      have := q.2
      rw [hp] at this
      simpa [inN] using this
    refine unI hp (putI (by omega) (getI hv (putI (by omega) (hn _ _ ⟨by rw [tkx]; unfold zj4; rw [hv]; show _ = match valG (plT gs) (Tk.pv pn x) with | some p => if hasG tk p = true then (C, tk) else (putG C x (Tk.pv pn x), putG tk p x) | none => (C, tk); rw [hp]; show _ = if hasG tk p = true then (C, tk) else _; rw [if_neg (by rw [free]; decide)], jo i1 _ _, Nat.le_trans (yq _ _ _) (by omega), Nat.le_trans (yq _ _ _) (by omega), fun n i e => ?_, fun n n' i i' r e e' hr hr' => ?_⟩))))
    · rw [jh] at e
      by_cases q2 : n = x
      · rw [if_pos q2] at e
        cases e
        exact ⟨p, hpg, by unfold hasG; rw [jh, if_pos rfl]; rfl⟩
      · rw [if_neg q2] at e
        obtain ⟨r, a, b⟩ := i4 n i e
        refine ⟨r, a, ?_⟩
        unfold hasG at *
        rw [jh]
        split
        · rfl
        · exact b
    · rw [jh] at e e'
      have old : ∀ m k, m ≠ x → valG C m = some k → (r, k) ∈ gp gs → r ≠ p := fun m k _ em hk z => by
        obtain ⟨r', a, b⟩ := i4 m k em
        have := G.one a hk
        rw [this, z, free] at b
        cases b
      by_cases q1 : n = x <;> by_cases q2 : n' = x
      · rw [q1, q2]
      · rw [if_pos q1] at e
        rw [if_neg q2] at e'
        cases e
        exact absurd (G.one hr hpg) (old n' i' q2 e' hr')
      · rw [if_neg q1] at e
        rw [if_pos q2] at e'
        cases e'
        exact absurd (G.one hr' hpg) (old n i q1 e hr)
      · rw [if_neg q1] at e
        rw [if_neg q2] at e'
        exact i5 n n' i i' r e e' hr hr'
  · rintro C tk ⟨i0, i1, i2, i3, i4, i5⟩
    rw [zi5, xc] at i2
    refine h C ⟨i1, by omega, fun n i e => ?_, i5⟩ ?_
    · obtain ⟨p, a, _⟩ := i4 n i e; exact ⟨p, a⟩
    · rw [List.take_length] at i0
      unfold cntF; rw [← i0]
theorem z3f {lb : List (Int × Sg)} {gs : List (List Int)} {wt : List (Int × Int)} {C : List (Sg × Int)} {Q : Tb → Prop} (G : Grs gs) (W : Wts gs wt) (N : Cnt gs C) (h : TI lb wt (gp gs) (ltF lb wt gs) → Q (opT gs C (ltF lb wt gs))) : opW lb gs wt C Q := by
  have hz := v7
  have nl := N.len
  have vl : (zcl C).length = C.length := by unfold zcl; simp
  refine zu1 G (asgI (x5 (by omega) ?_))
  refine xi (fun n (acc : List Int) => acc = ((zcl C).take n).map (Tk.pv (plT gs))) rfl ?_ ?_
  · rintro n i acc nx hi rfl hn
    obtain ⟨q, hq, e⟩ := List.mem_map.mp (List.mem_of_getElem? hi)
    have eq : valG C q.1 = some i := by rw [← e]; exact jf N.nd (show (q.1, q.2) ∈ C from hq)
    obtain ⟨p, hp⟩ := N.at_ _ _ eq
    have hv := (zgl G).mpr hp
    have pe : Tk.pv (plT gs) i = p := by unfold Tk.pv; rw [hv]; rfl
    refine getI hv (hn _ ?_)
    rw [List.take_succ, hi, List.map_append]
    show _ = _ ++ [Tk.pv (plT gs) i]
    rw [pe]; rfl
  · rintro acc rfl
    rw [List.take_length]
    refine asgI (zu2 G W fun I => ?_)
    have l9 := G.len
    have il := I.len
    exact zss (fun k => (!memB k.1 (za C)) && (!memB k.2 (pnd gs C))) I.nd (by omega) (h I)
structure Carried (lb : List (Int × Sg)) (gs : List (List Int)) (wt : List (Int × Int)) (C : List (Sg × Int)) (homes : Option (List (Sg × Int))) (R : List (Sg × Int)) : Prop where
  nd : (za R).Nodup
  len : R.length ≤ 1000
  best : ∃ T row, TI lb wt (gp gs) T ∧ IsBest (opT gs C T) homes (fn row) ∧ (∀ n, fn R n = (fn row n).or ((valG C n).bind fun i => valG (plT gs) i)) ∧ T = ltF lb wt gs
theorem z3g {lb : List (Int × Sg)} {gs : List (List Int)} {wt : List (Int × Int)} {pins : Option (List (Sg × Int))} {homes : Option (List (Sg × Int))} {Q : List (Sg × Int) → Prop} (G : Grs gs) (W : Wts gs wt) (hl : ∀ pn, pins = some pn → pn.length ≤ 100)
    (h : ∀ C R, Cnt gs C → C = cntF gs (pins.getD []) → Carried lb gs wt C homes R → Q R) : coW lb gs wt pins homes Q := by
  have hz := v7
  have main : ∀ pn : List (Sg × Int), pn.length ≤ 100 → pins.getD [] = pn → (cnW gs pn fun t_2 => asgW t_2 fun counting =>
      poW gs fun t_3 => asgW t_3 fun places =>
      x4 counting ([] : (List (Sg × Int))) (fun (x_ : (Sg × Int)) (acc : (List (Sg × Int))) (nxt : (List (Sg × Int)) → Prop) => getW places x_.2 fun t_4 => putW acc x_.1 t_4 nxt) fun t_5 => asgW t_5 fun found =>
      opW lb gs wt counting fun t_6 => bcW t_6 homes fun t_7 => zx (found.length + t_7.length ≤ sizeLine) <| retW (qg (qg [] found) t_7) Q) := by
    intro pn hpn hno
    refine z3e G hpn fun C N hC => asgI (zu1 G (asgI ?_))
    have nl := N.len
    refine x5 (by omega) ?_
    have hplace : ∀ q ∈ C, valG (plT gs) q.2 = some (Tk.pv (plT gs) q.2) := fun q hq => by
      obtain ⟨p, hp⟩ := N.at_ _ _ (jf N.nd (show (q.1, q.2) ∈ C from hq))
      have := (zgl G).mpr hp
      unfold Tk.pv; rw [this]; rfl
    refine xi (fun n (acc : List (Sg × Int)) => acc.length ≤ n ∧ acc = (C.take n).map fun (q : Sg × Int) => (q.1, Tk.pv (plT gs) q.2)) ⟨Nat.le_refl _, rfl⟩ ?_ ?_
    · rintro n q acc nx hq ⟨l1, rfl⟩ hn
      have hm := List.mem_of_getElem? hq
      have hi := (List.getElem?_eq_some_iff.mp hq).1
      have ex := (List.getElem?_eq_some_iff.mp hq).2
      refine getI (hplace q hm) (putI (by omega) (hn _ ?_))
      have nk : q.1 ∉ za ((C.take n).map fun (q : Sg × Int) => (q.1, Tk.pv (plT gs) q.2)) := by
        have e : za ((C.take n).map fun (q : Sg × Int) => (q.1, Tk.pv (plT gs) q.2)) = za (C.take n) := by unfold za; rw [List.map_map]; rfl
        rw [e]
        intro z
        have nd := N.nd
        have e2 : C = C.take n ++ q :: C.drop (n + 1) := by rw [← ex, List.getElem_cons_drop, List.take_append_drop]
        rw [e2] at nd
        unfold za at nd z
        rw [List.map_append] at nd
        exact (List.nodup_append.mp nd).2.2 _ z _ (List.mem_cons_self ..) rfl
      refine ⟨Nat.le_trans (yq _ _ _) (by omega), ?_⟩
      rw [v5 nk, List.take_succ, hq, List.map_append]; rfl
    · rintro found ⟨l1, rfl⟩
      rw [List.take_length] at l1 ⊢
      refine asgI (z3f G W N fun I => ?_)
      generalize eT : ltF lb wt gs = T at I ⊢
      have l9 := G.len
      have F : Fit (opT gs C T) := (zrk I l9).filter _
      have lT : (opT gs C T).length ≤ 250 := by
        have := List.length_filter_le (fun q : (Sg × Int) × Int => (!memB q.1.1 (za C)) && (!memB q.1.2 (pnd gs C))) T
        have := I.len
        unfold opT; omega
      refine F.bc fun row nr lr B => x5 (by omega) (h C _ N (by rw [hno]; exact hC) ⟨?_, ?_, T, row, I, B, fun n => ?_, eT.symm⟩)
      · exact zfo _ _ (zfo _ _ .nil)
      · have a1 := zjb row (qg [] (C.map fun (q : Sg × Int) => (q.1, Tk.pv (plT gs) q.2)))
        have a2 := zjb (C.map fun (q : Sg × Int) => (q.1, Tk.pv (plT gs) q.2)) ([] : List (Sg × Int))
        simp at a2
        omega
      · show valG (qg (qg [] _) row) n = _
        have nf : (za (C.map fun (q : Sg × Int) => (q.1, Tk.pv (plT gs) q.2))).Nodup := by
          have e : za (C.map fun (q : Sg × Int) => (q.1, Tk.pv (plT gs) q.2)) = za C := by unfold za; rw [List.map_map]; rfl
          rw [e]; exact N.nd
        rw [zja _ _ _ nr, zja _ _ _ nf]
        have e2 : (valG (C.map fun (q : Sg × Int) => (q.1, Tk.pv (plT gs) q.2)) n).or (valG ([] : List (Sg × Int)) n) = (valG C n).bind fun i => valG (plT gs) i := by
          have := ztz (fun (_ : Sg) (i : Int) => Tk.pv (plT gs) i) C n
          rw [this]
          cases ec : valG C n with
          | none => rfl
          | some i => exact (hplace (n, i) (ui ec)).symm
        rw [e2]; rfl
  unfold coW iteW
  cases pins with
  | none => exact main [] (by simp) rfl
  | some pn => exact ⟨pn, rfl, main pn (hl pn rfl) rfl⟩
theorem z3h {gs : List (List Int)} {R : List (Sg × Int)} {Q : List (Int × Sg) → Prop} (G : Grs gs) (nd : (za R).Nodup) (hl : R.length ≤ 1000) (ht : ∀ n p, fn R n = some p → ∃ i, (p, i) ∈ gp gs)
    (inj : ∀ n n' p, fn R n = some p → fn R n' = some p → n = n') (h : ∀ A, (∀ i l, valG A i = some l ↔ ∃ p, fn R l = some p ∧ (p, i) ∈ gp gs) → Q A) : loW gs R Q := by
  have hz := v7
  have val : ∀ q ∈ R, fn R q.1 = some q.2 := fun q hq => jf nd (show (q.1, q.2) ∈ R from hq)
  refine x5 (by omega) ?_
  refine xi (fun n (A : List (Int × Sg)) => A.length ≤ n * 250 ∧ ∀ i l, valG A i = some l ↔ ∃ q ∈ R.take n, q.1 = l ∧ (q.2, i) ∈ gp gs) ⟨Nat.zero_le _, fun i l => by simp [valG]⟩ ?_ ?_
  · rintro n x A nx hx ⟨i1, i2⟩ hn
    have hm := List.mem_of_getElem? hx
    have hi := (List.getElem?_eq_some_iff.mp hx).1
    have tk : R.take (n + 1) = R.take n ++ [x] := by rw [List.take_succ, hx]; rfl
    obtain ⟨i0, hi0⟩ := ht _ _ (val x hm)
    obtain ⟨m, g, em, hg, _⟩ := mem_gp.mp hi0
    have lg := G.le g (List.mem_of_getElem? hg)
    refine ixI (by rw [em]; exact atI_get hg) (x5 (by omega) ?_)
    have inG : ∀ i ∈ g, (x.2, i) ∈ gp gs := fun i hi => mem_gp.mpr ⟨m, g, em, hg, hi⟩
    refine xi (fun j (A : List (Int × Sg)) => A.length ≤ n * 250 + j ∧ ∀ i l, valG A i = some l ↔ (∃ q ∈ R.take n, q.1 = l ∧ (q.2, i) ∈ gp gs) ∨ l = x.1 ∧ i ∈ g.take j) ⟨by omega, fun i l => by rw [i2]; simp⟩ ?_ ?_
    · rintro j i A nx2 hi2 ⟨j1, j2⟩ hn2
      have hj := (List.getElem?_eq_some_iff.mp hi2).1
      have him := List.mem_of_getElem? hi2
      have tk2 : g.take (j + 1) = g.take j ++ [i] := by rw [List.take_succ, hi2]; rfl
      refine putI (by omega) (hn2 _ ⟨Nat.le_trans (yq _ _ _) (by omega), fun k l => ?_⟩)
      rw [jh, tk2]
      by_cases q : k = i
      · subst q
        rw [if_pos rfl]
        constructor
        · intro e; exact .inr ⟨(Option.some.inj e).symm, by simp⟩
        · rintro (⟨r, hr, rfl, hrg⟩ | ⟨rfl, _⟩)
          · have e1 := G.one hrg (inG k him)
            have e2 := val r (List.mem_of_mem_take hr)
            rw [e1] at e2
            rw [inj _ _ _ e2 (val x hm)]
          · rfl
      · rw [if_neg q, j2]
        have : k ∈ g.take j ++ [i] ↔ k ∈ g.take j := by simp [q]
        simp only [this]
    · rintro A ⟨j1, j2⟩
      rw [List.take_length] at j2
      refine hn _ ⟨by omega, fun i l => ?_⟩
      rw [j2, tk]
      constructor
      · rintro (⟨q, hq, e⟩ | ⟨rfl, hig⟩)
        · exact ⟨q, List.mem_append_left _ hq, e⟩
        · exact ⟨x, by simp, rfl, inG i hig⟩
      · rintro ⟨q, hq, rfl, e⟩
        rcases List.mem_append.mp hq with z | z
        · exact .inl ⟨q, z, rfl, e⟩
        · rw [List.mem_singleton] at z
          subst z
          refine .inr ⟨rfl, ?_⟩
          obtain ⟨m', g', em', hg', hi'⟩ := mem_gp.mp e
          have : m' = m := by omega
          subst this
          rw [hg] at hg'
          cases hg'
          exact hi'
  · rintro A ⟨i1, i2⟩
    rw [List.take_length] at i2
    refine h A fun i l => ?_
    rw [i2]
    constructor
    · rintro ⟨q, hq, rfl, e⟩; exact ⟨q.2, val q hq, e⟩
    · rintro ⟨p, e, hp⟩; exact ⟨(l, p), ui e, rfl, hp⟩
section
variable {lb : List (Int × Sg)} {gs : List (List Int)} {wt : List (Int × Int)} {C R : List (Sg × Int)} {homes : Option (List (Sg × Int))}
theorem Carried.cases (G : Grs gs) (N : Cnt gs C) (A : Carried lb gs wt C homes R) {n : Sg} {p : Int} (e : fn R n = some p) :
    (∃ i, valG C n = some i ∧ (p, i) ∈ gp gs ∧ p ∈ pnd gs C) ∨ (valG C n = none ∧ p ∉ pnd gs C ∧ ∃ i, (p, i) ∈ gp gs) := by
  obtain ⟨T, row, I, B, hf, eT⟩ := A.best
  rw [hf] at e
  have inRow : ∀ q, fn row n = some q → valG C n = none ∧ q ∉ pnd gs C ∧ ∃ i, (q, i) ∈ gp gs := fun q er => by
    obtain ⟨_, x, hx⟩ := B.mt.dom n q er
    have hx' := zny I.nd (fun k => (!memB k.1 (za C)) && (!memB k.2 (pnd gs C))) n q
    have hx2 : tb (opT gs C T) n q = some x := hx
    unfold opT at hx2
    rw [hx'] at hx2
    split at hx2
    · rename_i c
      rw [Bool.and_eq_true] at c
      have c1 : n ∉ za C := by simpa [memB] using c.1
      have c2 : q ∉ pnd gs C := by simpa [memB] using c.2
      obtain ⟨y, hy, ey⟩ := I.key (n, q) (zeq hx2)
      refine ⟨?_, c2, y.2, by rw [← show y.1 = q from ey]; exact hy⟩
      cases z : valG C n with
      | none => rfl
      | some v => exact absurd (zep (t := C) z) c1
    · cases hx2
  cases er : fn row n with
  | some q =>
    rw [er] at e
    cases e
    exact .inr (inRow _ er)
  | none =>
    rw [er] at e
    have e : ((valG C n).bind fun i => valG (plT gs) i) = some p := e
    cases ec : valG C n with
    | none => rw [ec] at e; cases e
    | some i =>
      rw [ec] at e
      have e : valG (plT gs) i = some p := e
      refine .inl ⟨i, rfl, (zgl G).mp e, ?_⟩
      unfold pnd
      refine List.mem_map.mpr ⟨i, ?_, by unfold Tk.pv; rw [e]; rfl⟩
      exact List.mem_map.mpr ⟨(n, i), ui ec, rfl⟩
theorem Carried.most (G : Grs gs) (N : Cnt gs C) (A : Carried lb gs wt C homes R) {g : Sg → Option Int} (inj : ∀ r r' c, g r = some c → g r' = some c → r = r')
    (h1 : ∀ n, n ∈ za C → g n = fn R n) (h2 : ∀ n p, n ∉ za C → g n = some p → p ∉ pnd gs C) : ((gp gs).map (term lb wt g)).sum ≤ ((gp gs).map (term lb wt (fn R))).sum := by
  obtain ⟨T, row, I, B, hf, eT⟩ := A.best
  rw [← I.sum, ← I.sum]
  let c : Sg × Int → Bool := fun k => (!memB k.1 (za C)) && (!memB k.2 (pnd gs C))
  have kf : za (opT gs C T) = (za T).filter c := by
    unfold opT za
    rw [List.filter_map]; rfl
  have nT : (za (opT gs C T)).Nodup := by rw [kf]; exact I.nd.filter _
  have pf : ∀ k, c k = true → Tk.pv (opT gs C T) k = Tk.pv T k := fun k hk => by
    unfold Tk.pv opT
    rw [zdm I.nd c k, if_pos hk]
  have sp : ∀ f : Sg → Option Int, Kp T f = Kp (opT gs C T) f + ((za T).map fun k => if c k = true then 0 else if f k.1 = some k.2 then Tk.pv T k else 0).sum := fun f => by
    unfold Kp
    rw [kf]
    exact zn1 c _ _ _ fun k hk hc => by rw [pf k hc]
  rw [sp g, sp (fn R)]
  have cin : ∀ k, c k = true → k.1 ∉ za C ∧ k.2 ∉ pnd gs C := fun k hk => by
    have hk : ((!memB k.1 (za C)) && (!memB k.2 (pnd gs C))) = true := hk
    rw [Bool.and_eq_true] at hk
    exact ⟨by simpa [memB] using hk.1, by simpa [memB] using hk.2⟩
  have cout : ∀ k, ¬ c k = true → k.1 ∈ za C ∨ k.2 ∈ pnd gs C := fun k hk => by
    refine Classical.byContradiction fun z => hk ?_
    show ((!memB k.1 (za C)) && (!memB k.2 (pnd gs C))) = true
    rw [Bool.and_eq_true]
    exact ⟨by simpa [memB] using fun y => z (.inl y), by simpa [memB] using fun y => z (.inr y)⟩
  have off : ∀ n, n ∉ za C → fn R n = fn row n := fun n hn => by
    rw [hf]
    have : valG C n = none := by
      cases z : valG C n with
      | none => rfl
      | some v => exact absurd (zep (t := C) z) hn
    rw [this]
    cases fn row n <;> rfl
  have rest : ((za T).map fun k => if c k = true then 0 else if g k.1 = some k.2 then Tk.pv T k else 0) = (za T).map fun k => if c k = true then 0 else if fn R k.1 = some k.2 then Tk.pv T k else 0 := by
    refine List.map_congr_left fun k hk => ?_
    by_cases hc : c k = true
    · rw [if_pos hc, if_pos hc]
    · rw [if_neg hc, if_neg hc]
      by_cases hC : k.1 ∈ za C
      · rw [h1 _ hC]
      · have hp := (cout k hc).resolve_left hC
        have n1 : ¬ g k.1 = some k.2 := fun z => h2 _ _ hC z hp
        have n2 : ¬ fn R k.1 = some k.2 := fun z => by
          rcases A.cases G N z with ⟨i, c1, _⟩ | ⟨_, c2, _⟩
          · exact hC (zep (t := C) c1)
          · exact c2 hp
        rw [if_neg n1, if_neg n2]
  rw [rest]
  have b1 := zwy nT B.best inj
  have b2 : Kp (opT gs C T) (fn R) = Kp (opT gs C T) (fn row) := by
    unfold Kp
    congr 1
    refine List.map_congr_left fun k hk => ?_
    rw [kf, List.mem_filter] at hk
    rw [off _ (cin k hk.2).1]
  omega
end
end Ld
end Mv
namespace Mv
namespace Ld
open PySem PySem.Spec PyProof.Rows L2 Tk Lb Lc
open Mt (Mat Best)
end Ld
end Mv
namespace Mv
namespace Bw
open PySem PySem.Spec PyProof.Rows L2 Tk Lb Ld
open Lc
open Lg (keyF keyO zc1 grps grp grpL idsA Rul)
section
variable {lb : List (Int × Sg)} {wt : List (Int × Int)}
theorem zwz : ∀ {ys : List (Int × Int)} {T : Tb} {k : Sg × Int}, k ∈ za (ys.foldl (zfg lb wt) T) ↔ k ∈ za T ∨ ∃ y ∈ ys, valG lb y.2 = some k.1 ∧ y.1 = k.2
  | [], T, k => by simp
  | y :: ys, T, k => by
    rw [List.foldl_cons, zwz]
    unfold zfg
    cases e : valG lb y.2 with
    | none => simp [e]
    | some l =>
      rw [uy]
      have hk : k = (l, y.1) ↔ l = k.1 ∧ y.1 = k.2 := ⟨fun z => by rw [z]; exact ⟨rfl, rfl⟩, fun ⟨a, b⟩ => by rw [a, b]⟩
      by_cases c : (l, y.1) ∈ za T
      · rw [if_pos c]
        constructor
        · rintro (h | ⟨z, hz, h⟩)
          · exact .inl h
          · exact .inr ⟨z, by simp [hz], h⟩
        · rintro (h | ⟨z, hz, h1, h2⟩)
          · exact .inl h
          · rcases List.mem_cons.mp hz with rfl | hz
            · rw [e] at h1
              have : k = (l, z.1) := hk.mpr ⟨Option.some.inj h1, h2⟩
              exact .inl (this ▸ c)
            · exact .inr ⟨z, hz, h1, h2⟩
      · rw [if_neg c]
        simp only [List.mem_append, List.mem_singleton]
        constructor
        · rintro ((h | h) | ⟨z, hz, h⟩)
          · exact .inl h
          · exact .inr ⟨y, by simp, by rw [e, (hk.mp h).1], (hk.mp h).2⟩
          · exact .inr ⟨z, by simp [hz], h⟩
        · rintro (h | ⟨z, hz, h1, h2⟩)
          · exact .inl (.inl h)
          · rcases List.mem_cons.mp hz with rfl | hz
            · rw [e] at h1
              exact .inl (.inr (hk.mpr ⟨Option.some.inj h1, h2⟩))
            · exact .inr ⟨z, hz, h1, h2⟩
theorem zt2 {gs : List (List Int)} {k : Sg × Int} : k ∈ za (ltF lb wt gs) ↔ ∃ i, (k.2, i) ∈ gp gs ∧ valG lb i = some k.1 := by
  unfold ltF
  rw [zwz]
  constructor
  · rintro (h | ⟨y, hy, h1, h2⟩)
    · cases h
    · exact ⟨y.2, by rw [← h2]; exact hy, h1⟩
  · rintro ⟨i, h1, h2⟩
    exact .inr ⟨(k.2, i), h1, h2, rfl⟩
end
end Bw
end Mv
namespace Mv
namespace Bw
open PySem PySem.Spec PyProof.Rows L2 Tk Lb Ld
open Lc
open Lg (keyF keyO zc1 grps grp grpL idsA Rul)
abbrev Sta := zd5 × Rule × Names × Names
section
variable {lb : List (Int × Sg)} {gs : List (List Int)} {wt : List (Int × Int)} {C R : Names} {homes : Option Names}
end
end Bw
end Mv
namespace Mv
namespace Bw
open PySem PySem.Spec PyProof.Rows L2 Tk Lb Ld
open Lc
open Lg (keyF keyO zc1 grps grp grpL idsA Rul)
section
variable {κ α β : Type} [DecidableEq κ]
theorem zu3 {ι γ : Type} {xs : List ι} {K : List γ → Prop} (f : ι → γ) (hl : xs.length ≤ 1000000) {body : ι → (Option γ → Prop) → Prop} (hb : ∀ (n : Nat) (x : ι), xs[n]? = some x → ∀ k : Option γ → Prop, k (some (f x)) → body x k) (h : K (xs.map f)) : lcW xs body K := by
  have hz := v7
  refine x5 (by omega) (xi (fun n (acc : List γ) => acc = (xs.take n).map f) rfl ?_ ?_)
  · rintro n x acc nx hx rfl hn
    refine hb n x hx _ (hn _ ?_)
    rw [List.take_succ, hx, List.map_append]; rfl
  · rintro acc rfl; rw [List.take_length]; exact h
end
end Bw
end Mv
namespace Mv
namespace Bw
open PySem PySem.Spec PyProof.Rows L2 Tk Lb Ld
open Lc
open Lg (keyF keyO zc1 grps grp grpL idsA Rul)
section
variable {N m c : Nat} {NL : List Sg} {b : Bk} {x : Bx}
end
end Bw
end Mv
namespace Mv
namespace Bw
open PySem PySem.Spec PyProof.Rows L2 Tk Lb Ld
open Lc
open Lg (keyF keyO zc1 grps grp grpL idsA Rul)
theorem sift {ι : Type} {xs : List ι} {K : List ι → Prop} (c : ι → Bool) (hl : xs.length ≤ 1000000) {body : ι → (Option ι → Prop) → Prop} (hb : ∀ x ∈ xs, ∀ k : Option ι → Prop, ifW (c x) (k (some x)) (k none) → body x k) (h : K (xs.filter c)) : lcW xs body K := by
  have hz := v7
  refine x5 (by omega) (xi (fun n (acc : List ι) => acc = (xs.take n).filter c) rfl ?_ ?_)
  · rintro n x acc nx hx rfl hn
    have tk : xs.take (n + 1) = xs.take n ++ [x] := by rw [List.take_succ, hx]; rfl
    refine hb x (List.mem_of_getElem? hx) _ (ifI (fun z => hn _ ?_) fun z => hn _ ?_)
    · rw [tk, List.filter_append]; simp [z]
    · rw [tk, List.filter_append]; simp [z]
  · rintro acc rfl; rw [List.take_length]; exact h
end Bw
end Mv
namespace Mv
namespace Bw
open PySem PySem.Spec PyProof.Rows L2 Tk Lb Ld
open Lc
open Lg (keyF keyO zc1 grps grp grpL idsA Rul)
section
variable {N m c : Nat} {NL : List Sg} {b : Bk} {st st' : St}
end
section
variable {gs : List (List Int)} {pn : Names}
end
end Bw
end Mv
namespace Mv
namespace Bw
open PySem PySem.Spec PyProof.Rows L2 Tk Lb Ld
open Lc
open Lg (keyF keyO zc1 grps grp grpL idsA Rul)
theorem cnt_nil (gs : List (List Int)) : cntF gs [] = [] := by
  unfold cntF
  rw [show z4 sD (za ([] : Names)) = [] from List.Perm.eq_nil (jt sD [])]
  rfl
theorem sum_le {α : Type} {f g : α → Int} : ∀ {l : List α}, (∀ x ∈ l, f x ≤ g x) → (l.map f).sum ≤ (l.map g).sum
  | [], _ => Int.le_refl _
  | x :: l, h => by
    have a := h x (List.mem_cons_self ..)
    have b := sum_le (l := l) fun y hy => h y (List.mem_cons_of_mem _ hy)
    simp only [List.map_cons, List.sum_cons]
    omega
theorem zgf {α : Type} (f g : α → Int) : ∀ (l : List α), (l.map fun x => f x - g x).sum = (l.map f).sum - (l.map g).sum
  | [] => rfl
  | x :: l => by
    simp only [List.map_cons, List.sum_cons, zgf f g l]
    omega
theorem sum_if {α : Type} (c : α → Bool) (f : α → Int) : ∀ (l : List α), (l.map fun x => if c x = true then f x else 0).sum = ((l.filter c).map f).sum
  | [] => rfl
  | x :: l => by
    rw [List.map_cons, List.sum_cons, sum_if c f l, List.filter_cons]
    by_cases h : c x = true
    · rw [if_pos h, if_pos h, List.map_cons, List.sum_cons]
    · rw [if_neg h, if_neg h]; omega
section
variable {N m : Nat} {NL : List Sg} {s : Sta} {items : zd5} {names : Names} {A : List (Int × Sg)} {wt : List (Int × Int)} {H : Names}
end
end Bw
end Mv
namespace Mv
open PySem PySem.Spec PyProof.Rows L2
def zt3 (te tk : DE) : DE := fun δ Q => te δ fun δ1 d => ∃ a xs0, d = .cel a ∧ valG (wlO δ1) a = some (.lst xs0) ∧ tk δ1 fun δ2 kd => ∃ W ds z k x, hasW δ2 W ∧ valG W a = some (.lst ds) ∧ kd = .int z ∧ -(2 ^ 63) ≤ z ∧ z < 2 ^ 63 ∧ seqIndex? z ds.length = some k ∧ ds[k]? = some x ∧ Q (wset δ2 (putG W a (.lst (ds.eraseIdx k)))) x
def zu4 (te tx : DE) : DS := fun D δ => te δ fun δ1 d => ∃ a xs0, d = .cel a ∧ valG (wlO δ1) a = some (.lst xs0) ∧ tx δ1 fun δ2 x => ∃ W ds, hasW δ2 W ∧ valG W a = some (.lst ds) ∧ ds.length < sizeLine ∧ D.nx (wset δ2 (putG W a (.lst (ds ++ [x]))))
section
variable {X : Cx} {K : PySem.W.Frag} {e o : Expr} {pos apos pos' : Pos} {te tk tx : DE}
theorem z0p (h : PE X (.Call (.Attribute o "pop" apos) [e] [] pos) (tBM X.K "list" rPopAt (upE K te) (tCons (upE K tk) tNil))) : PE X (.Call (.Attribute o "pop" apos) [e] [] pos) (upE K (zt3 te tk)) := pimp h fun σ H Q ⟨F0, H0, P, δ, F, Q', R, ht, k⟩ => by
  refine ⟨F0, H0, P, δ, F, _, R, ht, fun δ1 F1 H1 v d R1 e1 r ⟨a, xs0, ed, hv0, ht⟩ => ?_⟩
  subst ed
  cases r
  obtain ⟨ws0, hh0, rw0⟩ := (R1.wl (yy hv0)).1
  refine .inl ⟨rfl, ws0, .inl (.inl hh0)⟩ |> fun z => ⟨z, ?_⟩
  refine ⟨F0, H0, P, δ1, F1, _, R1, ht, fun δ2 F2 H2 y dy R2 e2 ry ⟨W, ds, z, kk, x, hw, hval, ez, z1, z2, hk, hx, q⟩ => ?_⟩
  subst ez
  cases ry
  obtain ⟨ws, hh, rw⟩ := ((R2.wat hw).2.2 _ (yy hval)).1
  obtain ⟨u, hu, ru⟩ := rw.get hx
  exact ⟨a, ws, z, kk, u, rfl, rfl, hh, z1, z2, by rw [rw.length]; exact hk, hu, k _ F2 _ u x (R2.wput (o' := .lst (ds.eraseIdx kk)) hw (yy hval) ⟨_, upd_same, rw.eraseIdx kk⟩) (e1.trans e2) ru q⟩
theorem z0q (h : PE X (.Call (.Attribute o "append" apos) [e] [] pos) (tBM X.K "list" rAppend (upE K te) (tCons (upE K tx) tNil))) (hs : swapsWith (.Call (.Attribute o "append" apos) [e] [] pos) none pos'.line X.env = pure false := by rfl) :
    PS X (.Expr (.Call (.Attribute o "append" apos) [e] [] pos) pos') (upS K (zu4 te tx)) := vu (ps_expr h hs) fun D σ H ⟨F0, H0, δ, F, D', W'⟩ => by
  refine ⟨F0, H0, [], δ, F, _, W'.rep, W'.t, fun δ1 F1 H1 v d R1 e1 r ⟨a, xs0, ed, hv0, ht⟩ => ?_⟩
  subst ed
  cases r
  obtain ⟨ws0, hh0, rw0⟩ := (R1.wl (yy hv0)).1
  refine .inl ⟨rfl, ws0, .inl (.inl hh0)⟩ |> fun z => ⟨z, ?_⟩
  refine ⟨F0, H0, [], δ1, F1, _, R1, ht, fun δ2 F2 H2 y dy R2 e2 ry ⟨W, ds, hw, hval, hl, q⟩ => ?_⟩
  obtain ⟨ws, hh, rw⟩ := ((R2.wat hw).2.2 _ (yy hval)).1
  refine ⟨a, ws, y, rfl, rfl, hh, by rw [rw.length]; exact hl, ?_⟩
  exact W'.nx _ _ F2 _ (R2.wput (o' := .lst (ds ++ [dy])) hw (yy hval) ⟨_, upd_same, rw.app (.cons ry .nil)⟩) (e1.trans e2) q
end
end Mv
namespace Mv
open PySem PySem.Spec PyProof.Rows L2
abbrev Lp := Addr × List Int
def celL (p : Lp) : D := .cel p.1
def wL (P : List Lp) : Wl := P.map fun p => (p.1, oL D.int p.2)
theorem zfh {P : List Lp} (nd : ndW (wL P)) {j : Nat} {p : Lp} (h : P[j]? = some p) : valG (wL P) p.1 = some (oL D.int p.2) :=
  ztu (j := j) nd (by unfold wL; rw [List.getElem?_map, h]; rfl)
inductive Moved (gs : List (List Int)) : Nat → List (List Int) → List Int → Prop
  | nil : Moved gs 0 gs []
  | skip {n f m} : Moved gs n f m → Moved gs (n + 1) f m
  | go {n f m} {p q i : Nat} {g g2 : List Int} {x : Int} : Moved gs n f m → f[p]? = some g → g[i]? = some x → (f.set p (g.eraseIdx i))[q]? = some g2 → Moved gs (n + 1) ((f.set p (g.eraseIdx i)).set q (g2 ++ [x])) (m ++ [x])
def zkv (_ : Unit) (gs : List (List Int)) (K : List (List Int) × List Int → Prop) : Prop :=
  zx (gs ≠ [] ∧ gs.length ≤ 1000 ∧ ∀ g ∈ gs, g.length ≤ 1000) (∀ n f m, n ≤ 3 → Moved gs n f m → zwk m fun ys => K ((f.filter fun g => !eqB g []).map (z4 D.int), z4 D.int ys))
def zhh : DSp := fun ds Q' => ∃ (u : Unit) (gs : List (List Int)) (K : List (List Int) × List Int → Prop), ds = [qv u, eL (eT D.int) gs] ∧ zkv u gs K ∧ ∀ r, K r → Q' (.fz (eP2 (eL (eT D.int)) (eL D.int) r))
def zap (zi : DSp) : DS :=
(dSeq (dPar [2, 3] (dmF (dFrz (dLc (dIL (dVar 1)) (gN 4) dYes (dCel (d1O zll (jn (dVV 4) vNil))) [4])) (dmO (dLst dNil) zd1)))
 (dSeq (dFor (dIR1 (zg (dCall 2 zi (zg (dVar 0) (zg (dC (.int 4)) dNil))) dNil)) (gN 5)
 (dSeq (dPar [6, 7] (dmF (dCall 2 zi (zg (dVar 0) (zg (d1V gLen (dVV 2)) dNil))) (dmF (dCall 2 zi (zg (dVar 0) (zg (d1V gLen (dVV 2)) dNil))) zd1)))
 (dIfS (dTst (d2VV (gEqA true) (dVC (d2V gIx (dVV 2) (dVar 6))) (dVF (dFrz (dLst dNil))))) (dSeq (dAsg (zt3 (d2V gIx (dVV 2) (dVar 6)) (dCall 2 zi (zg (dVar 0) (zg (d1V gLen (dVC (d2V gIx (dVV 2) (dVar 6)))) dNil)))) (gN 8))
 (dSeq (zu4 (d2V gIx (dVV 2) (dVar 7)) (dVar 8))
 (dApp 3 (dVar 8)))) uf)))
 (dRet (dTup (zg (dFrz (dLc (dIL (dVar 2)) (gN 4) (dTst (d2VV (gEqA true) (dVC (dVar 4)) (dVF (dFrz (dLst dNil))))) (d1 zjw (jn (dVF (dFrz (d1O uq (jn (dVC (dVar 4)) vNil)))) vNil)) [4])) (zg (dFrz (zkk (dVV 3))) dNil))))))
theorem zm1 {α : Type} {xs : List α} {x : α} {i : Int} (h : xs[i.toNat]? = some x) (h0 : 0 ≤ i) : atI xs i = some x := by
  have hl := (List.getElem?_eq_some_iff.mp h).1
  have e : ixN xs.length i = some i.toNat := by
    unfold ixN
    rw [if_pos h0, if_pos (by omega)]
  unfold atI; rw [e]; exact h
theorem map_eraseIdx {α β : Type} (f : α → β) : ∀ (xs : List α) (k : Nat), (xs.map f).eraseIdx k = (xs.eraseIdx k).map f
  | [], _ => rfl
  | _ :: _, 0 => rfl
  | x :: xs, k + 1 => by simp [map_eraseIdx f xs k]
theorem zw0 {P : List Lp} (nd : ndW (wL P)) {j : Nat} {z : Lp} (h : P[j]? = some z) (ys : List Int) : putG (wL P) z.1 (.lst (ys.map D.int)) = wL (P.set j (z.1, ys)) ∧ ndW (wL (P.set j (z.1, ys))) ∧ (P.set j (z.1, ys)).map (·.1) = P.map (·.1) ∧ (P.set j (z.1, ys)).map (·.2) = (P.map (·.2)).set j ys := by
  have e1 : putG (wL P) z.1 (.lst (ys.map D.int)) = wL (P.set j (z.1, ys)) := by
    rw [ztv (j := j) (o := oL D.int z.2) nd (by unfold wL; rw [List.getElem?_map, h]; rfl)]
    unfold wL; rw [List.map_set]; rfl
  have e2 : (P.set j (z.1, ys)).map (·.1) = P.map (·.1) := by
    rw [List.map_set]
    apply List.ext_getElem?
    intro k
    by_cases hk : j = k
    · subst hk
      have hl := (List.getElem?_eq_some_iff.mp h).1
      rw [List.getElem?_set_self (by simpa using hl), List.getElem?_map, h]; rfl
    · rw [List.getElem?_set_ne hk]
  refine ⟨e1, ?_, e2, by rw [List.map_set]⟩
  have w : ∀ R : List Lp, (wL R).map (·.1) = R.map (·.1) := fun R => by unfold wL; rw [List.map_map]; rfl
  unfold ndW at nd ⊢
  rw [w] at nd ⊢
  rw [e2]; exact nd
theorem Moved.lens {gs n f m} (h : Moved gs n f m) : f.length = gs.length ∧ m.length ≤ n ∧ (∀ b, (∀ g ∈ gs, g.length ≤ b) → ∀ g ∈ f, g.length ≤ b + n) := by
  induction h with
  | nil => exact ⟨rfl, Nat.le_refl _, fun b hb g hg => Nat.le_trans (hb g hg) (Nat.le_add_right _ _)⟩
  | skip h ih => exact ⟨ih.1, by omega, fun b hb g hg => by have := ih.2.2 b hb g hg; omega⟩
  | @go n f m p q i g g2 x h hp hi hq ih =>
    refine ⟨by simp [ih.1], by simp; omega, fun b hb y hy => ?_⟩
    have e1 : ∀ y ∈ f.set p (g.eraseIdx i), y.length ≤ b + n := fun y hy => by
      rcases List.mem_or_eq_of_mem_set hy with z | z
      · exact ih.2.2 b hb y z
      · rw [z]; exact Nat.le_trans (List.length_eraseIdx_le _ _) (ih.2.2 b hb g (List.mem_of_getElem? hp))
    rcases List.mem_or_eq_of_mem_set hy with z | z
    · have := e1 y z; omega
    · rw [z, List.length_append]; have := e1 g2 (List.mem_of_getElem? hq); simp; omega
theorem z0r (ds : List D) (Q' : S → Prop) (h : zhh ds Q') : zap zah (DEnds.of Q') (zal 10 ds []) := by
  obtain ⟨u, gs, K, rfl, ⟨⟨hne, hl, hg⟩, h⟩, hQ⟩ := h
  show zap zah (DEnds.of Q') [fz (.obj 0), fz (eL (eT D.int) gs), none, none, none, none, none, none, none, wd []]
  unfold zap
  have hz : 1000000 < sizeLine := by decide +kernel
  refine z0h ?_
  refine ⟨by show (gs.map (eT D.int)).length ≤ sizeLine; rw [List.length_map]; omega, fun i δ acc => ∃ P : List Lp, δ = [fz (.obj 0), fz (eL (eT D.int) gs), none, none, none, none, none, none, none, wd (wL P)] ∧ acc = P.map celL ∧ ndW (wL P) ∧ P.map (·.2) = gs.take i, ⟨[], rfl, rfl, List.nodup_nil, rfl⟩, ?_, ?_⟩
  · rintro i d _ acc hd ⟨P, rfl, rfl, nd, hP⟩
    rw [List.getElem?_map] at hd
    cases hy : gs[i]? with
    | none => rw [hy] at hd; cases hd
    | some g =>
      rw [hy] at hd
      cases hd
      refine xj ?_
      refine ⟨_, rfl, .inl ⟨_, .inr rfl, wL P, rfl, fun a ha => ?_⟩⟩
      refine ⟨P ++ [(a, g)], ?_, by simp [celL], ?_, ?_⟩
      · show [fz (.obj 0), fz (eL (eT D.int) gs), none, none, none, none, none, none, none, wd (wL P ++ [(a, .lst (g.map D.int))])] = _
        simp [wL, oL]
      · unfold ndW at nd ⊢
        rw [show (wL (P ++ [(a, g)])).map (·.1) = (wL P).map (·.1) ++ [a] by simp [wL]]
        rw [List.nodup_append]
        exact ⟨nd, by simp, fun x hx y hy e => by simp at hy; subst hy; subst e; exact ha hx⟩
      · rw [List.map_append, hP, List.take_succ, hy]; rfl
  rintro _ _ ⟨P, rfl, rfl, nd, hP⟩
  rw [List.length_map, List.take_length] at hP
  refine ⟨Nat.zero_le _, rfl, ?_⟩
  show dSeq (dFor _ _ _) _ _ [fz (.obj 0), fz (eL (eT D.int) gs), fz (eL celL P), ow (oL D.int []), none, none, none, none, none, wd (wL P)]
  have hpos : 0 < gs.length := List.length_pos_iff.mpr hne
  have lP : P.length = gs.length := by have := congrArg List.length hP; simpa using this
  have eP : eL celL P = .lst ((P.map (·.1)).map D.cel) := by unfold eL; rw [List.map_map]; rfl
  rw [eP]
  have la : (P.map (·.1)).length = gs.length := by rw [List.length_map, lP]
  generalize hA0 : P.map (·.1) = as at la ⊢
  refine ⟨rfl, 4, rfl, by decide, by decide, fun tn t0 t1 => ⟨tn, rfl, ⟨by omega, by omega⟩, ?_⟩⟩
  refine ⟨fun i δ => ∃ (P : List Lp) (m : List Int) (j5 j6 j7 j8 : Option S), δ = [fz (.obj 0), fz (eL (eT D.int) gs), fz (.lst (as.map D.cel)), ow (oL D.int m), none, j5, j6, j7, j8, wd (wL P)] ∧ P.map (·.1) = as ∧ ndW (wL P) ∧ Moved gs i (P.map (·.2)) m, ⟨P, [], none, none, none, none, rfl, hA0, nd, by rw [hP]; exact .nil⟩, ?_, ?_⟩
  · rintro i d _ hd ⟨P, m, j5, j6, j7, j8, rfl, hA, nd, M⟩
    refine xj ?_
    obtain ⟨l1, l2, l3⟩ := M.lens
    have hm : ((as.map D.cel).length : Int) = (gs.length : Int) := by rw [List.length_map, la]
    refine ⟨_, rfl, rfl, _, rfl, by rw [hm]; omega, by rw [hm]; omega, fun p p0 p1 => ⟨_, rfl, rfl, _, rfl, by rw [hm]; omega, by rw [hm]; omega, fun q q0 q1 => ⟨rfl, ?_⟩⟩⟩
    rw [hm] at p1 q1
    refine zlt ?_
    show dIfS _ _ _ _ [fz (.obj 0), fz (eL (eT D.int) gs), fz (.lst (as.map D.cel)), ow (oL D.int m), none, fz d, fz (.int p), fz (.int q), j8, wd (wL P)]
    have hat : ∀ (r : Int), 0 ≤ r → r < (gs.length : Int) → ∃ z : Lp, P[r.toNat]? = some z ∧ atI (as.map D.cel) r = some (.cel z.1) := fun r r0 r1 => by
      have lp : P.length = gs.length := by rw [← l1, List.length_map]
      have hlt : r.toNat < P.length := by omega
      refine ⟨P[r.toNat], List.getElem?_eq_getElem hlt, ?_⟩
      rw [← hA, List.map_map]
      exact zm1 (by rw [List.getElem?_map, List.getElem?_eq_getElem hlt]; rfl) r0
    obtain ⟨z, hz1, hz2⟩ := hat p p0 p1
    obtain ⟨z', hz3, hz4⟩ := hat q q0 q1
    refine ⟨_, rfl, _, hz2, z.1, rfl, ?_⟩
    refine ⟨Nat.zero_le _, _, _, by show (valG (wL P) z.1).map O.d = _; rw [zfh nd hz1]; rfl, rfl, ?_⟩
    refine zfd (e := eL D.int) (by decide) z.2 [] (fun b => b = !eqB z.2 []) _ rfl fun b hb => ⟨_, rfl, ?_⟩
    subst hb
    split
    · rename_i ne
      have ne : z.2 ≠ [] := fun e => by rw [e] at ne; simp [eqB] at ne
      have z0 : 0 < z.2.length := List.length_pos_iff.mpr ne
      have zb : z.2.length ≤ 1000 + i := l3 1000 hg z.2 (by rw [List.mem_map]; exact ⟨z, List.mem_of_getElem? hz1, rfl⟩)
      have hi : i < 3 := by
        have := (List.getElem?_eq_some_iff.mp hd).1
        simp [rngD] at this
        omega
      refine ⟨_, rfl, _, hz2, z.1, _, rfl, by show valG (wL P) z.1 = _; rw [zfh nd hz1]; rfl, ?_⟩
      refine ⟨_, rfl, _, hz2, z.1, rfl, _, by show (valG (wL P) z.1).map O.d = _; rw [zfh nd hz1]; rfl, ?_⟩
      refine ⟨rfl, _, rfl, by rw [List.length_map]; omega, by rw [List.length_map]; omega, fun r r0 r1 => ?_⟩
      rw [List.length_map] at r1
      have hr : r.toNat < z.2.length := by omega
      refine ⟨wL P, z.2.map D.int, r, r.toNat, .int z.2[r.toNat], rfl, by rw [zfh nd hz1]; rfl, rfl, by omega, by omega, by rw [List.length_map]; exact (ixN_seq (by unfold ixN; rw [if_pos r0, if_pos (by omega)])).1, by rw [List.getElem?_map, List.getElem?_eq_getElem hr]; rfl, ?_⟩
      refine xj ?_
      refine zlt ?_
      have ee : (z.2.map D.int).eraseIdx r.toNat = (z.2.eraseIdx r.toNat).map D.int := map_eraseIdx ..
      rw [ee]
      obtain ⟨w1, w2, w3, w4⟩ := zw0 nd hz1 (z.2.eraseIdx r.toNat)
      rw [w1]
      have hat2 : ∃ y : Lp, (P.set p.toNat (z.1, z.2.eraseIdx r.toNat))[q.toNat]? = some y ∧ atI (as.map D.cel) q = some (.cel y.1) := by
        have lp : (P.set p.toNat (z.1, z.2.eraseIdx r.toNat)).length = gs.length := by rw [List.length_set, ← l1, List.length_map]
        have hlt : q.toNat < (P.set p.toNat (z.1, z.2.eraseIdx r.toNat)).length := by omega
        refine ⟨_, List.getElem?_eq_getElem hlt, ?_⟩
        rw [← hA, ← w3, List.map_map]
        exact zm1 (by rw [List.getElem?_map, List.getElem?_eq_getElem hlt]; rfl) q0
      obtain ⟨y, hy1, hy2⟩ := hat2
      show dSeq (zu4 _ _) _ _ [fz (.obj 0), fz (eL (eT D.int) gs), fz (.lst (as.map D.cel)), ow (oL D.int m), none, fz d, fz (.int p), fz (.int q), fz (.int z.2[r.toNat]), wd (wL (P.set p.toNat (z.1, z.2.eraseIdx r.toNat)))]
      have M2 := Moved.go M (p := p.toNat) (q := q.toNat) (i := r.toNat) (g := z.2) (g2 := y.2) (x := z.2[r.toNat]) (by rw [List.getElem?_map, hz1]; rfl) (List.getElem?_eq_getElem hr) (by rw [← w4, List.getElem?_map, hy1]; rfl)
      have yb : y.2.length ≤ 1000 + i := by
        have h1 : y.2 ∈ (P.map (·.2)).set p.toNat (z.2.eraseIdx r.toNat) := by rw [← w4, List.mem_map]; exact ⟨y, List.mem_of_getElem? hy1, rfl⟩
        rcases List.mem_or_eq_of_mem_set h1 with k | k
        · exact l3 1000 hg _ k
        · rw [k]; have := List.length_eraseIdx_le z.2 r.toNat; omega
      refine ⟨_, rfl, _, hy2, y.1, _, rfl, by show valG (wL (P.set p.toNat (z.1, z.2.eraseIdx r.toNat))) y.1 = _; rw [zfh w2 hy1]; rfl, ?_⟩
      refine ⟨wL (P.set p.toNat (z.1, z.2.eraseIdx r.toNat)), y.2.map D.int, rfl, by rw [zfh w2 hy1]; rfl, by rw [List.length_map]; omega, ?_⟩
      have ea : y.2.map D.int ++ [D.int z.2[r.toNat]] = (y.2 ++ [z.2[r.toNat]]).map D.int := by simp
      rw [ea]
      obtain ⟨v1, v2, v3, v4⟩ := zw0 w2 hy1 (y.2 ++ [z.2[r.toNat]])
      rw [v1]
      refine zlt ?_
      show dApp 3 (dVar 8) _ [fz (.obj 0), fz (eL (eT D.int) gs), fz (.lst (as.map D.cel)), ow (oL D.int m), none, fz d, fz (.int p), fz (.int q), fz (.int z.2[r.toNat]), wd (wL ((P.set p.toNat (z.1, z.2.eraseIdx r.toNat)).set q.toNat (y.1, y.2 ++ [z.2[r.toNat]])))]
      refine ⟨by rw [List.length_map]; omega, ?_⟩
      refine ⟨_, m ++ [z.2[r.toNat]], fz d, fz (.int p), fz (.int q), fz (.int z.2[r.toNat]), ?_, by rw [v3, w3, hA], v2, by rw [v4, w4]; exact M2⟩
      have em : (m ++ [z.2[r.toNat]]).map D.int = m.map D.int ++ [D.int z.2[r.toNat]] := by simp
      unfold oL; rw [em]; rfl
    · exact ⟨P, m, _, _, _, _, rfl, hA, nd, M.skip⟩
  · rintro _ ⟨P, m, j5, j6, j7, j8, rfl, hA, nd, M⟩
    have hn : (rngD 0 tn).length ≤ 3 := by simp [rngD]; omega
    obtain ⟨l1, l2, l3⟩ := M.lens
    rw [List.length_map] at l1
    refine zlt ?_
    show dRet _ _ [fz (.obj 0), fz (eL (eT D.int) gs), fz (.lst (as.map D.cel)), ow (oL D.int m), none, j5, j6, j7, j8, wd (wL P)]
    have K0 := h _ _ _ hn M
    refine ⟨by show (as.map D.cel).length ≤ sizeLine; rw [List.length_map]; omega, fun i δ acc => ∃ x, δ = [fz (.obj 0), fz (eL (eT D.int) gs), fz (.lst (as.map D.cel)), ow (oL D.int m), x, j5, j6, j7, j8, wd (wL P)] ∧ acc = (((P.map (·.2)).take i).filter fun g => !eqB g []).map fun g => eT D.int (z4 D.int g), ⟨none, rfl, rfl⟩, ?_, ?_⟩
    · rintro i d _ acc hd ⟨x, rfl, rfl⟩
      rw [← hA, List.map_map, List.getElem?_map] at hd
      cases hy : P[i]? with
      | none => rw [hy] at hd; cases hd
      | some z =>
        rw [hy] at hd
        cases hd
        have zb : z.2.length ≤ 1000 + 3 := by have := l3 1000 hg z.2 (by rw [List.mem_map]; exact ⟨z, List.mem_of_getElem? hy, rfl⟩); omega
        refine xj ?_
        have tk : (P.map (·.2)).take (i + 1) = (P.map (·.2)).take i ++ [z.2] := by rw [List.take_succ, List.getElem?_map, hy]; rfl
        refine ⟨z.1, rfl, Nat.zero_le _, _, _, by show (valG (wL P) z.1).map O.d = _; rw [zfh nd hy]; rfl, rfl, ?_⟩
        refine zfd (e := eL D.int) (by decide) z.2 [] (fun b => b = !eqB z.2 []) _ rfl fun b hb => ⟨_, rfl, ?_⟩
        subst hb
        split
        · rename_i ne
          refine ⟨z.1, rfl, _, by show ((valG (wL P) z.1).map O.d).bind _ = _; rw [zfh nd hy]; rfl, ?_⟩
          refine zkm (e := D.int) z.2 (fun l => l = z4 D.int z.2) _ ⟨by omega, rfl⟩ fun l hl => ?_
          subst hl
          refine ⟨_, rfl, _, .inl rfl, ?_⟩
          have ne : (!eqB z.2 []) = true := ne
          refine ⟨_, rfl, ?_⟩
          rw [tk, List.filter_append, List.map_append]; simp [ne]; rfl
        · rename_i ne
          have ne : (!eqB z.2 []) = false := by simpa using ne
          refine ⟨_, rfl, ?_⟩
          rw [tk, List.filter_append]; simp [ne]
    · rintro _ _ ⟨x, rfl, rfl⟩
      rw [List.length_map, la, ← l1, ← List.length_map (f := (·.2)) (as := P), List.take_length]
      show zg _ _ [fz (.obj 0), fz (eL (eT D.int) gs), fz (.lst (as.map D.cel)), ow (oL D.int m), none, j5, j6, j7, j8, wd (wL P)] _
      refine xg (e := eL D.int) (zuy (sv_o 3 m (o := oL D.int m) rfl) (um (o := oL D.int m) rfl rfl)) (fun _ => rfl) (fun y => K (((P.map (·.2)).filter fun g => !eqB g []).map (z4 D.int), y)) _ K0 fun ys hys => ?_
      refine ⟨by show 2 ≤ sizeLine; omega, ?_⟩
      have := hQ _ hys
      unfold eP2 eL at this
      rw [List.map_map] at this
      exact this
end Mv
namespace Mv
open PySem PySem.Spec PyProof.Rows L2
theorem walk_mvE {l : PySem.W.OpenLaw} {n : Nat} {q : Program} {loose : List Str} {XP : (Str → Option Value) → Heap → Prop} {YP : World → Heap → Prop} {d : DefRec} {sp : DSp} {x : Str}
    (hn : l.most = some n) (hn2 : n ≤ sizeLine) (hdf : d.params.defaults = []) (hi : importsNone q = true)
    (Fn : ∀ (w : World) (mg : Str → Option Value) (fa : Addr) (h : Heap), YP w h → h.Ns mainGlobals mg → mg d.name = some (.ref fa) →
      ∃ K : PySem.W.Frag, K.In h ∧ K.lookup sysModules = none ∧ ∃ fd : FuncData, (∀ (s : Shared) (u : Value), BindsTo s fd ⟨[u], []⟩ [(x, u)]) ∧
        ∀ base : Heap, K.In base → base.Ns mainGlobals mg → FnAt l.prog w K mg base callerA fa fd [x] (spD K 1 sp))
    (hsp : ∀ ns : List Int, ns.length ≤ n → (∀ z ∈ ns, Builtin.Int.intBits z ≤ 1048576) → sp [.scr ns] fun r => r = .fz (.bl true)) :
    PySem.W.WalkO q loose XP YP l.row.toRowW d [] (fun f vs => PySem.call f vs) := by
  refine Att.attach_callB hn hdf fun w s₀ s₁ mg mb fa o pm cd doc a vs ns G Y ho hd hcd hmg hobj hints hlen hbits hg => ?_
  obtain ⟨K, KX, hK1, fd, hb, hF⟩ := Fn w mg fa _ Y G.T.g hmg
  exact z1b KX G.T.g G.T.b G.T.builtins G.T.nolimit (G.T.seer hi) hg hobj hints (Nat.le_trans hlen hn2) hK1 hF hb (hsp ns hlen hbits)
end Mv
namespace Mv
namespace K31
open PySem PySem.Spec PyProof.Rows L2
abbrev Z := Option S
def za8 : Sg := ⟨"b", by decide +kernel⟩
def zl6 : Sg := ⟨"ab", by decide +kernel⟩
def za9 : Sg := ⟨"red", by decide +kernel⟩
def zcn : Sg := ⟨"zz", by decide +kernel⟩
def zt4 : Sg := ⟨"new", by decide +kernel⟩
def zl7 : Sg := ⟨"a", by decide +kernel⟩
section
variable [CTb]
def zaq (zi : DSp) (j9 : DSp) : DS :=
 (dSeq (dPar [1, 2] (dmO (dRg2 (dC (.int 1)) (dC (.int 10))) (dmF (dFrz (dLst dNil)) zd1)))
 (dSeq (dFor (dIR1 (zg (dCall 2 zi (zg (dVar 0) (zg (dC (.int 5)) dNil))) dNil)) (gN 3)
 (dSeq (yf 4 (dLst dNil))
 (dSeq (dFor (dIR1 (zg (d2 gAdd (dC (.int 1)) (dCall 2 zi (zg (dVar 0) (zg (dC (.int 3)) dNil)))) dNil)) (gN 5)
 (dIfS (dTst (d2VV (gEqA true) (dVV 1) (dVF (dFrz (dLst dNil))))) (dApp 4 (zf4 1 (dCall 2 zi (zg (dVar 0) (zg (d1V gLen (dVV 1)) dNil))))) uf))
 (dAsg (dFrz (d2VO gCat (dVV 2) (dVF (dFrz (dRep (dLst (zg (d1 zjw (jn (dVF (dFrz (d1O uq (jn (dVV 4) vNil)))) vNil)) dNil)) (d1 gInt (jn (dVF (d2VV (gEqA true) (dVV 4) (dVF (dFrz (dLst dNil))))) vNil))))))) (gN 2)))))
 (dSeq (dPar [6, 7] (dmO zay (dmO zay zd1)))
 (dSeq (dFor (dIR2 (zg (dC (.int 1)) (zg (dC (.int 10)) dNil))) (gN 8)
 (dSeq (dIfS (dTst (d2 gGt (dCall 2 zi (zg (dVar 0) (zg (dC (.int 4)) dNil))) (dC (.int 0)))) (dAsg (dCall 2 j9 (zg (dVar 0) (zg (dFrz (dLst (zg (dC (.str "b")) (zg (dC (.str "ab")) (zg (dC (.str "red")) (zg (dC (.str "zz")) dNil)))))) dNil))) (gSet 6 (dVar 8))) uf)
 (dAsg (dCall 2 j9 (zg (dVar 0) (zg (dFrz (dLst (zg (dC (.int 1)) (zg (dC (.int 1)) (zg (dC (.int 2)) (zg (dC (.int 3)) (zg (d2 gAdd (dC (.int 1)) (dCall 2 zi (zg (dVar 0) (zg (dC (.int 9)) dNil)))) (zg (d2 gPow (dC (.int 10)) (dC (.int 6))) dNil)))))))) dNil))) (gSet 7 (dVar 8)))))
 (dSeq (yf 9 zay)
 (dSeq (dFor (dIL (dFrz (dLst (zg (dC (.str "red")) (zg (dC (.str "ab")) (zg (dC (.str "b")) (zg (dC (.str "zz")) (zg (dC (.str "new")) dNil)))))))) (gN 10)
 (dIfS (dTst (d2VV (gEqA false) (dVF (dCall 2 zi (zg (dVar 0) (zg (dC (.int 3)) dNil)))) (dVF (dC (.int 0))))) (dAsg (d2 gAdd (dC (.int 1)) (dCall 2 zi (zg (dVar 0) (zg (dC (.int 12)) dNil)))) (gSet 9 (dVar 10))) uf))
 (dRet (dTup (zg (dVar 2) (zg (dVar 6) (zg (dVar 7) (zg (dVar 9) dNil))))))))))))
def zbe : DS :=
 (zcg (dDc (.dk []) (dIIt (dVar 1)) (gTp 2 (zw (gN 2) (zw (gN 3) jm))) dYes (ziq (dIT (d2V gIx (dVV 0) (dVar 3))) (gN 4) dYes (zaj (dVar 4) (dVar 2)) [4]) [2, 3, 4]))
def y7 : DS :=
 (dSeq (yf 3 (dLst dNil))
 (dSeq (dFor (dIEn (zg (dVar 1) dNil)) (gTp 2 (zw (gN 4) (zw (gN 5) jm)))
 (dExt 3 (dLc (dIT (dVar 5)) (gN 6) (dAnd (dTst (d2W (gInB false) (dVar 6) (dVV 0))) (dTst (d2VV (gEqA true) (dVF (zjs (dVV 2) (d2V gIx (dVV 0) (dVar 6)))) (dVV 4)))) (dVar 6) [6])))
 (zcg (d1O uq (jn (dVV 3) vNil)))))
def y8 : DS :=
 (dSeq (yf 3 zpm)
 (dSeq (dFor (dIEn (zg (dVar 1) dNil)) (gTp 2 (zw (gN 4) (zw (gN 5) jm)))
 (dFor (dIT (dVar 5)) (gN 6)
 (dIfS (dTst (d2W (gInB false) (dVar 6) (dVV 0))) (dSeq (dAsg (dTup (zg (d2V gIx (dVV 0) (dVar 6)) (zg (dVar 4) dNil))) (gN 7))
 (dAsg (d2 gAdd (zuc (dVV 3) (dVar 7) (dC (.int 0))) (d2V gIx (dVV 2) (dVar 6))) (gSet 3 (dVar 7)))) uf)))
 (zbn 3)))
def yi : DS :=
 (dSeq (yf 2 (dDc (.dk []) (dIKs (dVar 0)) (gTp 2 (zw (gN 3) (zw (gN 4) jm))) dYes (zaj (dVar 4) (dC (.int 0))) [3, 4]))
 (dSeq (dAsg (dC (.bl true)) (gN 5))
 (dSeq (zc5 (dTst (dVar 5))
 (dSeq (dAsg (dC (.bl false)) (gN 5))
 (dFor (zpu (dVar 0)) (gTp 2 (zw (gN 6) (zw (gN 7) jm)))
 (dSeq (dAsg (dVar 6) (gTp 2 (zw (gN 3) (zw (gN 4) jm))))
 (dSeq (dAsg (dVar 7) (gN 8))
 (dSeq (dIfS (dTst (d2W (gInB false) (dVar 3) (dVV 1))) (dAug 8 (fun i j => i + j) (d2 gSub (d2V gIx (dVV 2) (d2V gIx (dVV 1) (dVar 3))) (d2V gIx (dVV 0) (dTup (zg (dVar 3) (zg (d2V gIx (dVV 1) (dVar 3)) dNil)))))) uf)
 (dIfS (dTst (d2 gGt (dVar 8) (d2V gIx (dVV 2) (dVar 4)))) (dSeq (dAsg (dVar 8) (gSet 2 (dVar 4)))
 (dAsg (dC (.bl true)) (gN 5))) uf)))))))
 (zbn 2))))
def zar (qw : DSp) : DS :=
 (dSeq (dAsg (dCall 2 qw (zg (dVar 0) (zg (dVar 1) dNil))) (gN 2))
 (dSeq (yf 3 (dDc (.dk []) (dIKs (dVar 0)) (gTp 2 (zw (gN 4) (zw (gN 5) jm))) dYes (zaj (dVar 4) (dC (.int 0))) [4, 5]))
 (dSeq (dFor (dIIt (dVar 1)) (gTp 2 (zw (gN 4) (zw (gN 5) jm)))
 (dAsg (d2 gSub (d2V gIx (dVV 0) (dTup (zg (dVar 4) (zg (dVar 5) dNil)))) (d2V gIx (dVV 2) (dVar 5))) (gSet 3 (dVar 4))))
 (zbn 3))))
def y9 : DS :=
 (dSeq (zqm 1)
 (dSeq (dFor (dIL (dFrz (d1O uq (jn (dVV 0) vNil)))) (gN 2)
 (dSeq (zd9 1 (d2V gIx (dVV 2) (dC (.int 0))) zay)
 (dAsg (d2V gIx (dVV 0) (dVar 2)) (zum 1 (d2V gIx (dVV 2) (dC (.int 0))) (d2V gIx (dVV 2) (dC (.int 1)))))))
 (dRet (zlp 1))))
def zas : DS :=
 (dSeq (yf 3 (dDc (.dk []) (dIKs (dVar 0)) (gN 4) dYes (zaj (dVar 4) (dC (.int 0))) [4]))
 (dSeq (yf 5 zay)
 (dSeq (dAsg (dC (.bl true)) (gN 6))
 (dSeq (zc5 (dTst (dVar 6))
 (dSeq (dAsg (dC (.bl false)) (gN 6))
 (dFor (dIIt (dVar 0)) (gTp 2 (zw (gN 4) (zw (gN 7) jm)))
 (dFor (dIIt (dVar 7)) (gTp 2 (zw (gN 8) (zw (gN 9) jm)))
 (dSeq (dAsg (dVar 9) (gN 10))
 (dSeq (dIfS (dTst (d2W (gInB false) (dVar 8) (dVV 2))) (dSeq (dAsg (d2V gIx (dVV 2) (dVar 8)) (gN 11))
 (dAug 10 (fun i j => i + j) (d2 gSub (d2V gIx (dVV 3) (dVar 11)) (d2V gIx (dVF (d2V gIx (dVV 0) (dVar 11))) (dVar 8))))) uf)
 (dIfS (dAnd (dTst (d2 gGt (dVar 10) (d2V gIx (dVV 3) (dVar 4)))) (dTst (d2VV (gEqA true) (dVF (zjs (dVV 1) (dVar 4))) (dVV 8)))) (dSeq (dAsg (dTup (zg (dVar 10) (zg (dVar 8) dNil))) (gTp 2 (zw (gSet 3 (dVar 4)) (zw (gSet 5 (dVar 4)) jm))))
 (dAsg (dC (.bl true)) (gN 6))) uf)))))))
 (zbn 5)))))
def uz (xk : DSp) (xw : DSp) : DS :=
 (dSeq (dAsg (dCall 1 xk (zg (dVar 0) dNil)) (gN 1))
 (dSeq (dPar [2, 3, 4] (dmO zay (dmO zay (dmO zay zd1))))
 (dSeq (dFor (dIIt (dVar 1)) (gTp 2 (zw (gN 5) (zw (gN 6) jm)))
 (dSeq (dAsg (dVar 6) (gSet 2 (dVar 5)))
 (dSeq (dAsg (dFrz (zuo [2, 3, 4] (zil 3 xw (zg (dVar 2) (zg (dVar 3) (zg (dVar 4) dNil)))))) (gN 7))
 (dSeq (dAsg (dVar 5) (gN 8))
 (dSeq (zc5 (dTst (d2W (gInN false) (dVar 8) (dVV 7)))
 (dSeq (dAsg (d2V gIx (dVV 7) (dVar 8)) (gN 9))
 (dSeq (dAsg (zjs (dVV 4) (dVar 9)) (gN 10))
 (dSeq (dAsg (dTup (zg (dVar 9) (zg (dVar 8) dNil))) (gTp 2 (zw (gSet 3 (dVar 8)) (zw (gSet 4 (dVar 9)) jm))))
 (dAsg (dVar 10) (gN 8))))))
 (zt9 (zjy 3 (dVar 8) (dC .non))))))))
 (zbn 3))))
def zaa : DS :=
 (zcg (d1O uq (jn (dVF (dFrz (dDc (.dk []) (dIKs (dVar 0)) (gTp 2 (zw (gN 1) (zw (gN 2) jm))) dYes (zaj (dVar 1) (dC (.bl true))) [1, 2]))) vNil)))
def yv : DS :=
 (zcg (d1O uq (jn (dVF (dFrz (dDc (.dk []) (dIKs (dVar 0)) (gTp 2 (zw (gN 1) (zw (gN 2) jm))) dYes (zaj (dVar 2) (dC (.bl true))) [1, 2]))) vNil)))
def zab (xl : DSp) (q9 : DSp) : DS :=
 (dSeq (dPar [2, 3] (dmF (dCall 1 xl (zg (dVar 0) dNil)) (dmF (dCall 1 q9 (zg (dVar 0) dNil)) zd1)))
 (dSeq (yf 4 (dLst (zg (dC (.int 1)) dNil)))
 (dSeq (dFor (dIL (dVar 2)) (gN 5)
 (dApp 4 (d2 gMul (d2V gIx (dVV 4) (dNeg (dC (.int 1)))) (d2 gAdd (d1V gLen (dVV 3)) (dC (.int 1))))))
 (dSeq (yf 6 zpm)
 (dSeq (dFor (zpu (dVar 0)) (gTp 2 (zw (gN 7) (zw (gN 8) jm)))
 (dSeq (dAsg (dVar 7) (gTp 2 (zw (gN 5) (zw (gN 9) jm))))
 (dSeq (dAsg (zpl (d2 zgv (dVar 1) (dC .non)) (zpl (d2W (gInB false) (dVar 5) (dVV 1)) (d2VV (gEqA false) (dVF (d2V gIx (dVV 1) (dVar 5))) (dVV 9)))) (gN 10))
 (dSeq (dAsg (d2 gMul (d2 gSub (d1V gLen (dVV 3)) (zlo (dVV 3) (dVar 9))) (d2V gIx (dVV 4) (d2 gSub (d2 gSub (d1V gLen (dVV 2)) (dC (.int 1))) (zlo (dVV 2) (dVar 5))))) (gN 11))
 (dSeq (dAsg (d2 gAdd (d2 gMul (d2 gAdd (d2 gMul (dVar 8) (d2 gAdd (d1V gLen (dVV 2)) (dC (.int 1)))) (dC (.int 1))) (d2 gAdd (d1V gLen (dVV 2)) (dC (.int 1)))) (d1 gInt (jn (dVV 10) vNil))) (gN 12))
 (dAsg (d2 gAdd (d2 gMul (dVar 12) (d2V gIx (dVV 4) (d1V gLen (dVV 2)))) (dVar 11)) (gSet 6 (dVar 7))))))))
 (zbn 6))))))
def yj (zr : DSp) (xm : DSp) : DS :=
 (zcg (zil 1 zr (zg (zel 1 1 2 xm (zg (dVar 0) dNil) (zg (dVar 1) dNil) (fun ds zs => ord3 [(0, 0), (2, 0)] ds [] zs)) dNil)))
def zac (xx : DSp) (zt : DSp) : DS :=
 (zcg (zil 2 xx (zg (dVar 0) (zg (zel 1 0 2 zt (zg (dVar 0) dNil) dNil (fun ds zs => ord3 [(0, 0), (1, 0)] ds [.non] zs)) dNil))))
def u1 : DS :=
 (dRet (d1 gSum (jn (dVF (dFrz (dLc (dIIt (dVar 1)) (gTp 2 (zw (gN 2) (zw (gN 3) jm))) dYes (d2V gIx (dVV 0) (dTup (zg (dVar 2) (zg (dVar 3) dNil)))) [2, 3]))) vNil)))
def u3 (zr : DSp) (qi : DSp) : DS :=
 (dRet (dCall 2 qi (zg (dVar 0) (zg (dCall 1 zr (zg (dVar 0) dNil)) dNil))))
def v0 (zi : DSp) (zv : DSp) (qu : DSp) (qc : DSp) : DS :=
 (dSeq (dAsg (dCall 3 zv (zg (dVar 1) (zg (dVar 2) (zg (dVar 3) dNil)))) (gN 4))
 (dSeq (yf 5 (d1O zqh (jn (dVV 3) vNil)))
 (dSeq (dAsg (d2 gAdd (dC (.int 1)) (dCall 2 zi (zg (dVar 0) (zg (dC (.int 9)) dNil)))) (gN 6))
 (dSeq (dAsg (d2 gAdd (dC (.int 1)) (dCall 2 zi (zg (dVar 0) (zg (dC (.int 12)) dNil)))) (gSet 5 (dVar 6)))
 (dSeq (dAsg (d1 gAbs (jn (dVF (d2 gSub (d2V gIx (dVV 5) (dVar 6)) (d2V gIx (dVV 3) (dVar 6)))) vNil)) (gN 7))
 (dSeq (dAsg (dCall 3 zv (zg (dVar 1) (zg (dVar 2) (zg (dVar 5) dNil)))) (gN 8))
 (dSeq (dIfS (dTst (d2 gGt (d1 gAbs (jn (dVF (d2 gSub (dCall 1 qc (zg (dVar 8) dNil)) (dCall 1 qc (zg (dVar 4) dNil)))) vNil)) (dVar 7))) (dRet (dC (.bl false))) uf)
 (dSeq (dPar [9, 10] (dmF (dCall 1 qu (zg (dVar 4) dNil)) (dmF (dCall 1 qu (zg (dVar 8) dNil)) zd1)))
 (dSeq (dIfS (dTst (d2VV (gEqA true) (dVF (dFrz (d1O uq (jn (dVV 9) vNil)))) (dVF (dFrz (d1O uq (jn (dVV 10) vNil)))))) (dRet (dC (.bl false))) uf)
 (dRet (d2VV (gEqA false) (dVF (dFrz (dLc (dIKs (dVar 9)) (gN 11) (dTst (d2 gGt (d1 gAbs (jn (dVF (d2 gSub (d2V gIx (dVV 9) (dVar 11)) (d2V gIx (dVV 10) (dVar 11)))) vNil)) (dVar 7))) (dVar 11) [11]))) (dVF (dFrz (dLst dNil))))))))))))))
def zbf : DS :=
 (zcg (dDc (.dk []) (dIEn (zg (dVar 0) dNil)) (gTp 2 (zw (gN 1) (zw (gN 2) jm))) dYes (ziq (dIT (dVar 2)) (gN 3) dYes (zaj (dVar 3) (dVar 1)) [3]) [1, 2, 3]))
def yk (zq : DSp) : DS :=
 (dSeq (dAsg (dCall 1 zq (zg (dVar 0) dNil)) (gN 2))
 (dSeq (yf 3 zay)
 (dSeq (yf 4 zay)
 (dSeq (dFor (dIL (dFrz (d1O uq (jn (dVV 1) vNil)))) (gN 5)
 (dSeq (dAsg (zjs (dVV 2) (d2V gIx (dVV 1) (dVar 5))) (gN 6))
 (dIfS (dAnd (dTst (d2 zgv (dVar 6) (dC .non))) (dTst (d2W (gInN true) (dVar 6) (dVV 4)))) (dSeq (dAsg (dVar 5) (gSet 4 (dVar 6)))
 (dAsg (d2V gIx (dVV 1) (dVar 5)) (gSet 3 (dVar 5)))) uf)))
 (zbn 3)))))
def zdh : DS :=
 (zcg (dDc (.dt []) (dIKs (dVar 0)) (gN 3) (dAnd (dTst (d2W (gInE true) (d2V gIx (dVV 3) (dC (.int 0))) (dVV 1))) (dTst (d2W (gInE true) (d2V gIx (dVV 3) (dC (.int 1))) (dVV 2)))) (zaj (dVar 3) (d2V gIx (dVV 0) (dVar 3))) [3]))
def zat (zv : DSp) (zq : DSp) (vi : DSp) : DS :=
 (dSeq (dAsg (dCall 1 zq (zg (dVar 1) dNil)) (gN 4))
 (dSeq (zjx 5 (dLc (dIVs (dVar 3)) (gN 6) dYes (d2V gIx (dVV 4) (dVar 6)) [6]))
 (dRet (zel 1 2 3 vi (zg (dCall 3 zv (zg (dVar 0) (zg (dVar 1) (zg (dVar 2) dNil)))) dNil) (zg (dFrz (d1O zll (jn (dVV 3) vNil))) (zg (dVar 5) dNil)) (fun ds zs => ord3 [(0, 0), (2, 0), (2, 1)] ds [] zs)))))
def zau (zt : DSp) (zq : DSp) (qx : DSp) (xy : DSp) : DS :=
 (dSeq (dAsg (dCall 2 qx (zg (dVar 1) (zg (dIf (dTst (d2 gIsN (dVar 3) (dC .non))) (dFrz zay) (dVar 3)) dNil))) (gN 5))
 (dSeq (dAsg (dCall 1 zq (zg (dVar 1) dNil)) (gN 6))
 (dSeq (zjx 7 (dDc (.dk []) (dIIt (dVar 5)) (gTp 2 (zw (gN 8) (zw (gN 9) jm))) dYes (zaj (dVar 8) (d2V gIx (dVV 6) (dVar 9))) [8, 9]))
 (zcg (dMrg (dVar 7) (zel 1 1 2 zt (zg (dCall 4 xy (zg (dVar 0) (zg (dVar 1) (zg (dVar 2) (zg (dVar 5) dNil))))) dNil) (zg (dVar 4) dNil) (fun ds zs => ord3 [(0, 0), (2, 0)] ds [] zs)))))))
def zl8 (ut : DSp) (x0 : DSp) (jb : DSp) (ya : DSp) (xn : DSp) (z9 : DSp) (x3 : DSp) : DS :=
 (dSeq (dFor (dIR1 (zg (dC (.int 4)) dNil)) (gN 1)
 (dSeq (dAsg (dCall 2 ut (zg (dVar 0) (zg (dVar 1) dNil))) (gN 2))
 (dSeq (dAsg (dCall 1 x0 (zg (dVar 2) dNil)) (gTp 4 (zw (gN 3) (zw (gN 4) (zw (gN 5) (zw (gN 6) jm))))))
 (dSeq (dIfS (dTst (d2VV (gEqA true) (dVV 3) (dVF (dFrz (dLst dNil))))) (dSeq (dAsg (dFrz (d1O zmu (jn (dVF (dFrz (dLc (dIR1 (zg (d1V gLen (dVV 3)) dNil)) (gN 8) dYes (dTup (zg (d2V gIx (dVF (dFrz (dLst (zg (dC (.str "zz")) (zg (dC (.str "a")) (zg (dC (.str "red")) (zg (dC (.str "b")) dNil))))))) (dVar 8)) (zg (dVar 8) dNil))) [8]))) vNil))) (gN 7))
 (dSeq (dAsg (dCall 2 jb (zg (dVar 3) (zg (dVar 7) dNil))) (gN 9))
 (dSeq (dAsg (dCall 2 ya (zg (dVar 2) (zg (dVar 3) dNil))) (gTp 2 (zw (gN 10) (zw (gN 11) jm))))
 (dSeq (dAsg (dCall 3 xn (zg (dVar 9) (zg (dVar 10) (zg (zel 3 0 5 x3 (zg (dVar 9) (zg (dVar 10) (zg (dVar 5) dNil))) dNil (fun ds zs => ord3 [(0, 0), (0, 1), (0, 2), (1, 0), (1, 1)] ds [.non, .non] zs)) dNil)))) (gN 12))
 (dIfS (dTst (d2 gGt (d1 gSum (jn (dVF (dFrz (dLc (dIL (dVar 12)) (gN 13) dYes (d2V gIx (dVV 5) (dVar 13)) [13]))) vNil)) (d1 gSum (jn (dVF (dFrz (dLc (dIL (dVar 11)) (gN 13) dYes (d2V gIx (dVV 5) (dVar 13)) [13]))) vNil)))) (dRet (dC (.bl false))) uf))))) uf)
 (dIfS (dNot (dTst (dCall 4 z9 (zg (dVar 2) (zg (dVar 4) (zg (dVar 3) (zg (dVar 5) dNil))))))) (dRet (dC (.bl false))) uf)))))
 (dRet (dC (.bl true))))
end
section
variable [CTb]
@[irreducible] def zbg (stream_here : Unit) (Q : ((List (List Int)) × (List (Int × Sg)) × (List (Int × Int)) × (List (Sg × Int))) → Prop) : Prop :=
 rgW (1 : Int) (10 : Int) fun t_ => zc3 t_ ([] : (List (List Int))) fun left groups =>
 qr stream_here (5 : Int) fun t_1 => zan 0 t_1 fun t_2 => yn t_2 left groups (fun (x_ : Int) (left2 : (List Int)) (groups2 : (List (List Int))) nxt =>
   asgW ([] : (List Int)) fun group =>
   qr stream_here (3 : Int) fun t_3 => zan 0 ((1 : Int) + t_3) fun t_4 => yn t_4 left2 group (fun (x_1 : Int) (left4 : (List Int)) (group2 : (List Int)) nxt1 =>
     ifW (!eqB left4 ([] : (List Int)))
      (qr stream_here (left4.length : Int) fun t_5 => popW left4 t_5 fun t_6 left5 => appW group2 t_6 fun group3 =>
       nxt1 left5 group3)
      (nxt1 left4 group2)) (fun (left3 : (List Int)) (group1 : (List Int)) =>
     zx (group1.length ≤ 16777216) <| zx (-(2 ^ 63) ≤ (if (!eqB group1 ([] : (List Int))) = true then (1 : Int) else 0) ∧ (if (!eqB group1 ([] : (List Int))) = true then (1 : Int) else 0) < 2 ^ 63 ∧ ([(z4 D.int group1)] : (List (List Int))).length * ((if (!eqB group1 ([] : (List Int))) = true then (1 : Int) else 0)).toNat ≤ sizeLine) <| zx (groups2.length + (List.replicate ((if (!eqB group1 ([] : (List Int))) = true then (1 : Int) else 0)).toNat ([(z4 D.int group1)] : (List (List Int)))).flatten.length ≤ sizeLine) <| asgW (groups2 ++ (List.replicate ((if (!eqB group1 ([] : (List Int))) = true then (1 : Int) else 0)).toNat ([(z4 D.int group1)] : (List (List Int)))).flatten) fun groups3 =>
     nxt left3 groups3)) (fun (left1 : (List Int)) (groups1 : (List (List Int))) =>
   zc3 ([] : (List (Int × Sg))) ([] : (List (Int × Int))) fun labels weights =>
   zan (1 : Int) (10 : Int) fun t_7 => yn t_7 labels weights (fun (x_2 : Int) (labels2 : (List (Int × Sg))) (weights2 : (List (Int × Int))) nxt2 =>
     zd3 (fun (labels3 : (List (Int × Sg))) =>
       qr stream_here (9 : Int) fun t_10 => zx (CPw (10 : Int) (6 : Int)) <| yz () ([(1 : Int), (1 : Int), (2 : Int), (3 : Int), ((1 : Int) + t_10), ((10 : Int) ^ ((6 : Int)).toNat)] : (List Int)) fun t_11 => putW weights2 x_2 t_11 fun weights3 =>
       nxt2 labels3 weights3) fun cont =>
     qr stream_here (4 : Int) fun t_8 => ifW (decide ((0 : Int) < t_8))
      (yz () ([za8, zl6, za9, zcn] : (List Sg)) fun t_9 => putW labels2 x_2 t_9 fun labels4 =>
     cont labels4)
      (cont labels2)) (fun (labels1 : (List (Int × Sg))) (weights1 : (List (Int × Int))) =>
     asgW ([] : (List (Sg × Int))) fun stuck =>
     xo ([za9, zl6, za8, zcn, zt4] : (List Sg)) stuck (fun (x_3 : Sg) (stuck2 : (List (Sg × Int))) nxt3 =>
       qr stream_here (3 : Int) fun t_12 => ifW (eqB t_12 (0 : Int))
        (qr stream_here (12 : Int) fun t_13 => putW stuck2 x_3 ((1 : Int) + t_13) fun stuck3 =>
         nxt3 stuck3)
        (nxt3 stuck2)) (fun (stuck1 : (List (Sg × Int))) =>
       retW (groups1, labels1, weights1, stuck1) Q)))
def x0 : DSp := fun ds Q' => ∃ (stream_here : Unit) (K : ((List (List Int)) × (List (Int × Sg)) × (List (Int × Int)) × (List (Sg × Int))) → Prop), ds = [qv stream_here] ∧ zbg stream_here K ∧ ∀ r, K r → Q' (.fz ((eP4 (eL (eT D.int)) (eK kI sD) (eK kI D.int) (eK kS D.int)) r))
theorem zrl (ds : List D) (Q' : S → Prop) (h : x0 ds Q') : zaq zah zdb (DEnds.of Q') (zp 11 ds) := by
  obtain ⟨stream_here, Q, rfl, h, hQ⟩ := h
  show zaq zah zdb (DEnds.of Q') [(fz (qv stream_here)), none, none, none, none, none, none, none, none, none, none]
  unfold zaq
  unfold zbg at h
  refine (zg8 (sm_O (z1y (se_c D.int 1 rfl) (se_c D.int 10 rfl)) (sm_F (xg (e := (eL (eT D.int))) (yt (fun _ => ([] : (List (List Int)))) (eT D.int) 0 zl (fun _ => rfl) (fun _ => rfl) (Nat.zero_le _)) (fun _ => rfl)) ziu)) h (fun _ => rfl) ?_)
  intro left groups h
  refine (zg9 (fun (left1 : (List Int)) (groups1 : (List (List Int))) (j_ : Z × Z × Z × Unit) => [(fz (qv stream_here)), (ow ((oL D.int) left1)), (fz ((eL (eT D.int)) groups1)), j_.1, j_.2.1, j_.2.2.1, none, none, none, none, none]) (none, none, none, ()) (zpz (zf (z5 (er := D.int) (zf (zc 0 qv stream_here rfl) (zf (se_c D.int 5 rfl) zl)) (fun _ => rfl) (fun s => qr s.1 s.2.1) (fun s K Q h c => za7 s K Q h (fun r hr => c r _ hr rfl))) zl)) h ?_ ?_)
  · intro N x_ left2 groups2 j_1 nxt hN_nxt h
    refine xj ?_
    refine (v6 (yt (fun _ => ([] : (List Int))) D.int 0 zl (fun _ => rfl) (fun _ => rfl) (Nat.zero_le _)) h ?_)
    intro group h
    refine (zg9 (fun (left3 : (List Int)) (group1 : (List Int)) (j_2 : Z × Unit) => [(fz (qv stream_here)), (ow ((oL D.int) left3)), (fz ((eL (eT D.int)) groups2)), (fz (D.int x_)), (ow ((oL D.int) group1)), j_2.1, none, none, none, none, none]) (j_1.2.2.1, ()) (zpz (zf (qz u9 (se_c D.int 1 rfl) (z5 (er := D.int) (zf (zc 0 qv stream_here rfl) (zf (se_c D.int 3 rfl) zl)) (fun _ => rfl) (fun s => qr s.1 s.2.1) (fun s K Q h c => za7 s K Q h (fun r hr => c r _ hr rfl)))) zl)) h ?_ ?_)
    · intro N x_1 left4 group2 j_3 nxt1 hN_nxt1 h
      refine xj ?_
      refine (za6 (xt (za4 (zfd (by decide)) (sv_o 1 left4 (o := (oL D.int) left4) rfl) (sv_v (xg (e := (eL D.int)) (yt (fun _ => ([] : (List Int))) D.int 0 zl (fun _ => rfl) (fun _ => rfl) (Nat.zero_le _)) (fun _ => rfl))) (um (o := (oL D.int) left4) rfl rfl) zj)) h ?_ ?_)
      · intro h
        refine (zwd rfl rfl (z5 (er := D.int) (zf (zc 0 qv stream_here rfl) (zf (zdc zcc (sv_o 1 left4 (o := (oL D.int) left4) rfl) (um (o := (oL D.int) left4) rfl rfl)) zl)) (fun _ => rfl) (fun s => qr s.1 s.2.1) (fun s K Q h c => za7 s K Q h (fun r hr => c r _ hr rfl))) rfl (fun _ => rfl) h ?_)
        intro left5 group3 h
        exact hN_nxt1 left5 group3 ((fz (D.int x_1)), ()) h
      · intro h
        exact hN_nxt1 left4 group2 ((fz (D.int x_1)), ()) h
    · intro left3 group1 j_2 h
      refine (ziz (xg (e := (eL (eT D.int))) (zzt z1w (sv_f 2 (eL (eT D.int)) groups2 rfl) (sv_v (xg (e := (eL (eT D.int))) (z1z (yt (fun s => [s.1]) (eT D.int) 1 (zf (zd2 zzy (sv_v (xg (e := (eL D.int)) (zcj zkm (sv_o 4 group1 (o := (oL D.int) group1) rfl) (um (o := (oL D.int) group1) rfl rfl)) (fun _ => rfl))) zj) zl) (fun _ => rfl) (fun _ => rfl) (by show 1 ≤ sizeLine; decide)) (zd2 ztm (sv_v (za4 (zfd (by decide)) (sv_o 4 group1 (o := (oL D.int) group1) rfl) (sv_v (xg (e := (eL D.int)) (yt (fun _ => ([] : (List Int))) D.int 0 zl (fun _ => rfl) (fun _ => rfl) (Nat.zero_le _)) (fun _ => rfl))) (um (o := (oL D.int) group1) rfl rfl) zj)) zj)) (fun _ => rfl))) zj zj) (fun _ => rfl)) h ?_)
      intro groups3 h
      exact hN_nxt left3 groups3 ((fz (D.int x_)), (ow ((oL D.int) group1)), j_2.1, ()) h
  · intro left1 groups1 j_ h
    refine (zg8 (sm_O (yu (e := sD) (f := kI)) (sm_O (yu (e := D.int) (f := kI)) ziu)) h (fun _ => rfl) ?_)
    intro labels weights h
    refine (zg9 (fun (labels1 : (List (Int × Sg))) (weights1 : (List (Int × Int))) (j_4 : Z × Unit) => [(fz (qv stream_here)), (ow ((oL D.int) left1)), (fz ((eL (eT D.int)) groups1)), j_.1, j_.2.1, j_.2.2.1, (ow ((oK kI sD) labels1)), (ow ((oK kI D.int) weights1)), j_4.1, none, none]) (none, ()) (z2x (zf (se_c D.int 1 rfl) (zf (se_c D.int 10 rfl) zl))) h ?_ ?_)
    · intro N x_2 labels2 weights2 j_5 nxt2 hN_nxt2 h
      refine xj ?_
      refine zkn (fun (labels3 : (List (Int × Sg))) (j_6 : Unit) => [(fz (qv stream_here)), (ow ((oL D.int) left1)), (fz ((eL (eT D.int)) groups1)), j_.1, j_.2.1, j_.2.2.1, (ow ((oK kI sD) labels3)), (ow ((oK kI D.int) weights2)), (fz (D.int x_2)), none, none]) h ?_ ?_
      · intro labels3 j_6 h
        refine (zeb (fun _ => rfl) (z5 (er := D.int) (zf (zc 0 qv stream_here rfl) (zf (xg (e := (eL D.int)) (yt (fun s => [s.1, s.2.1, s.2.2.1, s.2.2.2.1, s.2.2.2.2.1, s.2.2.2.2.2.1]) D.int 6 (zf (se_c D.int 1 rfl) (zf (se_c D.int 1 rfl) (zf (se_c D.int 2 rfl) (zf (se_c D.int 3 rfl) (zf (qz u9 (se_c D.int 1 rfl) (z5 (er := D.int) (zf (zc 0 qv stream_here rfl) (zf (se_c D.int 9 rfl) zl)) (fun _ => rfl) (fun s => qr s.1 s.2.1) (fun s K Q h c => za7 s K Q h (fun r hr => c r _ hr rfl)))) (zf (qz z1u (se_c D.int 10 rfl) (se_c D.int 6 rfl)) zl)))))) (fun _ => rfl) (fun _ => rfl) (by show 6 ≤ sizeLine; decide)) (fun _ => rfl)) zl)) (fun _ => rfl) (fun s => yz s.1 s.2.1) (fun s K Q h c => zlv s K Q h (fun r hr => c r _ hr rfl))) (zc 8 D.int x_2 rfl) rfl rfl h ?_)
        intro weights3 h
        exact hN_nxt2 labels3 weights3 ((fz (D.int x_2)), ()) h
      · intro cont hJ_cont h
        refine (za6 (xt (qz zj1 (z5 (er := D.int) (zf (zc 0 qv stream_here rfl) (zf (se_c D.int 4 rfl) zl)) (fun _ => rfl) (fun s => qr s.1 s.2.1) (fun s K Q h c => za7 s K Q h (fun r hr => c r _ hr rfl))) (se_c D.int 0 rfl))) h ?_ ?_)
        · intro h
          refine (zeb (fun _ => rfl) (z5 (er := sD) (zf (zc 0 qv stream_here rfl) (zf (xg (e := (eL sD)) (yt (fun s => [s.1, s.2.1, s.2.2.1, s.2.2.2.1]) sD 4 (zf (se_c sD za8 rfl) (zf (se_c sD zl6 rfl) (zf (se_c sD za9 rfl) (zf (se_c sD zcn rfl) zl)))) (fun _ => rfl) (fun _ => rfl) (by show 4 ≤ sizeLine; decide)) (fun _ => rfl)) zl)) (fun _ => rfl) (fun s => yz s.1 s.2.1) (fun s K Q h c => zlv s K Q h (fun r hr => c r _ hr rfl))) (zc 8 D.int x_2 rfl) rfl rfl h ?_)
          intro labels4 h
          exact hJ_cont labels4 (()) h
        · intro h
          exact hJ_cont labels2 (()) h
    · intro labels1 weights1 j_4 h
      refine (v6 (yu (e := D.int) (f := kS)) h ?_)
      intro stuck h
      refine (zb0 (fun (stuck1 : (List (Sg × Int))) (j_7 : Z × Unit) => [(fz (qv stream_here)), (ow ((oL D.int) left1)), (fz ((eL (eT D.int)) groups1)), j_.1, j_.2.1, j_.2.2.1, (ow ((oK kI sD) labels1)), (ow ((oK kI D.int) weights1)), j_4.1, (ow ((oK kS D.int) stuck1)), j_7.1]) (none, ()) (si_L (xg (e := (eL sD)) (yt (fun s => [s.1, s.2.1, s.2.2.1, s.2.2.2.1, s.2.2.2.2.1]) sD 5 (zf (se_c sD za9 rfl) (zf (se_c sD zl6 rfl) (zf (se_c sD za8 rfl) (zf (se_c sD zcn rfl) (zf (se_c sD zt4 rfl) zl))))) (fun _ => rfl) (fun _ => rfl) (by show 5 ≤ sizeLine; decide)) (fun _ => rfl))) h ?_ ?_)
      · intro N x_3 stuck2 j_8 nxt3 hN_nxt3 h
        refine xj ?_
        refine (za6 (xt (za4 (zut (by decide)) (sv_v (z5 (er := D.int) (zf (zc 0 qv stream_here rfl) (zf (se_c D.int 3 rfl) zl)) (fun _ => rfl) (fun s => qr s.1 s.2.1) (fun s K Q h c => za7 s K Q h (fun r hr => c r _ hr rfl)))) (sv_v (se_c D.int 0 rfl)) zj zj)) h ?_ ?_)
        · intro h
          refine (zeb (fun _ => rfl) (qz u9 (se_c D.int 1 rfl) (z5 (er := D.int) (zf (zc 0 qv stream_here rfl) (zf (se_c D.int 12 rfl) zl)) (fun _ => rfl) (fun s => qr s.1 s.2.1) (fun s K Q h c => za7 s K Q h (fun r hr => c r _ hr rfl)))) (zc 10 sD x_3 rfl) rfl rfl h ?_)
          intro stuck3 h
          exact hN_nxt3 stuck3 ((fz (sD x_3)), ()) h
        · intro h
          exact hN_nxt3 stuck2 ((fz (sD x_3)), ()) h
      · intro stuck1 j_7 h
        exact zam (zdd (fun s => (s.1, s.2.1, s.2.2.1, s.2.2.2.1)) (eP4 (eL (eT D.int)) (eK kI sD) (eK kI D.int) (eK kS D.int)) 4 (zf (zc 2 (eL (eT D.int)) groups1 rfl) (zf (zj0 6 (eK kI sD) labels1 (o := (oK kI sD) labels1) rfl rfl) (zf (zj0 7 (eK kI D.int) weights1 (o := (oK kI D.int) weights1) rfl rfl) (zf (zj0 9 (eK kS D.int) stuck1 (o := (oK kS D.int) stuck1) rfl rfl) zl)))) (fun _ => rfl) (fun _ => rfl) (by show 4 ≤ sizeLine; decide)) h (hQ)
@[irreducible] def zbh (groups : (List (List Int))) (names : (List (Sg × Int))) (Q : (List (Int × Sg)) → Prop) : Prop :=
 x4 names ([] : (List (Int × Sg))) (fun (x_ : (Sg × Int)) (acc : (List (Int × Sg))) (nxt : (List (Int × Sg)) → Prop) => ixW groups x_.2 fun t_ => x4 t_ acc (fun (x_1 : Int) (acc1 : (List (Int × Sg))) (nxt1 : (List (Int × Sg)) → Prop) => putW acc1 x_1 x_.1 nxt1) nxt) fun t_1 => retW t_1 Q
def jb : DSp := fun ds Q' => ∃ (groups : (List (List Int))) (names : (List (Sg × Int))) (K : (List (Int × Sg)) → Prop), ds = [(eL (eT D.int)) groups, (eK kS D.int) names] ∧ zbh groups names K ∧ ∀ r, K r → Q' (.own ((oK kI sD) r))
theorem zst (ds : List D) (Q' : S → Prop) (h : jb ds Q') : zbe (DEnds.of Q') (zp 5 ds) := by
  obtain ⟨groups, names, Q, rfl, h, hQ⟩ := h
  show zbe (DEnds.of Q') [(fz ((eL (eT D.int)) groups)), (fz ((eK kS D.int) names)), none, none, none]
  unfold zbe
  unfold zbh at h
  exact za5 (zd4 (δh := [(fz ((eL (eT D.int)) groups)), (fz ((eK kS D.int) names)), none, none, none]) (δ2 := [(fz ((eL (eT D.int)) groups)), (fz ((eK kS D.int) names)), none, none, none]) (eo := (oK kI sD)) (body := fun (x_ : (Sg × Int)) (acc : (List (Int × Sg))) (nxt : (List (Int × Sg)) → Prop) => ixW groups x_.2 fun t_ => x4 t_ acc (fun (x_1 : Int) (acc1 : (List (Int × Sg))) (nxt1 : (List (Int × Sg)) → Prop) => putW acc1 x_1 x_.1 nxt1) nxt) ([] : (List (Int × Sg))) (zha (ek := sD) (fun _ => rfl) (zc 1 (eK kS D.int) names rfl)) rfl rfl (fun x_ acc nxt J h hJ => ⟨_, rfl, rfl, _, _, rfl, _, _, rfl, rfl, (zbd (zq2 (eo := (oK kI sD)) (body := fun (x_1 : Int) (acc1 : (List (Int × Sg))) (nxt1 : (List (Int × Sg)) → Prop) => putW acc1 x_1 x_.1 nxt1) (si_T (qf ziw (sv_f 0 (eL (eT D.int)) groups rfl) (zc 3 D.int x_.2 rfl) zj)) rfl (fun x_1 acc1 nxt1 J h hJ => (xj (zbd (zcd (fun _ => rfl) (zc 4 D.int x_1 rfl) (zc 2 sD x_.1 rfl) h hJ rfl)))) h hJ rfl))⟩) rfl) h (hQ)
@[irreducible] def zad (labels : (List (Int × Sg))) (groups : (List (List Int))) (names : (List (Sg × Int))) (Q : (List Int) → Prop) : Prop :=
 asgW ([] : (List Int)) fun found =>
 xo (q8 groups) found (fun (x_ : (Int × (List Int))) (found2 : (List Int)) nxt =>
   lcW x_.2 (fun (x_1 : Int) (k_ : Option Int → Prop) => andW (hasG labels x_1) (fun k_1 => getW labels x_1 fun t_ => k_1 (!eqB (valG names t_) (some x_.1))) fun t_1 => ifW t_1 (k_ (some x_1)) (k_ none)) fun t_2 => zx (found2.length + t_2.length ≤ sizeLine) <| asgW (found2 ++ t_2) fun found3 =>
   nxt found3) (fun (found1 : (List Int)) =>
   zx (found1.length ≤ 16777216) <| retW (z4 D.int found1) Q)
def xn : DSp := fun ds Q' => ∃ (labels : (List (Int × Sg))) (groups : (List (List Int))) (names : (List (Sg × Int))) (K : (List Int) → Prop), ds = [(eK kI sD) labels, (eL (eT D.int)) groups, (eK kS D.int) names] ∧ zad labels groups names K ∧ ∀ r, K r → Q' (.own ((oL D.int) r))
theorem zoc (ds : List D) (Q' : S → Prop) (h : xn ds Q') : y7 (DEnds.of Q') (zp 7 ds) := by
  obtain ⟨labels, groups, names, Q, rfl, h, hQ⟩ := h
  show y7 (DEnds.of Q') [(fz ((eK kI sD) labels)), (fz ((eL (eT D.int)) groups)), (fz ((eK kS D.int) names)), none, none, none, none]
  unfold y7
  unfold zad at h
  refine (v6 (yt (fun _ => ([] : (List Int))) D.int 0 zl (fun _ => rfl) (fun _ => rfl) (Nat.zero_le _)) h ?_)
  intro found h
  refine (zb0 (fun (found1 : (List Int)) (j_ : Z × Z × Z × Unit) => [(fz ((eK kI sD) labels)), (fz ((eL (eT D.int)) groups)), (fz ((eK kS D.int) names)), (ow ((oL D.int) found1)), j_.1, j_.2.1, j_.2.2.1]) (none, none, none, ()) (zux (ei := (eT D.int)) (zf (zc 1 (eL (eT D.int)) groups rfl) zl)) h ?_ ?_)
  · intro N x_ found2 j_1 nxt hN_nxt h
    refine ⟨_, rfl, rfl, _, _, rfl, _, _, rfl, rfl, ?_⟩
    refine (z13 rfl (zhb (body := fun (x_1 : Int) (k_ : Option Int → Prop) => andW (hasG labels x_1) (fun k_1 => getW labels x_1 fun t_ => k_1 (!eqB (valG names t_) (some x_.1))) fun t_1 => ifW t_1 (k_ (some x_1)) (k_ none)) (δh := [(fz ((eK kI sD) labels)), (fz ((eL (eT D.int)) groups)), (fz ((eK kS D.int) names)), (ow ((oL D.int) found2)), (fz (D.int x_.1)), (fz ((eT D.int) x_.2)), none]) (δ2 := [(fz ((eK kI sD) labels)), (fz ((eL (eT D.int)) groups)), (fz ((eK kS D.int) names)), (ow ((oL D.int) found2)), (fz (D.int x_.1)), (fz ((eT D.int) x_.2)), (za1 j_1.2.2.1)]) (e := D.int) (si_T (zc 5 (eT D.int) x_.2 rfl)) rfl (fun x_1 K J1 J0 h hJ1 hJ0 => (xj (ztp (z1r (xt (zci (zge (fun _ => rfl) (fun _ _ _ h => h)) (zc 6 D.int x_1 rfl) (sv_f 0 (eK kI sD) labels rfl) zj)) (xt (za4 (zfd (by decide)) (sv_v (zhc (fun _ => rfl) (sv_f 2 (eK kS D.int) names rfl) (qf (xu (fun _ => rfl)) (sv_f 0 (eK kI sD) labels rfl) (zc 6 D.int x_1 rfl) zj) zj zj)) (sv_f 4 (eO D.int) (some x_.1) rfl) zj zj))) h (fun h => (zen (zc 6 D.int x_1 rfl) h hJ1 rfl)) (fun h => zyu h hJ0 rfl)))) rfl) rfl h ?_)
    intro found3 h
    exact hN_nxt found3 ((fz (D.int x_.1)), (fz ((eT D.int) x_.2)), (za1 j_1.2.2.1), ()) h
  · intro found1 j_ h
    exact za5 (zcj zkm (sv_o 3 found1 (o := (oL D.int) found1) rfl) (um (o := (oL D.int) found1) rfl rfl)) h (hQ)
@[irreducible] def ju (labels : (List (Int × Sg))) (groups : (List (List Int))) (weights : (List (Int × Int))) (Q : (List ((Sg × Int) × Int)) → Prop) : Prop :=
 asgW ([] : (List ((Sg × Int) × Int))) fun found =>
 xo (q8 groups) found (fun (x_ : (Int × (List Int))) (found2 : (List ((Sg × Int) × Int))) nxt =>
   xo x_.2 found2 (fun (x_1 : Int) (found4 : (List ((Sg × Int) × Int))) nxt1 =>
     ifW (hasG labels x_1)
      (getW labels x_1 fun t_ => asgW (t_, x_.1) fun key =>
       getW weights x_1 fun t_1 => putW found4 key (((valG found4 key).getD (0 : Int)) + t_1) fun found5 =>
       nxt1 found5)
      (nxt1 found4)) (fun (found3 : (List ((Sg × Int) × Int))) =>
     nxt found3)) (fun (found1 : (List ((Sg × Int) × Int))) =>
   retW found1 Q)
def zv : DSp := fun ds Q' => ∃ (labels : (List (Int × Sg))) (groups : (List (List Int))) (weights : (List (Int × Int))) (K : (List ((Sg × Int) × Int)) → Prop), ds = [(eK kI sD) labels, (eL (eT D.int)) groups, (eK kI D.int) weights] ∧ ju labels groups weights K ∧ ∀ r, K r → Q' (.own ((oDT (kP kS kI) D.int) r))
theorem zod (ds : List D) (Q' : S → Prop) (h : zv ds Q') : y8 (DEnds.of Q') (zp 8 ds) := by
  obtain ⟨labels, groups, weights, Q, rfl, h, hQ⟩ := h
  show y8 (DEnds.of Q') [(fz ((eK kI sD) labels)), (fz ((eL (eT D.int)) groups)), (fz ((eK kI D.int) weights)), none, none, none, none, none]
  unfold y8
  unfold ju at h
  refine (v6 (ztk (e := D.int) (f := (kP kS kI))) h ?_)
  intro found h
  refine (zb0 (fun (found1 : (List ((Sg × Int) × Int))) (j_ : Z × Z × Z × Z × Unit) => [(fz ((eK kI sD) labels)), (fz ((eL (eT D.int)) groups)), (fz ((eK kI D.int) weights)), (ow ((oDT (kP kS kI) D.int) found1)), j_.1, j_.2.1, j_.2.2.1, j_.2.2.2.1]) (none, none, none, none, ()) (zux (ei := (eT D.int)) (zf (zc 1 (eL (eT D.int)) groups rfl) zl)) h ?_ ?_)
  · intro N x_ found2 j_1 nxt hN_nxt h
    refine ⟨_, rfl, rfl, _, _, rfl, _, _, rfl, rfl, ?_⟩
    refine (ztn (fun (found3 : (List ((Sg × Int) × Int))) (j_2 : Z × Z × Unit) => [(fz ((eK kI sD) labels)), (fz ((eL (eT D.int)) groups)), (fz ((eK kI D.int) weights)), (ow ((oDT (kP kS kI) D.int) found3)), (fz (D.int x_.1)), (fz ((eT D.int) x_.2)), j_2.1, j_2.2.1]) (j_1.2.2.1, j_1.2.2.2.1, ()) (si_T (zc 5 (eT D.int) x_.2 rfl)) h ?_ ?_)
    · intro N x_1 found4 j_3 nxt1 hN_nxt1 h
      refine xj ?_
      refine (za6 (xt (zci (zge (fun _ => rfl) (fun _ _ _ h => h)) (zc 6 D.int x_1 rfl) (sv_f 0 (eK kI sD) labels rfl) zj)) h ?_ ?_)
      · intro h
        refine (qe (zdd (fun s => (s.1, s.2.1)) (eP2 sD D.int) 2 (zf (qf (xu (fun _ => rfl)) (sv_f 0 (eK kI sD) labels rfl) (zc 6 D.int x_1 rfl) zj) (zf (zc 4 D.int x_.1 rfl) zl)) (fun _ => rfl) (fun _ => rfl) (by show 2 ≤ sizeLine; decide)) h ?_)
        intro key h
        refine (zqz (fun _ => rfl) (qz u9 (zwi (fun _ => rfl) (sv_o 3 found4 (o := (oDT (kP kS kI) D.int) found4) rfl) (zc 7 (eP2 sD D.int) key rfl) (se_c D.int 0 rfl) (um (o := (oDT (kP kS kI) D.int) found4) rfl rfl) (um (o := (oDT (kP kS kI) D.int) found4) rfl rfl)) (qf (xu (fun _ => rfl)) (sv_f 2 (eK kI D.int) weights rfl) (zc 6 D.int x_1 rfl) zj)) (zc 7 (eP2 sD D.int) key rfl) rfl rfl h ?_)
        intro found5 h
        exact hN_nxt1 found5 ((fz (D.int x_1)), (fz ((eP2 sD D.int) key)), ()) h
      · intro h
        exact hN_nxt1 found4 ((fz (D.int x_1)), j_3.2.1, ()) h
    · intro found3 j_2 h
      exact hN_nxt found3 ((fz (D.int x_.1)), (fz ((eT D.int) x_.2)), j_2.1, j_2.2.1, ()) h
  · intro found1 j_ h
    refine zbz rfl ?_
    exact hQ found1 h
@[irreducible] def yl (entries : (List ((Sg × Int) × Int))) (pairs : (List (Sg × Int))) (Q : (List (Int × Int)) → Prop) : Prop :=
 x4 (za entries) ([] : (List (Int × Int))) (fun (x_ : (Sg × Int)) (acc : (List (Int × Int))) (nxt : (List (Int × Int)) → Prop) => putW acc x_.2 (0 : Int) nxt) fun t_ => asgW t_ fun prices =>
 asgW true fun is_changed =>
 zj2 prices is_changed (fun (prices2 : (List (Int × Int))) (is_changed2 : Bool) k_ => k_ is_changed2) (fun (prices2 : (List (Int × Int))) (is_changed2 : Bool) nxt1 =>
   asgW false fun is_changed3 =>
   yn entries prices2 is_changed3 (fun (x_1 : ((Sg × Int) × Int)) (prices4 : (List (Int × Int))) (is_changed5 : Bool) nxt2 =>
     asgW x_1.1 fun p_ =>
     asgW x_1.2 fun gain =>
     zd3 (fun (gain1 : Int) =>
       getW prices4 p_.2 fun t_5 => ifW (decide (t_5 < gain1))
        (putW prices4 p_.2 gain1 fun prices5 =>
         asgW true fun is_changed6 =>
         nxt2 prices5 is_changed6)
        (nxt2 prices4 is_changed5)) fun cont =>
     ifW (hasG pairs p_.1)
      (getW pairs p_.1 fun t_1 => getW prices4 t_1 fun t_2 => getW pairs p_.1 fun t_3 => getW entries (p_.1, t_3) fun t_4 => asgW (gain + (t_2 - t_4)) fun gain2 =>
     cont gain2)
      (cont gain)) (fun (prices3 : (List (Int × Int))) (is_changed4 : Bool) =>
     nxt1 prices3 is_changed4)) (fun (prices1 : (List (Int × Int))) (is_changed1 : Bool) =>
   retW prices1 Q)
def qw : DSp := fun ds Q' => ∃ (entries : (List ((Sg × Int) × Int))) (pairs : (List (Sg × Int))) (K : (List (Int × Int)) → Prop), ds = [(eDT (kP kS kI) D.int) entries, (eK kS D.int) pairs] ∧ yl entries pairs K ∧ ∀ r, K r → Q' (.own ((oK kI D.int) r))
theorem zl9 (ds : List D) (Q' : S → Prop) (h : qw ds Q') : yi (DEnds.of Q') (zp 9 ds) := by
  obtain ⟨entries, pairs, Q, rfl, h, hQ⟩ := h
  show yi (DEnds.of Q') [(fz ((eDT (kP kS kI) D.int) entries)), (fz ((eK kS D.int) pairs)), none, none, none, none, none, none, none]
  unfold yi
  unfold yl at h
  refine (v6 (zd4 (δh := [(fz ((eDT (kP kS kI) D.int) entries)), (fz ((eK kS D.int) pairs)), none, none, none, none, none, none, none]) (δ2 := [(fz ((eDT (kP kS kI) D.int) entries)), (fz ((eK kS D.int) pairs)), none, none, none, none, none, none, none]) (eo := (oK kI D.int)) (body := fun (x_ : (Sg × Int)) (acc : (List (Int × Int))) (nxt : (List (Int × Int)) → Prop) => putW acc x_.2 (0 : Int) nxt) ([] : (List (Int × Int))) (zi0 (ek := (eP2 sD D.int)) (fun _ => rfl) (zc 0 (eDT (kP kS kI) D.int) entries rfl)) rfl rfl (fun x_ acc nxt J h hJ => ⟨_, rfl, rfl, _, _, rfl, _, _, rfl, rfl, (zbd (zcd (fun _ => rfl) (zc 4 D.int x_.2 rfl) (se_c D.int 0 rfl) h hJ rfl))⟩) rfl) h ?_)
  intro prices h
  refine (qe (se_c D.bl true rfl) h ?_)
  intro is_changed h
  refine (zuw (fun (prices1 : (List (Int × Int))) (is_changed1 : Bool) (j_ : Z × Z × Z × Z × Z × Unit) => [(fz ((eDT (kP kS kI) D.int) entries)), (fz ((eK kS D.int) pairs)), (ow ((oK kI D.int) prices1)), j_.1, j_.2.1, (fz (D.bl is_changed1)), j_.2.2.1, j_.2.2.2.1, j_.2.2.2.2.1]) (none, none, none, none, none, ()) rfl h ?_ ?_ ?_)
  · intro prices2 is_changed2 j_1
    exact (xt (zc 5 D.bl is_changed2 rfl))
  · intro N prices2 is_changed2 j_1 nxt1 hN_nxt1 h
    refine (qe (se_c D.bl false rfl) h ?_)
    intro is_changed3 h
    refine (zto (fun (prices3 : (List (Int × Int))) (is_changed4 : Bool) (j_2 : Z × Z × Z × Z × Z × Unit) => [(fz ((eDT (kP kS kI) D.int) entries)), (fz ((eK kS D.int) pairs)), (ow ((oK kI D.int) prices3)), j_2.1, j_2.2.1, (fz (D.bl is_changed4)), j_2.2.2.1, j_2.2.2.2.1, j_2.2.2.2.2.1]) (j_1.1, j_1.2.1, j_1.2.2.1, j_1.2.2.2.1, j_1.2.2.2.2.1, ()) (zwl (ek := (eP2 sD D.int)) (fun _ => rfl) (zc 0 (eDT (kP kS kI) D.int) entries rfl)) h ?_ ?_)
    · intro N x_1 prices4 is_changed5 j_3 nxt2 hN_nxt2 h
      refine ⟨_, rfl, rfl, _, _, rfl, _, _, rfl, rfl, ?_⟩
      refine (zg6 (zc 6 (eP2 sD D.int) x_1.1 rfl) h ?_)
      intro p_ h
      refine ⟨_, rfl, rfl, _, _, rfl, _, _, rfl, rfl, ?_⟩
      refine (qe (zc 7 D.int x_1.2 rfl) h ?_)
      intro gain h
      refine zkn (fun (gain1 : Int) (j_4 : Unit) => [(fz ((eDT (kP kS kI) D.int) entries)), (fz ((eK kS D.int) pairs)), (ow ((oK kI D.int) prices4)), (fz (sD p_.1)), (fz (D.int p_.2)), (fz (D.bl is_changed5)), (fz ((eP2 sD D.int) x_1.1)), (fz (D.int x_1.2)), (fz (D.int gain1))]) h ?_ ?_
      · intro gain1 j_4 h
        refine (za6 (xt (qz zj1 (zc 8 D.int gain1 rfl) (qf (xu (fun _ => rfl)) (sv_o 2 prices4 (o := (oK kI D.int) prices4) rfl) (zc 4 D.int p_.2 rfl) (um (o := (oK kI D.int) prices4) rfl rfl)))) h ?_ ?_)
        · intro h
          refine (zg7 (fun _ => rfl) (zc 8 D.int gain1 rfl) (zc 4 D.int p_.2 rfl) rfl rfl h ?_)
          intro prices5 h
          refine (ziz (se_c D.bl true rfl) h ?_)
          intro is_changed6 h
          exact hN_nxt2 prices5 is_changed6 ((fz (sD p_.1)), (fz (D.int p_.2)), (fz ((eP2 sD D.int) x_1.1)), (fz (D.int x_1.2)), (fz (D.int gain1)), ()) h
        · intro h
          exact hN_nxt2 prices4 is_changed5 ((fz (sD p_.1)), (fz (D.int p_.2)), (fz ((eP2 sD D.int) x_1.1)), (fz (D.int x_1.2)), (fz (D.int gain1)), ()) h
      · intro cont hJ_cont h
        refine (za6 (xt (zci (zge (fun _ => rfl) (fun _ _ _ h => h)) (zc 3 sD p_.1 rfl) (sv_f 1 (eK kS D.int) pairs rfl) zj)) h ?_ ?_)
        · intro h
          refine (zwe (x := gain) rfl (qz zck (qf (xu (fun _ => rfl)) (sv_o 2 prices4 (o := (oK kI D.int) prices4) rfl) (qf (xu (fun _ => rfl)) (sv_f 1 (eK kS D.int) pairs rfl) (zc 3 sD p_.1 rfl) zj) (um (o := (oK kI D.int) prices4) rfl rfl)) (qf (zgd (fun _ => rfl)) (sv_f 0 (eDT (kP kS kI) D.int) entries rfl) (zdd (fun s => (s.1, s.2.1)) (eP2 sD D.int) 2 (zf (zc 3 sD p_.1 rfl) (zf (qf (xu (fun _ => rfl)) (sv_f 1 (eK kS D.int) pairs rfl) (zc 3 sD p_.1 rfl) zj) zl)) (fun _ => rfl) (fun _ => rfl) (by show 2 ≤ sizeLine; decide)) zj)) h ?_)
          intro gain2 h
          exact hJ_cont gain2 (()) h
        · intro h
          exact hJ_cont gain (()) h
    · intro prices3 is_changed4 j_2 h
      exact hN_nxt1 prices3 is_changed4 (j_2.1, j_2.2.1, j_2.2.2.1, j_2.2.2.2.1, j_2.2.2.2.2.1, ()) h
  · intro prices1 is_changed1 j_ h
    refine zbz rfl ?_
    exact hQ prices1 h
@[irreducible] def zav (entries : (List ((Sg × Int) × Int))) (pairs : (List (Sg × Int))) (Q : (List (Sg × Int)) → Prop) : Prop :=
 yl entries pairs fun t_ => asgW t_ fun prices =>
 x4 (za entries) ([] : (List (Sg × Int))) (fun (x_ : (Sg × Int)) (acc : (List (Sg × Int))) (nxt : (List (Sg × Int)) → Prop) => putW acc x_.1 (0 : Int) nxt) fun t_1 => asgW t_1 fun found =>
 xo pairs found (fun (x_1 : (Sg × Int)) (found2 : (List (Sg × Int))) nxt1 =>
   getW entries (x_1.1, x_1.2) fun t_2 => getW prices x_1.2 fun t_3 => putW found2 x_1.1 (t_2 - t_3) fun found3 =>
   nxt1 found3) (fun (found1 : (List (Sg × Int))) =>
   retW found1 Q)
def xx : DSp := fun ds Q' => ∃ (entries : (List ((Sg × Int) × Int))) (pairs : (List (Sg × Int))) (K : (List (Sg × Int)) → Prop), ds = [(eDT (kP kS kI) D.int) entries, (eK kS D.int) pairs] ∧ zav entries pairs K ∧ ∀ r, K r → Q' (.own ((oK kS D.int) r))
theorem zrm (ds : List D) (Q' : S → Prop) (h : xx ds Q') : zar qw (DEnds.of Q') (zp 6 ds) := by
  obtain ⟨entries, pairs, Q, rfl, h, hQ⟩ := h
  show zar qw (DEnds.of Q') [(fz ((eDT (kP kS kI) D.int) entries)), (fz ((eK kS D.int) pairs)), none, none, none, none]
  unfold zar
  unfold zav at h
  refine (qe (z5 (er := (eK kI D.int)) (zf (zc 0 (eDT (kP kS kI) D.int) entries rfl) (zf (zc 1 (eK kS D.int) pairs rfl) zl)) (fun _ => rfl) (fun s => yl s.1 s.2.1) (fun s K Q h c => ⟨_, _, _, rfl, h, fun r hr => c r _ hr rfl⟩)) h ?_)
  intro prices h
  refine (v6 (zd4 (δh := [(fz ((eDT (kP kS kI) D.int) entries)), (fz ((eK kS D.int) pairs)), (fz ((eK kI D.int) prices)), none, none, none]) (δ2 := [(fz ((eDT (kP kS kI) D.int) entries)), (fz ((eK kS D.int) pairs)), (fz ((eK kI D.int) prices)), none, none, none]) (eo := (oK kS D.int)) (body := fun (x_ : (Sg × Int)) (acc : (List (Sg × Int))) (nxt : (List (Sg × Int)) → Prop) => putW acc x_.1 (0 : Int) nxt) ([] : (List (Sg × Int))) (zi0 (ek := (eP2 sD D.int)) (fun _ => rfl) (zc 0 (eDT (kP kS kI) D.int) entries rfl)) rfl rfl (fun x_ acc nxt J h hJ => ⟨_, rfl, rfl, _, _, rfl, _, _, rfl, rfl, (zbd (zcd (fun _ => rfl) (zc 4 sD x_.1 rfl) (se_c D.int 0 rfl) h hJ rfl))⟩) rfl) h ?_)
  intro found h
  refine (zb0 (fun (found1 : (List (Sg × Int))) (j_ : Z × Z × Unit) => [(fz ((eDT (kP kS kI) D.int) entries)), (fz ((eK kS D.int) pairs)), (fz ((eK kI D.int) prices)), (ow ((oK kS D.int) found1)), j_.1, j_.2.1]) (none, none, ()) (zha (ek := sD) (fun _ => rfl) (zc 1 (eK kS D.int) pairs rfl)) h ?_ ?_)
  · intro N x_1 found2 j_1 nxt1 hN_nxt1 h
    refine ⟨_, rfl, rfl, _, _, rfl, _, _, rfl, rfl, ?_⟩
    refine (zeb (fun _ => rfl) (qz zck (qf (zgd (fun _ => rfl)) (sv_f 0 (eDT (kP kS kI) D.int) entries rfl) (zdd (fun s => (s.1, s.2.1)) (eP2 sD D.int) 2 (zf (zc 4 sD x_1.1 rfl) (zf (zc 5 D.int x_1.2 rfl) zl)) (fun _ => rfl) (fun _ => rfl) (by show 2 ≤ sizeLine; decide)) zj) (qf (xu (fun _ => rfl)) (sv_f 2 (eK kI D.int) prices rfl) (zc 5 D.int x_1.2 rfl) zj)) (zc 4 sD x_1.1 rfl) rfl rfl h ?_)
    intro found3 h
    exact hN_nxt1 found3 ((fz (sD x_1.1)), (fz (D.int x_1.2)), ()) h
  · intro found1 j_ h
    refine zbz rfl ?_
    exact hQ found1 h
@[irreducible] def zbp (entries : (List ((Sg × Int) × Int))) (Q : (List (Sg × (List (Int × Int)))) → Prop) : Prop :=
 asgW ([] : (List (Sg × (List (Int × Int))))) fun found =>
 zx (entries.length ≤ 16777216) <| xo (z4 (eP2 sD D.int) (za entries)) found (fun (x_ : (Sg × Int)) (found2 : (List (Sg × (List (Int × Int))))) nxt =>
   sdfW found2 x_.1 ([] : (List (Int × Int))) fun found3 =>
   getW entries x_ fun t_ => getW found3 x_.1 fun row => putW row x_.2 t_ fun row1 => asgW (putG found3 x_.1 row1) fun found4 =>
   nxt found4) (fun (found1 : (List (Sg × (List (Int × Int))))) =>
   retW found1 Q)
def xk : DSp := fun ds Q' => ∃ (entries : (List ((Sg × Int) × Int))) (K : (List (Sg × (List (Int × Int)))) → Prop), ds = [(eDT (kP kS kI) D.int) entries] ∧ zbp entries K ∧ ∀ r, K r → Q' (.fz ((eK kS (eK kI D.int)) r))
theorem zoe (ds : List D) (Q' : S → Prop) (h : xk ds Q') : y9 (DEnds.of Q') (zp 3 ds) := by
  obtain ⟨entries, Q, rfl, h, hQ⟩ := h
  show y9 (DEnds.of Q') [(fz ((eDT (kP kS kI) D.int) entries)), none, none]
  unfold y9
  unfold zbp at h
  refine (zwm (f := kS) (eo := (oK kI D.int)) h ?_)
  intro found h
  refine (zb0 (fun (found1 : (List (Sg × (List (Int × Int))))) (j_ : Z × Unit) => [(fz ((eDT (kP kS kI) D.int) entries)), (nkS kS (oK kI D.int) found1), j_.1]) (none, ()) (si_L (xg (e := (eL (eP2 sD D.int))) (zcj (zwb (ek := (eP2 sD D.int)) (fun _ => rfl)) (sv_f 0 (eDT (kP kS kI) D.int) entries rfl) zj) (fun _ => rfl))) h ?_ ?_)
  · intro N x_ found2 j_1 nxt hN_nxt h
    refine xj ?_
    refine (zuz (fun _ => rfl) rfl (zls (ea := (eP2 sD D.int)) (eb := sD) 0 (fun p => p.1) (sv_f 2 (eP2 sD D.int) x_ rfl) zj (fun _ => ⟨_, rfl, rfl⟩)) (yu (e := D.int) (f := kI)) rfl h ?_)
    intro found3 h
    refine (z0d (fun _ => rfl) (fun _ => rfl) (qf (zgd (fun _ => rfl)) (sv_f 0 (eDT (kP kS kI) D.int) entries rfl) (zc 2 (eP2 sD D.int) x_ rfl) zj) rfl (zls (ea := (eP2 sD D.int)) (eb := sD) 0 (fun p => p.1) (sv_f 2 (eP2 sD D.int) x_ rfl) zj (fun _ => ⟨_, rfl, rfl⟩)) rfl (zls (ea := (eP2 sD D.int)) (eb := D.int) 1 (fun p => p.2) (sv_f 2 (eP2 sD D.int) x_ rfl) zj (fun _ => ⟨_, rfl, rfl⟩)) h ?_)
    intro found4 h
    exact hN_nxt found4 ((fz ((eP2 sD D.int) x_)), ()) h
  · intro found1 j_ h
    exact zam (z0e (ei := (eK kI D.int)) 1 found1 rfl (fun _ => rfl)) h (hQ)
@[irreducible] def zco (rows : (List (Sg × (List (Int × Int))))) (pairs : (List (Sg × Int))) (owners : (List (Int × Sg))) (Q : (List (Sg × Int)) → Prop) : Prop :=
 x4 (za rows) ([] : (List (Sg × Int))) (fun (x_ : Sg) (acc : (List (Sg × Int))) (nxt : (List (Sg × Int)) → Prop) => putW acc x_ (0 : Int) nxt) fun t_ => asgW t_ fun gains =>
 asgW ([] : (List (Sg × Int))) fun moves =>
 asgW true fun is_changed =>
 zea gains moves is_changed (fun (gains2 : (List (Sg × Int))) (moves2 : (List (Sg × Int))) (is_changed2 : Bool) k_ => k_ is_changed2) (fun (gains2 : (List (Sg × Int))) (moves2 : (List (Sg × Int))) (is_changed2 : Bool) nxt1 =>
   asgW false fun is_changed3 =>
   zbo rows gains2 moves2 is_changed3 (fun (x_1 : (Sg × (List (Int × Int)))) (gains4 : (List (Sg × Int))) (moves4 : (List (Sg × Int))) (is_changed5 : Bool) nxt2 =>
     zbo x_1.2 gains4 moves4 is_changed5 (fun (x_2 : (Int × Int)) (gains6 : (List (Sg × Int))) (moves6 : (List (Sg × Int))) (is_changed7 : Bool) nxt3 =>
       asgW x_2.2 fun gain =>
       zd3 (fun (gain1 : Int) =>
         getW gains6 x_1.1 fun t_5 => ifW ((decide (t_5 < gain1)) && (!eqB (valG pairs x_1.1) (some x_2.1)))
          (putW gains6 x_1.1 (gain1, x_2.1).1 fun gains7 => putW moves6 x_1.1 (gain1, x_2.1).2 fun moves7 =>
           asgW true fun is_changed8 =>
           nxt3 gains7 moves7 is_changed8)
          (nxt3 gains6 moves6 is_changed7)) fun cont =>
       ifW (hasG owners x_2.1)
        (getW owners x_2.1 fun t_1 => asgW t_1 fun other =>
       getW gains6 other fun t_2 => getW rows other fun t_3 => getW t_3 x_2.1 fun t_4 => asgW (gain + (t_2 - t_4)) fun gain2 =>
       cont gain2)
        (cont gain)) (fun (gains5 : (List (Sg × Int))) (moves5 : (List (Sg × Int))) (is_changed6 : Bool) =>
       nxt2 gains5 moves5 is_changed6)) (fun (gains3 : (List (Sg × Int))) (moves3 : (List (Sg × Int))) (is_changed4 : Bool) =>
     nxt1 gains3 moves3 is_changed4)) (fun (gains1 : (List (Sg × Int))) (moves1 : (List (Sg × Int))) (is_changed1 : Bool) =>
   retW moves1 Q)
def xw : DSp := fun ds Q' => ∃ (rows : (List (Sg × (List (Int × Int))))) (pairs : (List (Sg × Int))) (owners : (List (Int × Sg))) (K : (List (Sg × Int)) → Prop), ds = [(eK kS (eK kI D.int)) rows, (eK kS D.int) pairs, (eK kI sD) owners] ∧ zco rows pairs owners K ∧ ∀ r, K r → Q' (.own ((oK kS D.int) r))
theorem zrn (ds : List D) (Q' : S → Prop) (h : xw ds Q') : zas (DEnds.of Q') (zp 12 ds) := by
  obtain ⟨rows, pairs, owners, Q, rfl, h, hQ⟩ := h
  show zas (DEnds.of Q') [(fz ((eK kS (eK kI D.int)) rows)), (fz ((eK kS D.int) pairs)), (fz ((eK kI sD) owners)), none, none, none, none, none, none, none, none, none]
  unfold zas
  unfold zco at h
  refine (v6 (zd4 (δh := [(fz ((eK kS (eK kI D.int)) rows)), (fz ((eK kS D.int) pairs)), (fz ((eK kI sD) owners)), none, none, none, none, none, none, none, none, none]) (δ2 := [(fz ((eK kS (eK kI D.int)) rows)), (fz ((eK kS D.int) pairs)), (fz ((eK kI sD) owners)), none, none, none, none, none, none, none, none, none]) (eo := (oK kS D.int)) (body := fun (x_ : Sg) (acc : (List (Sg × Int))) (nxt : (List (Sg × Int)) → Prop) => putW acc x_ (0 : Int) nxt) ([] : (List (Sg × Int))) (zyt (ek := sD) (fun _ => rfl) (zc 0 (eK kS (eK kI D.int)) rows rfl)) rfl rfl (fun x_ acc nxt J h hJ => (xj (zbd (zcd (fun _ => rfl) (zc 4 sD x_ rfl) (se_c D.int 0 rfl) h hJ rfl)))) rfl) h ?_)
  intro gains h
  refine (v6 (yu (e := D.int) (f := kS)) h ?_)
  intro moves h
  refine (qe (se_c D.bl true rfl) h ?_)
  intro is_changed h
  refine (zlu (fun (gains1 : (List (Sg × Int))) (moves1 : (List (Sg × Int))) (is_changed1 : Bool) (j_ : Z × Z × Z × Z × Z × Z × Unit) => [(fz ((eK kS (eK kI D.int)) rows)), (fz ((eK kS D.int) pairs)), (fz ((eK kI sD) owners)), (ow ((oK kS D.int) gains1)), j_.1, (ow ((oK kS D.int) moves1)), (fz (D.bl is_changed1)), j_.2.1, j_.2.2.1, j_.2.2.2.1, j_.2.2.2.2.1, j_.2.2.2.2.2.1]) (none, none, none, none, none, none, ()) rfl h ?_ ?_ ?_)
  · intro gains2 moves2 is_changed2 j_1
    exact (xt (zc 6 D.bl is_changed2 rfl))
  · intro N gains2 moves2 is_changed2 j_1 nxt1 hN_nxt1 h
    refine (qe (se_c D.bl false rfl) h ?_)
    intro is_changed3 h
    refine (zmx (fun (gains3 : (List (Sg × Int))) (moves3 : (List (Sg × Int))) (is_changed4 : Bool) (j_2 : Z × Z × Z × Z × Z × Z × Unit) => [(fz ((eK kS (eK kI D.int)) rows)), (fz ((eK kS D.int) pairs)), (fz ((eK kI sD) owners)), (ow ((oK kS D.int) gains3)), j_2.1, (ow ((oK kS D.int) moves3)), (fz (D.bl is_changed4)), j_2.2.1, j_2.2.2.1, j_2.2.2.2.1, j_2.2.2.2.2.1, j_2.2.2.2.2.2.1]) (j_1.1, j_1.2.1, j_1.2.2.1, j_1.2.2.2.1, j_1.2.2.2.2.1, j_1.2.2.2.2.2.1, ()) (zha (ek := sD) (fun _ => rfl) (zc 0 (eK kS (eK kI D.int)) rows rfl)) h ?_ ?_)
    · intro N x_1 gains4 moves4 is_changed5 j_3 nxt2 hN_nxt2 h
      refine ⟨_, rfl, rfl, _, _, rfl, _, _, rfl, rfl, ?_⟩
      refine (zmx (fun (gains5 : (List (Sg × Int))) (moves5 : (List (Sg × Int))) (is_changed6 : Bool) (j_4 : Z × Z × Z × Z × Unit) => [(fz ((eK kS (eK kI D.int)) rows)), (fz ((eK kS D.int) pairs)), (fz ((eK kI sD) owners)), (ow ((oK kS D.int) gains5)), (fz (sD x_1.1)), (ow ((oK kS D.int) moves5)), (fz (D.bl is_changed6)), (fz ((eK kI D.int) x_1.2)), j_4.1, j_4.2.1, j_4.2.2.1, j_4.2.2.2.1]) (j_3.2.2.1, j_3.2.2.2.1, j_3.2.2.2.2.1, j_3.2.2.2.2.2.1, ()) (zha (ek := D.int) (fun _ => rfl) (zc 7 (eK kI D.int) x_1.2 rfl)) h ?_ ?_)
      · intro N x_2 gains6 moves6 is_changed7 j_5 nxt3 hN_nxt3 h
        refine ⟨_, rfl, rfl, _, _, rfl, _, _, rfl, rfl, ?_⟩
        refine (qe (zc 9 D.int x_2.2 rfl) h ?_)
        intro gain h
        refine zkn (fun (gain1 : Int) (j_6 : Z × Unit) => [(fz ((eK kS (eK kI D.int)) rows)), (fz ((eK kS D.int) pairs)), (fz ((eK kI sD) owners)), (ow ((oK kS D.int) gains6)), (fz (sD x_1.1)), (ow ((oK kS D.int) moves6)), (fz (D.bl is_changed7)), (fz ((eK kI D.int) x_1.2)), (fz (D.int x_2.1)), (fz (D.int x_2.2)), (fz (D.int gain1)), j_6.1]) h ?_ ?_
        · intro gain1 j_6 h
          refine (za6 (zmw (xt (qz zj1 (zc 10 D.int gain1 rfl) (qf (xu (fun _ => rfl)) (sv_o 3 gains6 (o := (oK kS D.int) gains6) rfl) (zc 4 sD x_1.1 rfl) (um (o := (oK kS D.int) gains6) rfl rfl)))) (xt (za4 (zfd (by decide)) (sv_v (zhc (fun _ => rfl) (sv_f 1 (eK kS D.int) pairs rfl) (zc 4 sD x_1.1 rfl) zj zj)) (sv_f 8 (eO D.int) (some x_2.1) rfl) zj zj))) h ?_ ?_)
          · intro h
            refine (ztt (δt := fun gains7 => [(fz ((eK kS (eK kI D.int)) rows)), (fz ((eK kS D.int) pairs)), (fz ((eK kI sD) owners)), (ow ((oK kS D.int) gains7)), (fz (sD x_1.1)), (ow ((oK kS D.int) moves6)), (fz (D.bl is_changed7)), (fz ((eK kI D.int) x_1.2)), (fz (D.int x_2.1)), (fz (D.int x_2.2)), (fz (D.int gain1)), j_6.1]) (fun _ => rfl) (fun _ => rfl) (zdd (fun s => (s.1, s.2.1)) (eP2 D.int D.int) 2 (zf (zc 10 D.int gain1 rfl) (zf (zc 8 D.int x_2.1 rfl) zl)) (fun _ => rfl) (fun _ => rfl) (by show 2 ≤ sizeLine; decide)) rfl (zc 4 sD x_1.1 rfl) rfl (fun _ => rfl) (fun gains7 => (zc 4 sD x_1.1 rfl)) (fun _ => rfl) h ?_)
            intro gains7 moves7 h
            refine (ziz (se_c D.bl true rfl) h ?_)
            intro is_changed8 h
            exact hN_nxt3 gains7 moves7 is_changed8 ((fz (D.int x_2.1)), (fz (D.int x_2.2)), (fz (D.int gain1)), j_6.1, ()) h
          · intro h
            exact hN_nxt3 gains6 moves6 is_changed7 ((fz (D.int x_2.1)), (fz (D.int x_2.2)), (fz (D.int gain1)), j_6.1, ()) h
        · intro cont hJ_cont h
          refine (za6 (xt (zci (zge (fun _ => rfl) (fun _ _ _ h => h)) (zc 8 D.int x_2.1 rfl) (sv_f 2 (eK kI sD) owners rfl) zj)) h ?_ ?_)
          · intro h
            refine (qe (qf (xu (fun _ => rfl)) (sv_f 2 (eK kI sD) owners rfl) (zc 8 D.int x_2.1 rfl) zj) h ?_)
            intro other h
            refine (zwe (x := gain) rfl (qz zck (qf (xu (fun _ => rfl)) (sv_o 3 gains6 (o := (oK kS D.int) gains6) rfl) (zc 11 sD other rfl) (um (o := (oK kS D.int) gains6) rfl rfl)) (qf (xu (fun _ => rfl)) (sv_v (qf (xu (fun _ => rfl)) (sv_f 0 (eK kS (eK kI D.int)) rows rfl) (zc 11 sD other rfl) zj)) (zc 8 D.int x_2.1 rfl) zj)) h ?_)
            intro gain2 h
            exact hJ_cont gain2 ((fz (sD other)), ()) h
          · intro h
            exact hJ_cont gain (j_5.2.2.2.1, ()) h
      · intro gains5 moves5 is_changed6 j_4 h
        exact hN_nxt2 gains5 moves5 is_changed6 ((fz (sD x_1.1)), (fz ((eK kI D.int) x_1.2)), j_4.1, j_4.2.1, j_4.2.2.1, j_4.2.2.2.1, ()) h
    · intro gains3 moves3 is_changed4 j_2 h
      exact hN_nxt1 gains3 moves3 is_changed4 (j_2.1, j_2.2.1, j_2.2.2.1, j_2.2.2.2.1, j_2.2.2.2.2.1, j_2.2.2.2.2.2.1, ()) h
  · intro gains1 moves1 is_changed1 j_ h
    refine zbz rfl ?_
    exact hQ moves1 h
@[irreducible] def jv (entries : (List ((Sg × Int) × Int))) (Q : (List (Sg × Int)) → Prop) : Prop :=
 zbp entries fun t_ => asgW t_ fun every =>
 zpy ([] : (List (Sg × (List (Int × Int))))) ([] : (List (Sg × Int))) ([] : (List (Int × Sg))) fun rows pairs owners =>
 zbo every rows pairs owners (fun (x_ : (Sg × (List (Int × Int)))) (rows2 : (List (Sg × (List (Int × Int))))) (pairs2 : (List (Sg × Int))) (owners2 : (List (Int × Sg))) nxt =>
   putW rows2 x_.1 x_.2 fun rows3 =>
   zco rows3 pairs2 owners2 fun t_1 => asgW t_1 fun moves =>
   asgW (some x_.1) fun row =>
   zea pairs2 owners2 row (fun (pairs4 : (List (Sg × Int))) (owners4 : (List (Int × Sg))) (row2 : (Option Sg)) k_ => k_ (inN moves row2)) (fun (pairs4 : (List (Sg × Int))) (owners4 : (List (Int × Sg))) (row2 : (Option Sg)) nxt1 =>
     unW row2 fun t_2 => getW moves t_2 fun t_3 => asgW t_3 fun column =>
     asgW (valG owners4 column) fun other =>
     unW row2 fun t_4 => unW row2 fun t_5 => putW pairs4 t_5 (column, t_4).1 fun pairs5 => putW owners4 column (column, t_4).2 fun owners5 =>
     asgW other fun row3 =>
     nxt1 pairs5 owners5 row3) (fun (pairs3 : (List (Sg × Int))) (owners3 : (List (Int × Sg))) (row1 : (Option Sg)) =>
     asgW (zlw pairs3 row1) fun pairs6 =>
     nxt rows3 pairs6 owners3)) (fun (rows1 : (List (Sg × (List (Int × Int))))) (pairs1 : (List (Sg × Int))) (owners1 : (List (Int × Sg))) =>
   retW pairs1 Q)
def zr : DSp := fun ds Q' => ∃ (entries : (List ((Sg × Int) × Int))) (K : (List (Sg × Int)) → Prop), ds = [(eDT (kP kS kI) D.int) entries] ∧ jv entries K ∧ ∀ r, K r → Q' (.own ((oK kS D.int) r))
theorem zkw (ds : List D) (Q' : S → Prop) (h : zr ds Q') : uz xk xw (DEnds.of Q') (zp 11 ds) := by
  obtain ⟨entries, Q, rfl, h, hQ⟩ := h
  show uz xk xw (DEnds.of Q') [(fz ((eDT (kP kS kI) D.int) entries)), none, none, none, none, none, none, none, none, none, none]
  unfold uz
  unfold jv at h
  refine (qe (z5 (er := (eK kS (eK kI D.int))) (zf (zc 0 (eDT (kP kS kI) D.int) entries rfl) zl) (fun _ => rfl) (fun s => zbp s.1) (fun s K Q h c => ⟨_, _, rfl, h, fun r hr => c r _ hr rfl⟩)) h ?_)
  intro every h
  refine (zx5 (sm_O (yu (e := (eK kI D.int)) (f := kS)) (sm_O (yu (e := D.int) (f := kS)) (sm_O (yu (e := sD) (f := kI)) ziu))) h (fun _ => rfl) ?_)
  intro rows pairs owners h
  refine (zx6 (fun (rows1 : (List (Sg × (List (Int × Int))))) (pairs1 : (List (Sg × Int))) (owners1 : (List (Int × Sg))) (j_ : Z × Z × Z × Z × Z × Z × Unit) => [(fz ((eDT (kP kS kI) D.int) entries)), (fz ((eK kS (eK kI D.int)) every)), (ow ((oK kS (eK kI D.int)) rows1)), (ow ((oK kS D.int) pairs1)), (ow ((oK kI sD) owners1)), j_.1, j_.2.1, j_.2.2.1, j_.2.2.2.1, j_.2.2.2.2.1, j_.2.2.2.2.2.1]) (none, none, none, none, none, none, ()) (zha (ek := sD) (fun _ => rfl) (zc 1 (eK kS (eK kI D.int)) every rfl)) h ?_ ?_)
  · intro N x_ rows2 pairs2 owners2 j_1 nxt hN_nxt h
    refine ⟨_, rfl, rfl, _, _, rfl, _, _, rfl, rfl, ?_⟩
    refine (zg7 (fun _ => rfl) (zc 6 (eK kI D.int) x_.2 rfl) (zc 5 sD x_.1 rfl) rfl rfl h ?_)
    intro rows3 h
    refine (qe (xg (e := (eK kS D.int)) (z0f (is := [2, 3, 4]) (by decide) (List.forall_mem_cons.2 ⟨⟨_, rfl⟩, List.forall_mem_cons.2 ⟨⟨_, rfl⟩, List.forall_mem_cons.2 ⟨⟨_, rfl⟩, fun _ h => nomatch h⟩⟩⟩) (zmv (eo := (oK kS D.int)) (zf (zc 2 (eK kS (eK kI D.int)) rows3 rfl) (zf (zc 3 (eK kS D.int) pairs2 rfl) (zf (zc 4 (eK kI sD) owners2 rfl) zl))) (fun _ => rfl) (fun s => zco s.1 s.2.1 s.2.2.1) (fun s K Q h c => ⟨_, _, _, _, rfl, h, c⟩)) (fun a => z0g a)) (fun _ => rfl)) h ?_)
    intro moves h
    refine (qe (zzs (zc 5 sD x_.1 rfl)) h ?_)
    intro row h
    refine (zlu (fun (pairs3 : (List (Sg × Int))) (owners3 : (List (Int × Sg))) (row1 : (Option Sg)) (j_2 : Z × Z × Unit) => [(fz ((eDT (kP kS kI) D.int) entries)), (fz ((eK kS (eK kI D.int)) every)), (ow ((oK kS (eK kI D.int)) rows3)), (ow ((oK kS D.int) pairs3)), (ow ((oK kI sD) owners3)), (fz (sD x_.1)), (fz ((eK kI D.int) x_.2)), (fz ((eK kS D.int) moves)), (fz ((eO sD) row1)), j_2.1, j_2.2.1]) (j_1.2.2.2.2.1, j_1.2.2.2.2.2.1, ()) rfl h ?_ ?_ ?_)
    · intro pairs4 owners4 row2 j_3
      exact (xt (zci (z10 (fun _ => rfl) (fun _ => rfl) (fun _ _ _ h => h)) (zc 8 (eO sD) row2 rfl) (sv_f 7 (eK kS D.int) moves rfl) zj))
    · intro N pairs4 owners4 row2 j_3 nxt1 hN_nxt1 h
      refine (qe (qf (xu (fun _ => rfl)) (sv_f 7 (eK kS D.int) moves rfl) (zlr (zc 8 (eO sD) row2 rfl)) zj) h ?_)
      intro column h
      refine (qe (zhc (fun _ => rfl) (sv_o 4 owners4 (o := (oK kI sD) owners4) rfl) (zc 9 D.int column rfl) (um (o := (oK kI sD) owners4) rfl rfl) (um (o := (oK kI sD) owners4) rfl rfl)) h ?_)
      intro other h
      refine (ztt (δt := fun pairs5 => [(fz ((eDT (kP kS kI) D.int) entries)), (fz ((eK kS (eK kI D.int)) every)), (ow ((oK kS (eK kI D.int)) rows3)), (ow ((oK kS D.int) pairs5)), (ow ((oK kI sD) owners4)), (fz (sD x_.1)), (fz ((eK kI D.int) x_.2)), (fz ((eK kS D.int) moves)), (fz ((eO sD) row2)), (fz (D.int column)), (fz ((eO sD) other))]) (fun _ => rfl) (fun _ => rfl) (zdd (fun s => (s.1, s.2.1)) (eP2 D.int sD) 2 (zf (zc 9 D.int column rfl) (zf (zlr (zc 8 (eO sD) row2 rfl)) zl)) (fun _ => rfl) (fun _ => rfl) (by show 2 ≤ sizeLine; decide)) rfl (zlr (zc 8 (eO sD) row2 rfl)) rfl (fun _ => rfl) (fun pairs5 => (zc 9 D.int column rfl)) (fun _ => rfl) h ?_)
      intro pairs5 owners5 h
      refine (ziz (zc 10 (eO sD) other rfl) h ?_)
      intro row3 h
      exact hN_nxt1 pairs5 owners5 row3 ((fz (D.int column)), (fz ((eO sD) other)), ()) h
    · intro pairs3 owners3 row1 j_2 h
      refine (zz8 (fun _ => rfl) rfl (zc 8 (eO sD) row1 rfl) rfl h rfl ?_)
      intro pairs6 h
      exact hN_nxt rows3 pairs6 owners3 ((fz (sD x_.1)), (fz ((eK kI D.int) x_.2)), (fz ((eK kS D.int) moves)), (fz ((eO sD) row1)), j_2.1, j_2.2.1, ()) h
  · intro rows1 pairs1 owners1 j_ h
    refine zbz rfl ?_
    exact hQ pairs1 h
@[irreducible] def zbq (table : (List ((Sg × Int) × Int))) (Q : (List Sg) → Prop) : Prop :=
 x4 (za table) ([] : (List (Sg × Bool))) (fun (x_ : (Sg × Int)) (acc : (List (Sg × Bool))) (nxt : (List (Sg × Bool)) → Prop) => putW acc x_.1 true nxt) fun t_ => zx (t_.length ≤ 16777216) <| retW (z4 sD (za t_)) Q
def xl : DSp := fun ds Q' => ∃ (table : (List ((Sg × Int) × Int))) (K : (List Sg) → Prop), ds = [(eDT (kP kS kI) D.int) table] ∧ zbq table K ∧ ∀ r, K r → Q' (.own ((oL sD) r))
theorem zof (ds : List D) (Q' : S → Prop) (h : xl ds Q') : zaa (DEnds.of Q') (zp 3 ds) := by
  obtain ⟨table, Q, rfl, h, hQ⟩ := h
  show zaa (DEnds.of Q') [(fz ((eDT (kP kS kI) D.int) table)), none, none]
  unfold zaa
  unfold zbq at h
  exact za5 (zcj (zem (ek := sD) (fun _ => rfl)) (sv_v (xg (e := (eK kS D.bl)) (zd4 (δh := [(fz ((eDT (kP kS kI) D.int) table)), none, none]) (δ2 := [(fz ((eDT (kP kS kI) D.int) table)), none, none]) (eo := (oK kS D.bl)) (body := fun (x_ : (Sg × Int)) (acc : (List (Sg × Bool))) (nxt : (List (Sg × Bool)) → Prop) => putW acc x_.1 true nxt) ([] : (List (Sg × Bool))) (zi0 (ek := (eP2 sD D.int)) (fun _ => rfl) (zc 0 (eDT (kP kS kI) D.int) table rfl)) rfl rfl (fun x_ acc nxt J h hJ => ⟨_, rfl, rfl, _, _, rfl, _, _, rfl, rfl, (zbd (zcd (fun _ => rfl) (zc 1 sD x_.1 rfl) (se_c D.bl true rfl) h hJ rfl))⟩) rfl) (fun _ => rfl))) zj) h (hQ)
@[irreducible] def zba (table : (List ((Sg × Int) × Int))) (Q : (List Int) → Prop) : Prop :=
 x4 (za table) ([] : (List (Int × Bool))) (fun (x_ : (Sg × Int)) (acc : (List (Int × Bool))) (nxt : (List (Int × Bool)) → Prop) => putW acc x_.2 true nxt) fun t_ => zx (t_.length ≤ 16777216) <| retW (z4 D.int (za t_)) Q
def q9 : DSp := fun ds Q' => ∃ (table : (List ((Sg × Int) × Int))) (K : (List Int) → Prop), ds = [(eDT (kP kS kI) D.int) table] ∧ zba table K ∧ ∀ r, K r → Q' (.own ((oL D.int) r))
theorem zm2 (ds : List D) (Q' : S → Prop) (h : q9 ds Q') : yv (DEnds.of Q') (zp 3 ds) := by
  obtain ⟨table, Q, rfl, h, hQ⟩ := h
  show yv (DEnds.of Q') [(fz ((eDT (kP kS kI) D.int) table)), none, none]
  unfold yv
  unfold zba at h
  exact za5 (zcj (zem (ek := D.int) (fun _ => rfl)) (sv_v (xg (e := (eK kI D.bl)) (zd4 (δh := [(fz ((eDT (kP kS kI) D.int) table)), none, none]) (δ2 := [(fz ((eDT (kP kS kI) D.int) table)), none, none]) (eo := (oK kI D.bl)) (body := fun (x_ : (Sg × Int)) (acc : (List (Int × Bool))) (nxt : (List (Int × Bool)) → Prop) => putW acc x_.2 true nxt) ([] : (List (Int × Bool))) (zi0 (ek := (eP2 sD D.int)) (fun _ => rfl) (zc 0 (eDT (kP kS kI) D.int) table rfl)) rfl rfl (fun x_ acc nxt J h hJ => ⟨_, rfl, rfl, _, _, rfl, _, _, rfl, rfl, (zbd (zcd (fun _ => rfl) (zc 2 D.int x_.2 rfl) (se_c D.bl true rfl) h hJ rfl))⟩) rfl) (fun _ => rfl))) zj) h (hQ)
@[irreducible] def zbr (table : (List ((Sg × Int) × Int))) (homes : (Option (List (Sg × Int)))) (Q : (List ((Sg × Int) × Int)) → Prop) : Prop :=
 zbq table fun t_ => zba table fun t_1 => zc3 t_ t_1 fun names places =>
 asgW ([(1 : Int)] : (List Int)) fun powers =>
 xo names powers (fun (x_ : Sg) (powers2 : (List Int)) nxt =>
   ixW powers2 (-(1 : Int)) fun t_2 => zx (CM t_2 ((places.length : Int) + (1 : Int))) <| appW powers2 (t_2 * ((places.length : Int) + (1 : Int))) fun powers3 =>
   nxt powers3) (fun (powers1 : (List Int)) =>
   asgW ([] : (List ((Sg × Int) × Int))) fun found =>
   xo table found (fun (x_1 : ((Sg × Int) × Int)) (found2 : (List ((Sg × Int) × Int))) nxt1 =>
     asgW x_1.1 fun p_ =>
     andW homes.isSome (fun k_1 => unW homes fun t_3 => andW (hasG t_3 p_.1) (fun k_ => unW homes fun t_4 => getW t_4 p_.1 fun t_5 => k_ (eqB t_5 p_.2)) fun t_6 => k_1 t_6) fun t_7 => asgW t_7 fun is_home =>
     idxW places p_.2 fun t_8 => idxW names p_.1 fun t_9 => ixW powers1 (((names.length : Int) - (1 : Int)) - t_9) fun t_10 => zx (CM ((places.length : Int) - t_8) t_10) <| asgW (((places.length : Int) - t_8) * t_10) fun digit =>
     zx (CM x_1.2 ((names.length : Int) + (1 : Int))) <| zx (CM ((x_1.2 * ((names.length : Int) + (1 : Int))) + (1 : Int)) ((names.length : Int) + (1 : Int))) <| asgW ((((x_1.2 * ((names.length : Int) + (1 : Int))) + (1 : Int)) * ((names.length : Int) + (1 : Int))) + (if is_home = true then (1 : Int) else 0)) fun rank =>
     ixW powers1 (names.length : Int) fun t_11 => zx (CM rank t_11) <| putW found2 x_1.1 ((rank * t_11) + digit) fun found3 =>
     nxt1 found3) (fun (found1 : (List ((Sg × Int) × Int))) =>
     retW found1 Q))
def xm : DSp := fun ds Q' => ∃ (table : (List ((Sg × Int) × Int))) (homes : (Option (List (Sg × Int)))) (K : (List ((Sg × Int) × Int)) → Prop), ds = [(eDT (kP kS kI) D.int) table, (eO (eK kS D.int)) homes] ∧ zbr table homes K ∧ ∀ r, K r → Q' (.own ((oDT (kP kS kI) D.int) r))
theorem zog (ds : List D) (Q' : S → Prop) (h : xm ds Q') : zab xl q9 (DEnds.of Q') (zp 13 ds) := by
  obtain ⟨table, homes, Q, rfl, h, hQ⟩ := h
  show zab xl q9 (DEnds.of Q') [(fz ((eDT (kP kS kI) D.int) table)), (fz ((eO (eK kS D.int)) homes)), none, none, none, none, none, none, none, none, none, none, none]
  unfold zab
  unfold zbr at h
  refine (zg8 (sm_F (z5 (er := (eL sD)) (zf (zc 0 (eDT (kP kS kI) D.int) table rfl) zl) (fun _ => rfl) (fun s => zbq s.1) (fun s K Q h c => ⟨_, _, rfl, h, fun r hr => c r _ hr rfl⟩)) (sm_F (z5 (er := (eL D.int)) (zf (zc 0 (eDT (kP kS kI) D.int) table rfl) zl) (fun _ => rfl) (fun s => zba s.1) (fun s K Q h c => ⟨_, _, rfl, h, fun r hr => c r _ hr rfl⟩)) ziu)) h (fun _ => rfl) ?_)
  intro names places h
  refine (v6 (yt (fun s => [s.1]) D.int 1 (zf (se_c D.int 1 rfl) zl) (fun _ => rfl) (fun _ => rfl) (by show 1 ≤ sizeLine; decide)) h ?_)
  intro powers h
  refine (zb0 (fun (powers1 : (List Int)) (j_ : Z × Unit) => [(fz ((eDT (kP kS kI) D.int) table)), (fz ((eO (eK kS D.int)) homes)), (fz ((eL sD) names)), (fz ((eL D.int) places)), (ow ((oL D.int) powers1)), j_.1, none, none, none, none, none, none, none]) (none, ()) (si_L (zc 2 (eL sD) names rfl)) h ?_ ?_)
  · intro N x_ powers2 j_1 nxt hN_nxt h
    refine xj ?_
    refine (z1x rfl (qz ziv (qf ziw (sv_o 4 powers2 (o := (oL D.int) powers2) rfl) (z1t (se_c D.int 1 rfl)) (um (o := (oL D.int) powers2) rfl rfl)) (qz u9 (zdc zcc (sv_f 3 (eL D.int) places rfl) zj) (se_c D.int 1 rfl))) rfl h ?_)
    intro powers3 h
    exact hN_nxt powers3 ((fz (sD x_)), ()) h
  · intro powers1 j_ h
    refine (v6 (ztk (e := D.int) (f := (kP kS kI))) h ?_)
    intro found h
    refine (zb0 (fun (found1 : (List ((Sg × Int) × Int))) (j_2 : Z × Z × Z × Z × Z × Z × Z × Unit) => [(fz ((eDT (kP kS kI) D.int) table)), (fz ((eO (eK kS D.int)) homes)), (fz ((eL sD) names)), (fz ((eL D.int) places)), (ow ((oL D.int) powers1)), j_2.1, (ow ((oDT (kP kS kI) D.int) found1)), j_2.2.1, j_2.2.2.1, j_2.2.2.2.1, j_2.2.2.2.2.1, j_2.2.2.2.2.2.1, j_2.2.2.2.2.2.2.1]) (j_.1, none, none, none, none, none, none, ()) (zwl (ek := (eP2 sD D.int)) (fun _ => rfl) (zc 0 (eDT (kP kS kI) D.int) table rfl)) h ?_ ?_)
    · intro N x_1 found2 j_3 nxt1 hN_nxt1 h
      refine ⟨_, rfl, rfl, _, _, rfl, _, _, rfl, rfl, ?_⟩
      refine (zg6 (zc 7 (eP2 sD D.int) x_1.1 rfl) h ?_)
      intro p_ h
      refine ⟨_, rfl, rfl, _, _, rfl, _, _, rfl, rfl, ?_⟩
      refine (qe (zwa (qz (ztl (fun _ => rfl)) (zc 1 (eO (eK kS D.int)) homes rfl) (se_c uD () rfl)) (zwa (zci (zge (fun _ => rfl) (fun _ _ _ h => h)) (zc 5 sD p_.1 rfl) (zyv 1 (eK kS D.int) homes rfl) zj) (za4 (zut (by decide)) (sv_v (qf (xu (fun _ => rfl)) (zyv 1 (eK kS D.int) homes rfl) (zc 5 sD p_.1 rfl) zj)) (sv_f 9 D.int p_.2 rfl) zj zj))) h ?_)
      intro is_home h
      refine (qe (qz ziv (qz zck (zdc zcc (sv_f 3 (eL D.int) places rfl) zj) (zq5 (sv_f 3 (eL D.int) places rfl) (zc 9 D.int p_.2 rfl) zj zj)) (qf ziw (sv_o 4 powers1 (o := (oL D.int) powers1) rfl) (qz zck (qz zck (zdc zcc (sv_f 2 (eL sD) names rfl) zj) (se_c D.int 1 rfl)) (zq5 (sv_f 2 (eL sD) names rfl) (zc 5 sD p_.1 rfl) zj zj)) (um (o := (oL D.int) powers1) rfl rfl))) h ?_)
      intro digit h
      refine (qe (qz u9 (qz ziv (qz u9 (qz ziv (zc 8 D.int x_1.2 rfl) (qz u9 (zdc zcc (sv_f 2 (eL sD) names rfl) zj) (se_c D.int 1 rfl))) (se_c D.int 1 rfl)) (qz u9 (zdc zcc (sv_f 2 (eL sD) names rfl) zj) (se_c D.int 1 rfl))) (zd2 ztm (sv_f 10 D.bl is_home rfl) zj)) h ?_)
      intro rank h
      refine (zqz (fun _ => rfl) (qz u9 (qz ziv (zc 12 D.int rank rfl) (qf ziw (sv_o 4 powers1 (o := (oL D.int) powers1) rfl) (zdc zcc (sv_f 2 (eL sD) names rfl) zj) (um (o := (oL D.int) powers1) rfl rfl))) (zc 11 D.int digit rfl)) (zc 7 (eP2 sD D.int) x_1.1 rfl) rfl rfl h ?_)
      intro found3 h
      exact hN_nxt1 found3 ((fz (sD p_.1)), (fz ((eP2 sD D.int) x_1.1)), (fz (D.int x_1.2)), (fz (D.int p_.2)), (fz (D.bl is_home)), (fz (D.int digit)), (fz (D.int rank)), ()) h
    · intro found1 j_2 h
      refine zbz rfl ?_
      exact hQ found1 h
@[irreducible] def vj (table : (List ((Sg × Int) × Int))) (homes : (Option (List (Sg × Int)))) (Q : (List (Sg × Int)) → Prop) : Prop :=
 zbr table homes fun t_ => jv t_ fun t_1 => retW t_1 Q
def zt : DSp := fun ds Q' => ∃ (table : (List ((Sg × Int) × Int))) (homes : (Option (List (Sg × Int)))) (K : (List (Sg × Int)) → Prop), ds = [(eDT (kP kS kI) D.int) table, (eO (eK kS D.int)) homes] ∧ vj table homes K ∧ ∀ r, K r → Q' (.own ((oK kS D.int) r))
theorem zma (ds : List D) (Q' : S → Prop) (h : zt ds Q') : yj zr xm (DEnds.of Q') (zp 2 ds) := by
  obtain ⟨table, homes, Q, rfl, h, hQ⟩ := h
  show yj zr xm (DEnds.of Q') [(fz ((eDT (kP kS kI) D.int) table)), (fz ((eO (eK kS D.int)) homes))]
  unfold yj
  unfold vj at h
  exact za5 (zmv (eo := (oK kS D.int)) (zf (zeo (er := (eDT (kP kS kI) D.int)) (zf (zc 0 (eDT (kP kS kI) D.int) table rfl) zl) (zf (zc 1 (eO (eK kS D.int)) homes rfl) zl) (fun _ => rfl) (fun _ => rfl) (fun _ _ => rfl) (fun s z => zbr s.1 z.1) (fun s z K Q h c => ⟨_, _, _, rfl, h, fun r hr => c r _ hr rfl⟩)) zl) (fun _ => rfl) (fun s => jv s.1) (fun s K Q h c => ⟨_, _, rfl, h, c⟩)) h (hQ)
@[irreducible] def vt (table : (List ((Sg × Int) × Int))) (Q : (List (Sg × Int)) → Prop) : Prop :=
 vj table none fun t_ => zav table t_ fun t_1 => retW t_1 Q
def qu : DSp := fun ds Q' => ∃ (table : (List ((Sg × Int) × Int))) (K : (List (Sg × Int)) → Prop), ds = [(eDT (kP kS kI) D.int) table] ∧ vt table K ∧ ∀ r, K r → Q' (.own ((oK kS D.int) r))
theorem zoh (ds : List D) (Q' : S → Prop) (h : qu ds Q') : zac xx zt (DEnds.of Q') (zp 1 ds) := by
  obtain ⟨table, Q, rfl, h, hQ⟩ := h
  show zac xx zt (DEnds.of Q') [(fz ((eDT (kP kS kI) D.int) table))]
  unfold zac
  unfold vt at h
  exact za5 (zmv (eo := (oK kS D.int)) (zf (zc 0 (eDT (kP kS kI) D.int) table rfl) (zf (zeo (er := (eK kS D.int)) (zf (zc 0 (eDT (kP kS kI) D.int) table rfl) zl) zl (fun _ => rfl) (fun _ => rfl) (fun _ _ => rfl) (fun s z => vj s.1 none) (fun s z K Q h c => ⟨_, _, _, rfl, h, fun r hr => c r _ hr rfl⟩)) zl)) (fun _ => rfl) (fun s => zav s.1 s.2.1) (fun s K Q h c => ⟨_, _, _, rfl, h, c⟩)) h (hQ)
@[irreducible] def u4 (table : (List ((Sg × Int) × Int))) (carrying : (List (Sg × Int))) (Q : Int → Prop) : Prop :=
 lcW carrying (fun (x_ : (Sg × Int)) (k_ : Option Int → Prop) => getW table (x_.1, x_.2) fun t_ => k_ (some t_)) fun t_1 => retW t_1.sum Q
def qi : DSp := fun ds Q' => ∃ (table : (List ((Sg × Int) × Int))) (carrying : (List (Sg × Int))) (K : Int → Prop), ds = [(eDT (kP kS kI) D.int) table, (eK kS D.int) carrying] ∧ u4 table carrying K ∧ ∀ r, K r → Q' (.fz (D.int r))
theorem zkx (ds : List D) (Q' : S → Prop) (h : qi ds Q') : u1 (DEnds.of Q') (zp 4 ds) := by
  obtain ⟨table, carrying, Q, rfl, h, hQ⟩ := h
  show u1 (DEnds.of Q') [(fz ((eDT (kP kS kI) D.int) table)), (fz ((eK kS D.int) carrying)), none, none]
  unfold u1
  unfold u4 at h
  exact zam (zd2 zqy (sv_v (xg (e := (eL D.int)) (zhb (body := fun (x_ : (Sg × Int)) (k_ : Option Int → Prop) => getW table (x_.1, x_.2) fun t_ => k_ (some t_)) (δh := [(fz ((eDT (kP kS kI) D.int) table)), (fz ((eK kS D.int) carrying)), none, none]) (δ2 := [(fz ((eDT (kP kS kI) D.int) table)), (fz ((eK kS D.int) carrying)), none, none]) (e := D.int) (zha (ek := sD) (fun _ => rfl) (zc 1 (eK kS D.int) carrying rfl)) rfl (fun x_ K J1 J0 h hJ1 hJ0 => ⟨_, rfl, rfl, _, _, rfl, _, _, rfl, rfl, (zi1 (zen (qf (zgd (fun _ => rfl)) (sv_f 0 (eDT (kP kS kI) D.int) table rfl) (zdd (fun s => (s.1, s.2.1)) (eP2 sD D.int) 2 (zf (zc 2 sD x_.1 rfl) (zf (zc 3 D.int x_.2 rfl) zl)) (fun _ => rfl) (fun _ => rfl) (by show 2 ≤ sizeLine; decide)) zj) h hJ1 rfl))⟩) rfl) (fun _ => rfl))) zj) h (hQ)
@[irreducible] def jc (table : (List ((Sg × Int) × Int))) (Q : Int → Prop) : Prop :=
 jv table fun t_ => u4 table t_ fun t_1 => retW t_1 Q
def qc : DSp := fun ds Q' => ∃ (table : (List ((Sg × Int) × Int))) (K : Int → Prop), ds = [(eDT (kP kS kI) D.int) table] ∧ jc table K ∧ ∀ r, K r → Q' (.fz (D.int r))
theorem zky (ds : List D) (Q' : S → Prop) (h : qc ds Q') : u3 zr qi (DEnds.of Q') (zp 1 ds) := by
  obtain ⟨table, Q, rfl, h, hQ⟩ := h
  show u3 zr qi (DEnds.of Q') [(fz ((eDT (kP kS kI) D.int) table))]
  unfold u3
  unfold jc at h
  exact zam (z5 (er := D.int) (zf (zc 0 (eDT (kP kS kI) D.int) table rfl) (zf (z5 (er := (eK kS D.int)) (zf (zc 0 (eDT (kP kS kI) D.int) table rfl) zl) (fun _ => rfl) (fun s => jv s.1) (fun s K Q h c => ⟨_, _, rfl, h, fun r hr => c r _ hr rfl⟩)) zl)) (fun _ => rfl) (fun s => u4 s.1 s.2.1) (fun s K Q h c => ⟨_, _, _, rfl, h, fun r hr => c r _ hr rfl⟩)) h (hQ)
@[irreducible] def vc (stream_here : Unit) (labels : (List (Int × Sg))) (groups : (List (List Int))) (weights : (List (Int × Int))) (Q : Bool → Prop) : Prop :=
 ju labels groups weights fun t_ => asgW t_ fun table =>
 asgW weights fun other =>
 qr stream_here (9 : Int) fun t_1 => asgW ((1 : Int) + t_1) fun row_id =>
 qr stream_here (12 : Int) fun t_2 => putW other row_id ((1 : Int) + t_2) fun other1 =>
 getW other1 row_id fun t_3 => getW weights row_id fun t_4 => asgW (if (t_3 - t_4) < 0 then -(t_3 - t_4) else (t_3 - t_4)) fun amount =>
 ju labels groups other1 fun t_5 => asgW t_5 fun changed =>
 jc changed fun t_6 => jc table fun t_7 => ifW (decide (amount < (if (t_6 - t_7) < 0 then -(t_6 - t_7) else (t_6 - t_7))))
  (retW false Q)
  (vt table fun t_8 => vt changed fun t_9 => zc3 t_8 t_9 fun one two =>
   zx (one.length ≤ 16777216) <| zx (two.length ≤ 16777216) <| ifW (!eqB (z4 sD (za one)) (z4 sD (za two)))
    (retW false Q)
    (lcW (za one) (fun (x_ : Sg) (k_ : Option Sg → Prop) => getW one x_ fun t_10 => getW two x_ fun t_11 => ifW (decide (amount < (if (t_10 - t_11) < 0 then -(t_10 - t_11) else (t_10 - t_11)))) (k_ (some x_)) (k_ none)) fun t_12 => retW (eqB t_12 ([] : (List Sg))) Q))
def z9 : DSp := fun ds Q' => ∃ (stream_here : Unit) (labels : (List (Int × Sg))) (groups : (List (List Int))) (weights : (List (Int × Int))) (K : Bool → Prop), ds = [qv stream_here, (eK kI sD) labels, (eL (eT D.int)) groups, (eK kI D.int) weights] ∧ vc stream_here labels groups weights K ∧ ∀ r, K r → Q' (.fz (D.bl r))
theorem zh6 (ds : List D) (Q' : S → Prop) (h : z9 ds Q') : v0 zah zv qu qc (DEnds.of Q') (zp 12 ds) := by
  obtain ⟨stream_here, labels, groups, weights, Q, rfl, h, hQ⟩ := h
  show v0 zah zv qu qc (DEnds.of Q') [(fz (qv stream_here)), (fz ((eK kI sD) labels)), (fz ((eL (eT D.int)) groups)), (fz ((eK kI D.int) weights)), none, none, none, none, none, none, none, none]
  unfold v0
  unfold vc at h
  refine (qe (z5 (er := (eDT (kP kS kI) D.int)) (zf (zc 1 (eK kI sD) labels rfl) (zf (zc 2 (eL (eT D.int)) groups rfl) (zf (zc 3 (eK kI D.int) weights rfl) zl))) (fun _ => rfl) (fun s => ju s.1 s.2.1 s.2.2.1) (fun s K Q h c => ⟨_, _, _, _, rfl, h, fun r hr => c r _ hr rfl⟩)) h ?_)
  intro table h
  refine (v6 (zcj zx9 (sv_f 3 (eK kI D.int) weights rfl) zj) h ?_)
  intro other h
  refine (qe (qz u9 (se_c D.int 1 rfl) (z5 (er := D.int) (zf (zc 0 qv stream_here rfl) (zf (se_c D.int 9 rfl) zl)) (fun _ => rfl) (fun s => qr s.1 s.2.1) (fun s K Q h c => za7 s K Q h (fun r hr => c r _ hr rfl)))) h ?_)
  intro row_id h
  refine (zg7 (fun _ => rfl) (qz u9 (se_c D.int 1 rfl) (z5 (er := D.int) (zf (zc 0 qv stream_here rfl) (zf (se_c D.int 12 rfl) zl)) (fun _ => rfl) (fun s => qr s.1 s.2.1) (fun s K Q h c => za7 s K Q h (fun r hr => c r _ hr rfl)))) (zc 6 D.int row_id rfl) rfl rfl h ?_)
  intro other1 h
  refine (qe (zd2 zqx (sv_v (qz zck (qf (xu (fun _ => rfl)) (sv_o 5 other1 (o := (oK kI D.int) other1) rfl) (zc 6 D.int row_id rfl) (um (o := (oK kI D.int) other1) rfl rfl)) (qf (xu (fun _ => rfl)) (sv_f 3 (eK kI D.int) weights rfl) (zc 6 D.int row_id rfl) zj))) zj) h ?_)
  intro amount h
  refine (qe (z5 (er := (eDT (kP kS kI) D.int)) (zf (zc 1 (eK kI sD) labels rfl) (zf (zc 2 (eL (eT D.int)) groups rfl) (zf (zj0 5 (eK kI D.int) other1 (o := (oK kI D.int) other1) rfl rfl) zl))) (fun _ => rfl) (fun s => ju s.1 s.2.1 s.2.2.1) (fun s K Q h c => ⟨_, _, _, _, rfl, h, fun r hr => c r _ hr rfl⟩)) h ?_)
  intro changed h
  refine (zwh (xt (qz zj1 (zd2 zqx (sv_v (qz zck (z5 (er := D.int) (zf (zc 8 (eDT (kP kS kI) D.int) changed rfl) zl) (fun _ => rfl) (fun s => jc s.1) (fun s K Q h c => ⟨_, _, rfl, h, fun r hr => c r _ hr rfl⟩)) (z5 (er := D.int) (zf (zc 4 (eDT (kP kS kI) D.int) table rfl) zl) (fun _ => rfl) (fun s => jc s.1) (fun s K Q h c => ⟨_, _, rfl, h, fun r hr => c r _ hr rfl⟩)))) zj) (zc 7 D.int amount rfl))) h ?_ ?_)
  · intro h
    exact zam (se_c D.bl false rfl) h (hQ)
  · intro h
    refine zq0 ?_
    refine (zg8 (sm_F (z5 (er := (eK kS D.int)) (zf (zc 4 (eDT (kP kS kI) D.int) table rfl) zl) (fun _ => rfl) (fun s => vt s.1) (fun s K Q h c => ⟨_, _, rfl, h, fun r hr => c r _ hr rfl⟩)) (sm_F (z5 (er := (eK kS D.int)) (zf (zc 8 (eDT (kP kS kI) D.int) changed rfl) zl) (fun _ => rfl) (fun s => vt s.1) (fun s K Q h c => ⟨_, _, rfl, h, fun r hr => c r _ hr rfl⟩)) ziu)) h (fun _ => rfl) ?_)
    intro one two h
    refine (zwh (xt (za4 (zfd (by decide)) (sv_v (xg (e := (eL sD)) (zcj (zem (ek := sD) (fun _ => rfl)) (sv_f 9 (eK kS D.int) one rfl) zj) (fun _ => rfl))) (sv_v (xg (e := (eL sD)) (zcj (zem (ek := sD) (fun _ => rfl)) (sv_f 10 (eK kS D.int) two rfl) zj) (fun _ => rfl))) zj zj)) h ?_ ?_)
    · intro h
      exact zam (se_c D.bl false rfl) h (hQ)
    · intro h
      refine zq0 ?_
      exact zam (za4 (zut (by decide)) (sv_v (xg (e := (eL sD)) (zhb (body := fun (x_ : Sg) (k_ : Option Sg → Prop) => getW one x_ fun t_10 => getW two x_ fun t_11 => ifW (decide (amount < (if (t_10 - t_11) < 0 then -(t_10 - t_11) else (t_10 - t_11)))) (k_ (some x_)) (k_ none)) (δh := [(fz (qv stream_here)), (fz ((eK kI sD) labels)), (fz ((eL (eT D.int)) groups)), (fz ((eK kI D.int) weights)), (fz ((eDT (kP kS kI) D.int) table)), (fz ((eK kI D.int) other1)), (fz (D.int row_id)), (fz (D.int amount)), (fz ((eDT (kP kS kI) D.int) changed)), (fz ((eK kS D.int) one)), (fz ((eK kS D.int) two)), none]) (δ2 := [(fz (qv stream_here)), (fz ((eK kI sD) labels)), (fz ((eL (eT D.int)) groups)), (fz ((eK kI D.int) weights)), (fz ((eDT (kP kS kI) D.int) table)), (fz ((eK kI D.int) other1)), (fz (D.int row_id)), (fz (D.int amount)), (fz ((eDT (kP kS kI) D.int) changed)), (fz ((eK kS D.int) one)), (fz ((eK kS D.int) two)), none]) (e := sD) (zyt (ek := sD) (fun _ => rfl) (zc 9 (eK kS D.int) one rfl)) rfl (fun x_ K J1 J0 h hJ1 hJ0 => (xj (ztp (xt (qz zj1 (zd2 zqx (sv_v (qz zck (qf (xu (fun _ => rfl)) (sv_f 9 (eK kS D.int) one rfl) (zc 11 sD x_ rfl) zj) (qf (xu (fun _ => rfl)) (sv_f 10 (eK kS D.int) two rfl) (zc 11 sD x_ rfl) zj))) zj) (zc 7 D.int amount rfl))) h (fun h => (zen (zc 11 sD x_ rfl) h hJ1 rfl)) (fun h => zyu h hJ0 rfl)))) rfl) (fun _ => rfl))) (sv_v (xg (e := (eL sD)) (yt (fun _ => ([] : (List Sg))) sD 0 zl (fun _ => rfl) (fun _ => rfl) (Nat.zero_le _)) (fun _ => rfl))) zj zj) h (hQ)
@[irreducible] def ua (groups : (List (List Int))) (Q : (List (Int × Int)) → Prop) : Prop :=
 x4 (q8 groups) ([] : (List (Int × Int))) (fun (x_ : (Int × (List Int))) (acc : (List (Int × Int))) (nxt : (List (Int × Int)) → Prop) => x4 x_.2 acc (fun (x_1 : Int) (acc1 : (List (Int × Int))) (nxt1 : (List (Int × Int)) → Prop) => putW acc1 x_1 x_.1 nxt1) nxt) fun t_ => retW t_ Q
def zq : DSp := fun ds Q' => ∃ (groups : (List (List Int))) (K : (List (Int × Int)) → Prop), ds = [(eL (eT D.int)) groups] ∧ ua groups K ∧ ∀ r, K r → Q' (.own ((oK kI D.int) r))
theorem zsu (ds : List D) (Q' : S → Prop) (h : zq ds Q') : zbf (DEnds.of Q') (zp 4 ds) := by
  obtain ⟨groups, Q, rfl, h, hQ⟩ := h
  show zbf (DEnds.of Q') [(fz ((eL (eT D.int)) groups)), none, none, none]
  unfold zbf
  unfold ua at h
  exact za5 (zd4 (δh := [(fz ((eL (eT D.int)) groups)), none, none, none]) (δ2 := [(fz ((eL (eT D.int)) groups)), none, none, none]) (eo := (oK kI D.int)) (body := fun (x_ : (Int × (List Int))) (acc : (List (Int × Int))) (nxt : (List (Int × Int)) → Prop) => x4 x_.2 acc (fun (x_1 : Int) (acc1 : (List (Int × Int))) (nxt1 : (List (Int × Int)) → Prop) => putW acc1 x_1 x_.1 nxt1) nxt) ([] : (List (Int × Int))) (zux (ei := (eT D.int)) (zf (zc 0 (eL (eT D.int)) groups rfl) zl)) rfl rfl (fun x_ acc nxt J h hJ => ⟨_, rfl, rfl, _, _, rfl, _, _, rfl, rfl, (zbd (zq2 (eo := (oK kI D.int)) (body := fun (x_1 : Int) (acc1 : (List (Int × Int))) (nxt1 : (List (Int × Int)) → Prop) => putW acc1 x_1 x_.1 nxt1) (si_T (zc 2 (eT D.int) x_.2 rfl)) rfl (fun x_1 acc1 nxt1 J h hJ => (xj (zbd (zcd (fun _ => rfl) (zc 3 D.int x_1 rfl) (zc 1 D.int x_.1 rfl) h hJ rfl)))) h hJ rfl))⟩) rfl) h (hQ)
@[irreducible] def uh (groups : (List (List Int))) (pins : (List (Sg × Int))) (Q : (List (Sg × Int)) → Prop) : Prop :=
 ua groups fun t_ => asgW t_ fun places =>
 asgW ([] : (List (Sg × Int))) fun found =>
 asgW ([] : (List (Int × Sg))) fun taken =>
 zx (pins.length ≤ 16777216) <| yn (z4 sD (za pins)) found taken (fun (x_ : Sg) (found2 : (List (Sg × Int))) (taken2 : (List (Int × Sg))) nxt =>
   getW pins x_ fun t_1 => asgW (valG places t_1) fun place =>
   ifW (place.isSome && (!inN taken2 place))
    (unW place fun t_2 => putW taken2 t_2 x_ fun taken3 =>
     getW pins x_ fun t_3 => putW found2 x_ t_3 fun found3 =>
     nxt found3 taken3)
    (nxt found2 taken2)) (fun (found1 : (List (Sg × Int))) (taken1 : (List (Int × Sg))) =>
   retW found1 Q)
def qx : DSp := fun ds Q' => ∃ (groups : (List (List Int))) (pins : (List (Sg × Int))) (K : (List (Sg × Int)) → Prop), ds = [(eL (eT D.int)) groups, (eK kS D.int) pins] ∧ uh groups pins K ∧ ∀ r, K r → Q' (.own ((oK kS D.int) r))
theorem zmb (ds : List D) (Q' : S → Prop) (h : qx ds Q') : yk zq (DEnds.of Q') (zp 7 ds) := by
  obtain ⟨groups, pins, Q, rfl, h, hQ⟩ := h
  show yk zq (DEnds.of Q') [(fz ((eL (eT D.int)) groups)), (fz ((eK kS D.int) pins)), none, none, none, none, none]
  unfold yk
  unfold uh at h
  refine (qe (z5 (er := (eK kI D.int)) (zf (zc 0 (eL (eT D.int)) groups rfl) zl) (fun _ => rfl) (fun s => ua s.1) (fun s K Q h c => ⟨_, _, rfl, h, fun r hr => c r _ hr rfl⟩)) h ?_)
  intro places h
  refine (v6 (yu (e := D.int) (f := kS)) h ?_)
  intro found h
  refine (v6 (yu (e := sD) (f := kI)) h ?_)
  intro taken h
  refine (zg9 (fun (found1 : (List (Sg × Int))) (taken1 : (List (Int × Sg))) (j_ : Z × Z × Unit) => [(fz ((eL (eT D.int)) groups)), (fz ((eK kS D.int) pins)), (fz ((eK kI D.int) places)), (ow ((oK kS D.int) found1)), (ow ((oK kI sD) taken1)), j_.1, j_.2.1]) (none, none, ()) (si_L (xg (e := (eL sD)) (zcj (zem (ek := sD) (fun _ => rfl)) (sv_f 1 (eK kS D.int) pins rfl) zj) (fun _ => rfl))) h ?_ ?_)
  · intro N x_ found2 taken2 j_1 nxt hN_nxt h
    refine xj ?_
    refine (qe (zhc (fun _ => rfl) (sv_f 2 (eK kI D.int) places rfl) (qf (xu (fun _ => rfl)) (sv_f 1 (eK kS D.int) pins rfl) (zc 5 sD x_ rfl) zj) zj zj) h ?_)
    intro place h
    refine (za6 (zmw (xt (qz (ztl (fun _ => rfl)) (zc 6 (eO D.int) place rfl) (se_c uD () rfl))) (xt (zci (zz7 (fun _ => rfl) (fun _ => rfl) (fun _ _ _ h => h)) (zc 6 (eO D.int) place rfl) (sv_o 4 taken2 (o := (oK kI sD) taken2) rfl) (um (o := (oK kI sD) taken2) rfl rfl)))) h ?_ ?_)
    · intro h
      refine (zg7 (fun _ => rfl) (zc 5 sD x_ rfl) (zlr (zc 6 (eO D.int) place rfl)) rfl rfl h ?_)
      intro taken3 h
      refine (zeb (fun _ => rfl) (qf (xu (fun _ => rfl)) (sv_f 1 (eK kS D.int) pins rfl) (zc 5 sD x_ rfl) zj) (zc 5 sD x_ rfl) rfl rfl h ?_)
      intro found3 h
      exact hN_nxt found3 taken3 ((fz (sD x_)), (fz ((eO D.int) place)), ()) h
    · intro h
      exact hN_nxt found2 taken2 ((fz (sD x_)), (fz ((eO D.int) place)), ()) h
  · intro found1 taken1 j_ h
    refine zbz rfl ?_
    exact hQ found1 h
@[irreducible] def zdi (table : (List ((Sg × Int) × Int))) (names : (List Sg)) (places : (List Int)) (Q : (List ((Sg × Int) × Int)) → Prop) : Prop :=
 x4 (za table) ([] : (List ((Sg × Int) × Int))) (fun (x_ : (Sg × Int)) (acc : (List ((Sg × Int) × Int))) (nxt : (List ((Sg × Int) × Int)) → Prop) => ifW ((!memB x_.1 names) && (!memB x_.2 places)) (getW table x_ fun t_ => putW acc x_ t_ nxt) (nxt acc)) fun t_1 => retW t_1 Q
def vi : DSp := fun ds Q' => ∃ (table : (List ((Sg × Int) × Int))) (names : (List Sg)) (places : (List Int)) (K : (List ((Sg × Int) × Int)) → Prop), ds = [(eDT (kP kS kI) D.int) table, (eL sD) names, (eL D.int) places] ∧ zdi table names places K ∧ ∀ r, K r → Q' (.own ((oDT (kP kS kI) D.int) r))
theorem zw1 (ds : List D) (Q' : S → Prop) (h : vi ds Q') : zdh (DEnds.of Q') (zp 4 ds) := by
  obtain ⟨table, names, places, Q, rfl, h, hQ⟩ := h
  show zdh (DEnds.of Q') [(fz ((eDT (kP kS kI) D.int) table)), (fz ((eL sD) names)), (fz ((eL D.int) places)), none]
  unfold zdh
  unfold zdi at h
  exact za5 (zd4 (δh := [(fz ((eDT (kP kS kI) D.int) table)), (fz ((eL sD) names)), (fz ((eL D.int) places)), none]) (δ2 := [(fz ((eDT (kP kS kI) D.int) table)), (fz ((eL sD) names)), (fz ((eL D.int) places)), none]) (eo := (oDT (kP kS kI) D.int)) (body := fun (x_ : (Sg × Int)) (acc : (List ((Sg × Int) × Int))) (nxt : (List ((Sg × Int) × Int)) → Prop) => ifW ((!memB x_.1 names) && (!memB x_.2 places)) (getW table x_ fun t_ => putW acc x_ t_ nxt) (nxt acc)) ([] : (List ((Sg × Int) × Int))) (zi0 (ek := (eP2 sD D.int)) (fun _ => rfl) (zc 0 (eDT (kP kS kI) D.int) table rfl)) rfl rfl (fun x_ acc nxt J h hJ => (xj (zz6 (zmw (xt (zci zq6 (zls (ea := (eP2 sD D.int)) (eb := sD) 0 (fun p => p.1) (sv_f 3 (eP2 sD D.int) x_ rfl) zj (fun _ => ⟨_, rfl, rfl⟩)) (sv_f 1 (eL sD) names rfl) zj)) (xt (zci zq6 (zls (ea := (eP2 sD D.int)) (eb := D.int) 1 (fun p => p.2) (sv_f 3 (eP2 sD D.int) x_ rfl) zj (fun _ => ⟨_, rfl, rfl⟩)) (sv_f 2 (eL D.int) places rfl) zj))) h (fun h => (zx7 (fun _ => rfl) (zc 3 (eP2 sD D.int) x_ rfl) (qf (zgd (fun _ => rfl)) (sv_f 0 (eDT (kP kS kI) D.int) table rfl) (zc 3 (eP2 sD D.int) x_ rfl) zj) h hJ rfl)) (fun h => hJ _ h)))) rfl) h (hQ)
@[irreducible] def yw (labels : (List (Int × Sg))) (groups : (List (List Int))) (weights : (List (Int × Int))) (pins : (List (Sg × Int))) (Q : (List ((Sg × Int) × Int)) → Prop) : Prop :=
 ua groups fun t_ => asgW t_ fun places =>
 lcW (zcl pins) (fun (x_ : Int) (k_ : Option Int → Prop) => getW places x_ fun t_1 => k_ (some t_1)) fun t_2 => asgW t_2 fun pinned =>
 ju labels groups weights fun t_3 => zdi t_3 (za pins) pinned fun t_4 => retW t_4 Q
def xy : DSp := fun ds Q' => ∃ (labels : (List (Int × Sg))) (groups : (List (List Int))) (weights : (List (Int × Int))) (pins : (List (Sg × Int))) (K : (List ((Sg × Int) × Int)) → Prop), ds = [(eK kI sD) labels, (eL (eT D.int)) groups, (eK kI D.int) weights, (eK kS D.int) pins] ∧ yw labels groups weights pins K ∧ ∀ r, K r → Q' (.fz ((eDT (kP kS kI) D.int) r))
theorem zro (ds : List D) (Q' : S → Prop) (h : xy ds Q') : zat zv zq vi (DEnds.of Q') (zp 7 ds) := by
  obtain ⟨labels, groups, weights, pins, Q, rfl, h, hQ⟩ := h
  show zat zv zq vi (DEnds.of Q') [(fz ((eK kI sD) labels)), (fz ((eL (eT D.int)) groups)), (fz ((eK kI D.int) weights)), (fz ((eK kS D.int) pins)), none, none, none]
  unfold zat
  unfold yw at h
  refine (qe (z5 (er := (eK kI D.int)) (zf (zc 1 (eL (eT D.int)) groups rfl) zl) (fun _ => rfl) (fun s => ua s.1) (fun s K Q h c => ⟨_, _, rfl, h, fun r hr => c r _ hr rfl⟩)) h ?_)
  intro places h
  refine (zq1 (e := (eL D.int)) (zhb (body := fun (x_ : Int) (k_ : Option Int → Prop) => getW places x_ fun t_1 => k_ (some t_1)) (δh := [(fz ((eK kI sD) labels)), (fz ((eL (eT D.int)) groups)), (fz ((eK kI D.int) weights)), (fz ((eK kS D.int) pins)), (fz ((eK kI D.int) places)), none, none]) (δ2 := [(fz ((eK kI sD) labels)), (fz ((eL (eT D.int)) groups)), (fz ((eK kI D.int) weights)), (fz ((eK kS D.int) pins)), (fz ((eK kI D.int) places)), none, none]) (e := D.int) (z2y (zc 3 (eK kS D.int) pins rfl)) rfl (fun x_ K J1 J0 h hJ1 hJ0 => (xj (zi1 (zen (qf (xu (fun _ => rfl)) (sv_f 4 (eK kI D.int) places rfl) (zc 6 D.int x_ rfl) zj) h hJ1 rfl)))) rfl) h (fun _ => rfl) ?_)
  intro pinned h
  exact zam (zeo (er := (eDT (kP kS kI) D.int)) (zf (z5 (er := (eDT (kP kS kI) D.int)) (zf (zc 0 (eK kI sD) labels rfl) (zf (zc 1 (eL (eT D.int)) groups rfl) (zf (zc 2 (eK kI D.int) weights rfl) zl))) (fun _ => rfl) (fun s => ju s.1 s.2.1 s.2.2.1) (fun s K Q h c => ⟨_, _, _, _, rfl, h, fun r hr => c r _ hr rfl⟩)) zl) (zf (xg (e := (eL sD)) (zcj (zx2 (ek := sD) (fun _ => rfl)) (sv_f 3 (eK kS D.int) pins rfl) zj) (fun _ => rfl)) (zf (zc 5 (eL D.int) pinned rfl) zl)) (fun _ => rfl) (fun _ => rfl) (fun _ _ => rfl) (fun s z => zdi s.1 z.1 z.2.1) (fun s z K Q h c => ⟨_, _, _, _, rfl, h, fun r hr => c r _ hr rfl⟩)) h (hQ)
@[irreducible] def u5 (labels : (List (Int × Sg))) (groups : (List (List Int))) (weights : (List (Int × Int))) (pins : (Option (List (Sg × Int)))) (homes : (Option (List (Sg × Int)))) (Q : (List (Sg × Int)) → Prop) : Prop :=
 iteW pins.isNone (fun k_ => k_ ([] : (List (Sg × Int)))) (fun k_1 => unW pins fun t_ => k_1 t_) fun t_1 => uh groups t_1 fun t_2 => asgW t_2 fun counting =>
 ua groups fun t_3 => asgW t_3 fun places =>
 x4 counting ([] : (List (Sg × Int))) (fun (x_ : (Sg × Int)) (acc : (List (Sg × Int))) (nxt : (List (Sg × Int)) → Prop) => getW places x_.2 fun t_4 => putW acc x_.1 t_4 nxt) fun t_5 => asgW t_5 fun found =>
 yw labels groups weights counting fun t_6 => vj t_6 homes fun t_7 => zx (found.length + t_7.length ≤ sizeLine) <| retW (qg (qg [] found) t_7) Q
def x3 : DSp := fun ds Q' => ∃ (labels : (List (Int × Sg))) (groups : (List (List Int))) (weights : (List (Int × Int))) (pins : (Option (List (Sg × Int)))) (homes : (Option (List (Sg × Int)))) (K : (List (Sg × Int)) → Prop), ds = [(eK kI sD) labels, (eL (eT D.int)) groups, (eK kI D.int) weights, (eO (eK kS D.int)) pins, (eO (eK kS D.int)) homes] ∧ u5 labels groups weights pins homes K ∧ ∀ r, K r → Q' (.own ((oK kS D.int) r))
theorem zrp (ds : List D) (Q' : S → Prop) (h : x3 ds Q') : zau zt zq qx xy (DEnds.of Q') (zp 10 ds) := by
  obtain ⟨labels, groups, weights, pins, homes, Q, rfl, h, hQ⟩ := h
  show zau zt zq qx xy (DEnds.of Q') [(fz ((eK kI sD) labels)), (fz ((eL (eT D.int)) groups)), (fz ((eK kI D.int) weights)), (fz ((eO (eK kS D.int)) pins)), (fz ((eO (eK kS D.int)) homes)), none, none, none, none, none]
  unfold zau
  unfold u5 at h
  refine (qe (z5 (er := (eK kS D.int)) (zf (zc 1 (eL (eT D.int)) groups rfl) (zf (z1s (xt (qz (z1v (fun _ => rfl)) (zc 3 (eO (eK kS D.int)) pins rfl) (se_c uD () rfl))) (xg (e := (eK kS D.int)) (yu (e := D.int) (f := kS)) (fun _ => rfl)) (zlr (zc 3 (eO (eK kS D.int)) pins rfl))) zl)) (fun _ => rfl) (fun s => uh s.1 s.2.1) (fun s K Q h c => ⟨_, _, _, rfl, h, fun r hr => c r _ hr rfl⟩)) h ?_)
  intro counting h
  refine (qe (z5 (er := (eK kI D.int)) (zf (zc 1 (eL (eT D.int)) groups rfl) zl) (fun _ => rfl) (fun s => ua s.1) (fun s K Q h c => ⟨_, _, rfl, h, fun r hr => c r _ hr rfl⟩)) h ?_)
  intro places h
  refine (zq1 (e := (eK kS D.int)) (zd4 (δh := [(fz ((eK kI sD) labels)), (fz ((eL (eT D.int)) groups)), (fz ((eK kI D.int) weights)), (fz ((eO (eK kS D.int)) pins)), (fz ((eO (eK kS D.int)) homes)), (fz ((eK kS D.int) counting)), (fz ((eK kI D.int) places)), none, none, none]) (δ2 := [(fz ((eK kI sD) labels)), (fz ((eL (eT D.int)) groups)), (fz ((eK kI D.int) weights)), (fz ((eO (eK kS D.int)) pins)), (fz ((eO (eK kS D.int)) homes)), (fz ((eK kS D.int) counting)), (fz ((eK kI D.int) places)), none, none, none]) (eo := (oK kS D.int)) (body := fun (x_ : (Sg × Int)) (acc : (List (Sg × Int))) (nxt : (List (Sg × Int)) → Prop) => getW places x_.2 fun t_4 => putW acc x_.1 t_4 nxt) ([] : (List (Sg × Int))) (zha (ek := sD) (fun _ => rfl) (zc 5 (eK kS D.int) counting rfl)) rfl rfl (fun x_ acc nxt J h hJ => ⟨_, rfl, rfl, _, _, rfl, _, _, rfl, rfl, (zbd (zcd (fun _ => rfl) (zc 8 sD x_.1 rfl) (qf (xu (fun _ => rfl)) (sv_f 6 (eK kI D.int) places rfl) (zc 9 D.int x_.2 rfl) zj) h hJ rfl))⟩) rfl) h (fun _ => rfl) ?_)
  intro found h
  exact za5 (z12 (zc 7 (eK kS D.int) found rfl) (zeo (er := (eK kS D.int)) (zf (z5 (er := (eDT (kP kS kI) D.int)) (zf (zc 0 (eK kI sD) labels rfl) (zf (zc 1 (eL (eT D.int)) groups rfl) (zf (zc 2 (eK kI D.int) weights rfl) (zf (zc 5 (eK kS D.int) counting rfl) zl)))) (fun _ => rfl) (fun s => yw s.1 s.2.1 s.2.2.1 s.2.2.2.1) (fun s K Q h c => ⟨_, _, _, _, _, rfl, h, fun r hr => c r _ hr rfl⟩)) zl) (zf (zc 4 (eO (eK kS D.int)) homes rfl) zl) (fun _ => rfl) (fun _ => rfl) (fun _ _ => rfl) (fun s z => vj s.1 z.1) (fun s z K Q h c => ⟨_, _, _, rfl, h, fun r hr => c r _ hr rfl⟩))) h (hQ)
@[irreducible] def zp0 (script : (List Int)) (Q : Bool → Prop) : Prop :=
 zan 0 (4 : Int) fun t_ => zfa t_ (fun (x_ : Int) nxt =>
   zi2 script x_ fun t_1 => asgW t_1 fun stream_here =>
   zbg stream_here fun t_2 => asgW t_2 fun p_ =>
   zuv (
     vc stream_here p_.2.1 p_.1 p_.2.2.1 fun t_14 => ifW (!t_14)
      (retW false Q)
      (nxt)) fun cont =>
   ifW (!eqB p_.1 ([] : (List (List Int))))
    (zan 0 (p_.1.length : Int) fun t_3 => lcW t_3 (fun (x_1 : Int) (k_ : Option (Sg × Int) → Prop) => ixW ([zcn, zl7, za9, za8] : (List Sg)) x_1 fun t_4 => k_ (some (t_4, x_1))) fun t_5 => asgW (qg [] t_5) fun names =>
   zbh p_.1 names fun t_6 => asgW t_6 fun told =>
   zkv stream_here p_.1 fun t_7 => asgW t_7 fun p_1 =>
   u5 told p_1.1 p_.2.2.1 none none fun t_8 => zad told p_1.1 t_8 fun t_9 => asgW t_9 fun ids =>
   lcW ids (fun (x_2 : Int) (k_1 : Option Int → Prop) => getW p_.2.2.1 x_2 fun t_10 => k_1 (some t_10)) fun t_11 => lcW p_1.2 (fun (x_3 : Int) (k_2 : Option Int → Prop) => getW p_.2.2.1 x_3 fun t_12 => k_2 (some t_12)) fun t_13 => ifW (decide (t_13.sum < t_11.sum))
    (retW false Q)
    (cont))
    (cont)) (
   retW true Q)
def sp_law : DSp := fun ds Q' => ∃ (script : (List Int)) (K : Bool → Prop), ds = [D.scr script] ∧ zp0 script K ∧ ∀ r, K r → Q' (.fz (D.bl r))
theorem z3i (ds : List D) (Q' : S → Prop) (h : sp_law ds Q') : zl8 zda x0 jb zhh xn z9 x3 (DEnds.of Q') (zp 14 ds) := by
  obtain ⟨script, Q, rfl, h, hQ⟩ := h
  show zl8 zda x0 jb zhh xn z9 x3 (DEnds.of Q') [(fz (D.scr script)), none, none, none, none, none, none, none, none, none, none, none, none, none]
  unfold zl8
  unfold zp0 at h
  refine (zx4 (fun (j_ : Z × Z × Z × Z × Z × Z × Z × Z × Z × Z × Z × Z × Z × Unit) => [(fz (D.scr script)), j_.1, j_.2.1, j_.2.2.1, j_.2.2.2.1, j_.2.2.2.2.1, j_.2.2.2.2.2.1, j_.2.2.2.2.2.2.1, j_.2.2.2.2.2.2.2.1, j_.2.2.2.2.2.2.2.2.1, j_.2.2.2.2.2.2.2.2.2.1, j_.2.2.2.2.2.2.2.2.2.2.1, j_.2.2.2.2.2.2.2.2.2.2.2.1, j_.2.2.2.2.2.2.2.2.2.2.2.2.1]) (none, none, none, none, none, none, none, none, none, none, none, none, none, ()) (zpz (zf (se_c D.int 4 rfl) zl)) h ?_ ?_)
  · intro N x_ j_1 nxt hN_nxt h
    refine xj ?_
    refine (qe (z5 (er := qv) (zf (zc 0 D.scr script rfl) (zf (zc 1 D.int x_ rfl) zl)) (fun _ => rfl) (fun s => zi2 s.1 s.2.1) (fun s K Q h c => zwj s K Q h (fun r hr => c r _ hr rfl))) h ?_)
    intro stream_here h
    refine (zg6 (z5 (er := (eP4 (eL (eT D.int)) (eK kI sD) (eK kI D.int) (eK kS D.int))) (zf (zc 2 qv stream_here rfl) zl) (fun _ => rfl) (fun s => zbg s.1) (fun s K Q h c => ⟨_, _, rfl, h, fun r hr => c r _ hr rfl⟩)) h ?_)
    intro p_ h
    refine ⟨_, rfl, rfl, _, _, rfl, _, _, rfl, _, _, rfl, _, _, rfl, rfl, ?_⟩
    refine zx3 (fun (j_2 : Z × Z × Z × Z × Z × Z × Z × Unit) => [(fz (D.scr script)), (fz (D.int x_)), (fz (qv stream_here)), (fz ((eL (eT D.int)) p_.1)), (fz ((eK kI sD) p_.2.1)), (fz ((eK kI D.int) p_.2.2.1)), (fz ((eK kS D.int) p_.2.2.2)), j_2.1, j_2.2.1, j_2.2.2.1, j_2.2.2.2.1, j_2.2.2.2.2.1, j_2.2.2.2.2.2.1, j_2.2.2.2.2.2.2.1]) h ?_ ?_
    · intro j_2 h
      refine (za6 (z1q (xt (z5 (er := D.bl) (zf (zc 2 qv stream_here rfl) (zf (zc 4 (eK kI sD) p_.2.1 rfl) (zf (zc 3 (eL (eT D.int)) p_.1 rfl) (zf (zc 5 (eK kI D.int) p_.2.2.1 rfl) zl)))) (fun _ => rfl) (fun s => vc s.1 s.2.1 s.2.2.1 s.2.2.2.1) (fun s K Q h c => ⟨_, _, _, _, _, rfl, h, fun r hr => c r _ hr rfl⟩)))) h ?_ ?_)
      · intro h
        exact zam (se_c D.bl false rfl) h (hQ)
      · intro h
        exact hN_nxt ((fz (D.int x_)), (fz (qv stream_here)), (fz ((eL (eT D.int)) p_.1)), (fz ((eK kI sD) p_.2.1)), (fz ((eK kI D.int) p_.2.2.1)), (fz ((eK kS D.int) p_.2.2.2)), j_2.1, j_2.2.1, j_2.2.2.1, j_2.2.2.2.1, j_2.2.2.2.2.1, j_2.2.2.2.2.2.1, j_2.2.2.2.2.2.2.1, ()) h
    · intro cont hJ_cont h
      refine (za6 (xt (za4 (zfd (by decide)) (sv_f 3 (eL (eT D.int)) p_.1 rfl) (sv_v (xg (e := (eL (eT D.int))) (yt (fun _ => ([] : (List (List Int)))) (eT D.int) 0 zl (fun _ => rfl) (fun _ => rfl) (Nat.zero_le _)) (fun _ => rfl))) zj zj)) h ?_ ?_)
      · intro h
        refine (qe (xg (e := (eK kS D.int)) (zcj (zwo (ek := sD) (e := D.int) (f := kS) (fun _ => rfl)) (sv_v (xg (e := (eL (eP2 sD D.int))) (zhb (body := fun (x_1 : Int) (k_ : Option (Sg × Int) → Prop) => ixW ([zcn, zl7, za9, za8] : (List Sg)) x_1 fun t_4 => k_ (some (t_4, x_1))) (δh := [(fz (D.scr script)), (fz (D.int x_)), (fz (qv stream_here)), (fz ((eL (eT D.int)) p_.1)), (fz ((eK kI sD) p_.2.1)), (fz ((eK kI D.int) p_.2.2.1)), (fz ((eK kS D.int) p_.2.2.2)), j_1.2.2.2.2.2.2.1, none, j_1.2.2.2.2.2.2.2.2.1, j_1.2.2.2.2.2.2.2.2.2.1, j_1.2.2.2.2.2.2.2.2.2.2.1, j_1.2.2.2.2.2.2.2.2.2.2.2.1, j_1.2.2.2.2.2.2.2.2.2.2.2.2.1]) (δ2 := [(fz (D.scr script)), (fz (D.int x_)), (fz (qv stream_here)), (fz ((eL (eT D.int)) p_.1)), (fz ((eK kI sD) p_.2.1)), (fz ((eK kI D.int) p_.2.2.1)), (fz ((eK kS D.int) p_.2.2.2)), j_1.2.2.2.2.2.2.1, (za1 j_1.2.2.2.2.2.2.2.1), j_1.2.2.2.2.2.2.2.2.1, j_1.2.2.2.2.2.2.2.2.2.1, j_1.2.2.2.2.2.2.2.2.2.2.1, j_1.2.2.2.2.2.2.2.2.2.2.2.1, j_1.2.2.2.2.2.2.2.2.2.2.2.2.1]) (e := (eP2 sD D.int)) (zpz (zf (zdc zcc (sv_f 3 (eL (eT D.int)) p_.1 rfl) zj) zl)) rfl (fun x_1 K J1 J0 h hJ1 hJ0 => (xj (zi1 (zen (zdd (fun s => (s.1, s.2.1)) (eP2 sD D.int) 2 (zf (qf ziw (sv_v (xg (e := (eL sD)) (yt (fun s => [s.1, s.2.1, s.2.2.1, s.2.2.2.1]) sD 4 (zf (se_c sD zcn rfl) (zf (se_c sD zl7 rfl) (zf (se_c sD za9 rfl) (zf (se_c sD za8 rfl) zl)))) (fun _ => rfl) (fun _ => rfl) (by show 4 ≤ sizeLine; decide)) (fun _ => rfl))) (zc 8 D.int x_1 rfl) zj) (zf (zc 8 D.int x_1 rfl) zl)) (fun _ => rfl) (fun _ => rfl) (by show 2 ≤ sizeLine; decide)) h hJ1 rfl)))) rfl) (fun _ => rfl))) zj) (fun _ => rfl)) h ?_)
        intro names h
        refine (qe (z5 (er := (eK kI sD)) (zf (zc 3 (eL (eT D.int)) p_.1 rfl) (zf (zc 7 (eK kS D.int) names rfl) zl)) (fun _ => rfl) (fun s => zbh s.1 s.2.1) (fun s K Q h c => ⟨_, _, _, rfl, h, fun r hr => c r _ hr rfl⟩)) h ?_)
        intro told h
        refine (zg6 (z5 (er := (eP2 (eL (eT D.int)) (eL D.int))) (zf (zc 2 qv stream_here rfl) (zf (zc 3 (eL (eT D.int)) p_.1 rfl) zl)) (fun _ => rfl) (fun s => zkv s.1 s.2.1) (fun s K Q h c => ⟨_, _, _, rfl, h, fun r hr => c r _ hr rfl⟩)) h ?_)
        intro p_1 h
        refine ⟨_, rfl, rfl, _, _, rfl, _, _, rfl, rfl, ?_⟩
        refine (qe (z5 (er := (eL D.int)) (zf (zc 9 (eK kI sD) told rfl) (zf (zc 10 (eL (eT D.int)) p_1.1 rfl) (zf (zeo (er := (eK kS D.int)) (zf (zc 9 (eK kI sD) told rfl) (zf (zc 10 (eL (eT D.int)) p_1.1 rfl) (zf (zc 5 (eK kI D.int) p_.2.2.1 rfl) zl))) zl (fun _ => rfl) (fun _ => rfl) (fun _ _ => rfl) (fun s z => u5 s.1 s.2.1 s.2.2.1 none none) (fun s z K Q h c => ⟨_, _, _, _, _, _, rfl, h, fun r hr => c r _ hr rfl⟩)) zl))) (fun _ => rfl) (fun s => zad s.1 s.2.1 s.2.2.1) (fun s K Q h c => ⟨_, _, _, _, rfl, h, fun r hr => c r _ hr rfl⟩)) h ?_)
        intro ids h
        refine (za6 (xt (qz zj1 (zd2 zqy (sv_v (xg (e := (eL D.int)) (zhb (body := fun (x_2 : Int) (k_1 : Option Int → Prop) => getW p_.2.2.1 x_2 fun t_10 => k_1 (some t_10)) (δh := [(fz (D.scr script)), (fz (D.int x_)), (fz (qv stream_here)), (fz ((eL (eT D.int)) p_.1)), (fz ((eK kI sD) p_.2.1)), (fz ((eK kI D.int) p_.2.2.1)), (fz ((eK kS D.int) p_.2.2.2)), (fz ((eK kS D.int) names)), (za1 j_1.2.2.2.2.2.2.2.1), (fz ((eK kI sD) told)), (fz ((eL (eT D.int)) p_1.1)), (fz ((eL D.int) p_1.2)), (fz ((eL D.int) ids)), none]) (δ2 := [(fz (D.scr script)), (fz (D.int x_)), (fz (qv stream_here)), (fz ((eL (eT D.int)) p_.1)), (fz ((eK kI sD) p_.2.1)), (fz ((eK kI D.int) p_.2.2.1)), (fz ((eK kS D.int) p_.2.2.2)), (fz ((eK kS D.int) names)), (za1 j_1.2.2.2.2.2.2.2.1), (fz ((eK kI sD) told)), (fz ((eL (eT D.int)) p_1.1)), (fz ((eL D.int) p_1.2)), (fz ((eL D.int) ids)), (za1 j_1.2.2.2.2.2.2.2.2.2.2.2.2.1)]) (e := D.int) (si_L (zc 12 (eL D.int) ids rfl)) rfl (fun x_2 K J1 J0 h hJ1 hJ0 => (xj (zi1 (zen (qf (xu (fun _ => rfl)) (sv_f 5 (eK kI D.int) p_.2.2.1 rfl) (zc 13 D.int x_2 rfl) zj) h hJ1 rfl)))) rfl) (fun _ => rfl))) zj) (zd2 zqy (sv_v (xg (e := (eL D.int)) (zhb (body := fun (x_3 : Int) (k_2 : Option Int → Prop) => getW p_.2.2.1 x_3 fun t_12 => k_2 (some t_12)) (δh := [(fz (D.scr script)), (fz (D.int x_)), (fz (qv stream_here)), (fz ((eL (eT D.int)) p_.1)), (fz ((eK kI sD) p_.2.1)), (fz ((eK kI D.int) p_.2.2.1)), (fz ((eK kS D.int) p_.2.2.2)), (fz ((eK kS D.int) names)), (za1 j_1.2.2.2.2.2.2.2.1), (fz ((eK kI sD) told)), (fz ((eL (eT D.int)) p_1.1)), (fz ((eL D.int) p_1.2)), (fz ((eL D.int) ids)), none]) (δ2 := [(fz (D.scr script)), (fz (D.int x_)), (fz (qv stream_here)), (fz ((eL (eT D.int)) p_.1)), (fz ((eK kI sD) p_.2.1)), (fz ((eK kI D.int) p_.2.2.1)), (fz ((eK kS D.int) p_.2.2.2)), (fz ((eK kS D.int) names)), (za1 j_1.2.2.2.2.2.2.2.1), (fz ((eK kI sD) told)), (fz ((eL (eT D.int)) p_1.1)), (fz ((eL D.int) p_1.2)), (fz ((eL D.int) ids)), (za1 (za1 j_1.2.2.2.2.2.2.2.2.2.2.2.2.1))]) (e := D.int) (si_L (zc 11 (eL D.int) p_1.2 rfl)) rfl (fun x_3 K J1 J0 h hJ1 hJ0 => (xj (zi1 (zen (qf (xu (fun _ => rfl)) (sv_f 5 (eK kI D.int) p_.2.2.1 rfl) (zc 13 D.int x_3 rfl) zj) h hJ1 rfl)))) rfl) (fun _ => rfl))) zj))) h ?_ ?_)
        · intro h
          exact zam (se_c D.bl false rfl) h (hQ)
        · intro h
          exact hJ_cont ((fz ((eK kS D.int) names)), (za1 j_1.2.2.2.2.2.2.2.1), (fz ((eK kI sD) told)), (fz ((eL (eT D.int)) p_1.1)), (fz ((eL D.int) p_1.2)), (fz ((eL D.int) ids)), (za1 (za1 j_1.2.2.2.2.2.2.2.2.2.2.2.2.1)), ()) h
      · intro h
        exact hJ_cont (j_1.2.2.2.2.2.2.1, j_1.2.2.2.2.2.2.2.1, j_1.2.2.2.2.2.2.2.2.1, j_1.2.2.2.2.2.2.2.2.2.1, j_1.2.2.2.2.2.2.2.2.2.2.1, j_1.2.2.2.2.2.2.2.2.2.2.2.1, j_1.2.2.2.2.2.2.2.2.2.2.2.2.1, ()) h
  · intro j_ h
    exact zam (se_c D.bl true rfl) h (hQ)
end
end K31
end Mv
namespace Mv
namespace K31
open PySem PySem.Spec PyProof.Rows L2 Tk Lb Ld Bw
open Lc
open Mt (Mat Best wOut worthOf)
theorem e_dr : zbg = Lc.drW := by with_unfolding_all rfl
theorem e_cp : yl = cpW := by with_unfolding_all rfl
theorem e_rw : zav = rwW := by with_unfolding_all rfl
theorem e_gp : jv = gpT := by with_unfolding_all rfl
theorem e_bc : vj = bcW := by with_unfolding_all rfl
theorem e_cv : u4 = cvW := by with_unfolding_all rfl
theorem e_gv : jc = gvW := by unfold jc gvW; rw [e_cv, e_gp]
theorem e_nw : vt = nwW := by unfold vt nwW; rw [e_bc, e_rw]
theorem e_po : ua = poW := by with_unfolding_all rfl
theorem e_cn : uh = cnW := by unfold uh cnW; rw [e_po]
theorem e_lt : ju = ltW := by with_unfolding_all rfl
theorem e_wo : zdi = woW := by with_unfolding_all rfl
theorem e_op : yw = opW := by unfold yw opW; rw [e_po, e_lt, e_wo]
theorem e_co : u5 = coW := by unfold u5 coW; rw [e_cn, e_po, e_op, e_bc]
theorem e_rn : zad = rnW := by with_unfolding_all rfl
theorem e_lo : zbh = loW := by with_unfolding_all rfl
theorem zyx {gs lb wt pn} (Dr : Drw gs lb wt pn) : Grs gs ∧ gs.flatten.length ≤ 9 ∧ Wts gs wt := by
  have h := zao (m := ids9) Dr.nd fun i hi => Dr.rng i hi
  have h9 : ids9.length = 9 := rfl
  exact ⟨⟨by have := Dr.gl; omega, Dr.nd, by omega⟩, by omega, fun i hi => Dr.wk i (Dr.rng i hi)⟩
/-! ### the greatest value as a greatest sum -/
theorem gvK {T : Tb} (nd : (za T).Nodup) : ∃ F : Sg → Option Int, (∀ r r' c, F r = some c → F r' = some c → r = r') ∧ gvT T = Kp T F ∧ ∀ g : Sg → Option Int, (∀ r r' c, g r = some c → g r' = some c → r = r') → Kp T g ≤ gvT T := by
  obtain ⟨F, B⟩ := Mt.best_ex (w := tb T) (rs := nms T) (cs := pls T) (fun r c x h => zrh r c x h) (yh T)
  have e : gvT T = Kp T F := by rw [← zl1 (yh T) zi6 B, V_Kp nd]
  exact ⟨F, B.mt.inj, e, fun g hg => by rw [e]; exact zwy nd B hg⟩
/-- two tables whose sums differ by nothing or by d -/
theorem near {T T' : Tb} {d : Int} (nd : (za T).Nodup) (nd' : (za T').Nodup) (h : ∀ f : Sg → Option Int, (∀ r r' c, f r = some c → f r' = some c → r = r') → Kp T' f = Kp T f ∨ Kp T' f = Kp T f + d) :
    (0 ≤ d → 0 ≤ gvT T' - gvT T ∧ gvT T' - gvT T ≤ d) ∧ (d ≤ 0 → d ≤ gvT T' - gvT T ∧ gvT T' - gvT T ≤ 0) := by
  obtain ⟨F, i1, e1, m1⟩ := gvK nd
  obtain ⟨F', i2, e2, m2⟩ := gvK nd'
  have a1 := h F i1
  have a2 := h F' i2
  have b1 := m2 F i1
  have b2 := m1 F' i2
  constructor <;> intro hd <;> omega
def cutN (n : Sg) (f : Sg → Option Int) : Sg → Option Int := fun r => if r = n then none else f r
theorem z3m {n : Sg} {f : Sg → Option Int} (h : ∀ r r' c, f r = some c → f r' = some c → r = r') : ∀ r r' c, cutN n f r = some c → cutN n f r' = some c → r = r' := fun r r' c e e' => by
  unfold cutN at e e'
  split at e
  · cases e
  · split at e'
    · cases e'
    · exact h r r' c e e'
def zfi (T : Tb) (n : Sg) : Tb := T.filter fun q => !memB q.1.1 [n] && true
theorem zn2 (T : Tb) (n : Sg) : za (zfi T n) = (za T).filter fun k => !memB k.1 [n] && true := by
  unfold zfi za
  rw [List.filter_map]; rfl
theorem zt5 {T : Tb} (nd : (za T).Nodup) (n : Sg) : (za (zfi T n)).Nodup := by rw [zn2]; exact nd.filter _
theorem zt6 {T : Tb} (nd : (za T).Nodup) (n : Sg) : tb (zfi T n) = wOut (tb T) n := by
  funext a p
  show tb (T.filter fun q => _) a p = _
  rw [zny nd (fun k => !memB k.1 [n] && true)]
  unfold wOut
  by_cases e : a = n
  · subst e; simp [memB]
  · simp [memB, e]
theorem zt7 {T : Tb} (nd : (za T).Nodup) (n : Sg) (f : Sg → Option Int) : Kp (zfi T n) f = Kp T (cutN n f) := by
  unfold Kp
  rw [zn2]
  have : ((za T).map fun k => if cutN n f k.1 = some k.2 then Tk.pv T k else 0) = (za T).map fun k => if (!memB k.1 [n] && true) = true then (if f k.1 = some k.2 then Tk.pv (zfi T n) k else 0) else 0 := List.map_congr_left fun k hk => by
    unfold cutN
    by_cases e : k.1 = n
    · simp [e, memB]
    · have c : (!memB k.1 [n] && true) = true := by simp [memB, e]
      rw [if_neg e, if_pos c]
      have : Tk.pv (zfi T n) k = Tk.pv T k := by
        unfold Tk.pv zfi
        rw [zdm nd (fun k => !memB k.1 [n] && true) k, if_pos c]
      rw [this]
  rw [this, Bw.sum_if]
/-- one weight changes -/
theorem zn3 {lb : List (Int × Sg)} {wt wt' : List (Int × Int)} {f : Sg → Option Int} {i d : Int} (hw : ∀ j, Tk.pv wt' j = if j = i then Tk.pv wt j + d else Tk.pv wt j) : ∀ (ys : List (Int × Int)), (ys.map (·.2)).Nodup → (ys.map (term lb wt' f)).sum = (ys.map (term lb wt f)).sum ∨ (ys.map (term lb wt' f)).sum = (ys.map (term lb wt f)).sum + d
  | [], _ => .inl rfl
  | y :: ys, nd => by
    obtain ⟨n1, n2⟩ := List.nodup_cons.mp nd
    have ih := zn3 (lb := lb) (f := f) hw ys n2
    have same : ∀ z : Int × Int, z.2 ≠ i → term lb wt' f z = term lb wt f z := fun z hz => by
      unfold term
      rw [hw, if_neg hz]
    simp only [List.map_cons, List.sum_cons]
    by_cases e : y.2 = i
    · have e2 : ys.map (term lb wt' f) = ys.map (term lb wt f) := List.map_congr_left fun z hz => same z fun q => n1 (by show y.2 ∈ _; rw [e, ← q]; exact List.mem_map.mpr ⟨z, hz, rfl⟩)
      rw [e2]
      have : term lb wt' f y = term lb wt f y ∨ term lb wt' f y = term lb wt f y + d := by
        unfold term
        rw [hw, if_pos e]
        split
        · split
          · exact .inr rfl
          · exact .inl rfl
        · exact .inl rfl
      omega
    · rw [same y e]; omega
theorem zw2 {gs lb wt pn} {Q : Bool → Prop} (Dr : Drw gs lb wt pn) (h : Q true) : vc () lb gs wt Q := by
  obtain ⟨G, g9, W⟩ := zyx Dr
  have hz := v7
  unfold vc
  rw [e_lt, e_gv, e_nw]
  refine zu2 G W fun I => asgI (asgI (zd6 (by decide) (by decide) fun r r0 r1 => asgI (zd6 (by decide) (by decide) fun s s0 s1 => putI (by have := Dr.wl; omega) ?_)))
  have hi : (1 : Int) + r ∈ ids9 := mem_ids.mpr (by omega)
  obtain ⟨w, hw, hw1, hw2⟩ := Dr.wk _ hi
  have hv : valG (putG wt (1 + r) (1 + s)) (1 + r) = some (1 + s) := by rw [jh, if_pos rfl]
  refine getI hv (getI hw (asgI ?_))
  have W' : Wts gs (putG wt (1 + r) (1 + s)) := fun j hj => by
    rw [jh]
    by_cases e : j = 1 + r
    · exact ⟨1 + s, by rw [if_pos e], by omega, by omega⟩
    · obtain ⟨x, hx, hx1⟩ := W j hj
      exact ⟨x, by rw [if_neg e]; exact hx, hx1⟩
  refine zu2 G W' fun I' => asgI ?_
  have pw : ∀ j, Tk.pv (putG wt (1 + r) (1 + s)) j = if j = 1 + r then Tk.pv wt j + (1 + s - w) else Tk.pv wt j := fun j => by
    unfold Tk.pv
    rw [jh]
    by_cases e : j = 1 + r
    · rw [if_pos e, if_pos e, e, hw]; simp; omega
    · rw [if_neg e, if_neg e]
  have kp : ∀ f, Kp (ltF lb (putG wt (1 + r) (1 + s)) gs) f = Kp (ltF lb wt gs) f ∨ Kp (ltF lb (putG wt (1 + r) (1 + s)) gs) f = Kp (ltF lb wt gs) f + (1 + s - w) := fun f => by
    rw [I.sum, I'.sum]
    exact zn3 pw (gp gs) G.ids
  have ek : ∀ k, k ∈ za (ltF lb wt gs) ↔ k ∈ za (ltF lb (putG wt (1 + r) (1 + s)) gs) := fun k => by rw [zt2, zt2]
  have en : nms (ltF lb wt gs) = nms (ltF lb (putG wt (1 + r) (1 + s)) gs) := znx ek
  generalize ltF lb wt gs = T at *
  generalize ltF lb (putG wt (1 + r) (1 + s)) gs = T' at *
  have F : Fit T := zrk I G.len
  have F' : Fit T' := zrk I' G.len
  obtain ⟨n1, n2⟩ := near (d := 1 + s - w) I.nd I'.nd fun f _ => kp f
  refine F'.gv (F.gv (ifF ?_ ?_))
  · rw [decide_eq_false_iff_not]
    by_cases c : 0 ≤ 1 + s - w
    · have := n1 c; split <;> split <;> omega
    · have := n2 (by omega); split <;> split <;> omega
  refine F.nw fun f1 pr1 one B1 P1 mw nw lw vw => F'.nw fun f2 pr2 two B2 P2 mw' nw' lw' vw' => zrd (x5 (by have := F.len; omega) (x5 (by have := F'.len; omega) ?_))
  have es : z4 sD (za one) = z4 sD (za two) := zre (zc4 mw mw' fun a => by rw [nw, nw', en])
  refine ifF (by rw [es]; simp [eqB]) ?_
  refine sift (fun _ => false) (by rw [xc]; have := F.len; omega) (fun q hq k hk => ?_) ?_
  · have hk : k none := by unfold ifW at hk; simpa using hk
    have hn : q ∈ nms T := (nw q).mp hq
    have hn' : q ∈ nms T' := by rw [← en]; exact hn
    have v1 := vw q hn
    have v2 := vw' q hn'
    rw [zl2 B1 P1 hn (zt6 I.nd q)] at v1
    rw [zl2 B2 P2 hn' (zt6 I'.nd q)] at v2
    obtain ⟨m1, m2⟩ := near (d := 1 + s - w) (zt5 I.nd q) (zt5 I'.nd q) fun f _ => by
      rw [zt7 I.nd, zt7 I'.nd]; exact kp _
    refine getI v1 (getI v2 (ifF ?_ hk))
    rw [decide_eq_false_iff_not]
    by_cases c : 0 ≤ 1 + s - w
    · have := n1 c; have := m1 c; split <;> split <;> omega
    · have := n2 (by omega); have := m2 (by omega); split <;> split <;> omega
  · exact retI (by simpa [eqB] using h)
/-! ### members that move -/
theorem zkz {α : Type} : ∀ (L : List (List α)) (p : Nat) (g g' : List α), L[p]? = some g → ((L.set p g').flatten ++ g).Perm (L.flatten ++ g')
  | [], p, g, g', h => by simp at h
  | x :: L, 0, g, g', h => by
    have h : x = g := by simpa using h
    subst h
    show ((g' ++ L.flatten) ++ x).Perm ((x ++ L.flatten) ++ g')
    refine List.perm_append_comm.trans ?_
    rw [← List.append_assoc, List.append_assoc]
    refine List.Perm.trans (l₂ := x ++ (L.flatten ++ g')) (List.Perm.append_left _ List.perm_append_comm) ?_
    rw [← List.append_assoc]
  | x :: L, p + 1, g, g', h => by
    have h : L[p]? = some g := by simpa using h
    show ((x ++ (L.set p g').flatten) ++ g).Perm ((x ++ L.flatten) ++ g')
    rw [List.append_assoc, List.append_assoc]
    exact List.Perm.append_left _ (zkz L p g g' h)
theorem zd7 {gs n f m} (h : Moved gs n f m) : f.flatten.Perm gs.flatten := by
  induction h with
  | nil => exact .refl _
  | skip _ ih => exact ih
  | @go n f m p q i g g2 x h hp hi hq ih =>
    have hl := (List.getElem?_eq_some_iff.mp hi).1
    have hx := (List.getElem?_eq_some_iff.mp hi).2
    have a := zkz f p g (g.eraseIdx i) hp
    have b := zkz (f.set p (g.eraseIdx i)) q g2 (g2 ++ [x]) hq
    have c := erase_perm (xs := g) hl
    rw [hx] at c
    have a2 : ((f.set p (g.eraseIdx i)).flatten ++ [x]).Perm f.flatten := by
      have : (((f.set p (g.eraseIdx i)).flatten ++ [x]) ++ g.eraseIdx i).Perm (f.flatten ++ g.eraseIdx i) := by
        rw [List.append_assoc]
        exact (List.Perm.append_left _ c).trans a
      exact (List.perm_append_right_iff _).mp this
    have b2 : (((f.set p (g.eraseIdx i)).set q (g2 ++ [x])).flatten).Perm ((f.set p (g.eraseIdx i)).flatten ++ [x]) := by
      have : (((f.set p (g.eraseIdx i)).set q (g2 ++ [x])).flatten ++ g2).Perm (((f.set p (g.eraseIdx i)).flatten ++ [x]) ++ g2) := by
        refine b.trans ?_
        rw [List.append_assoc]
        exact List.Perm.append_left _ List.perm_append_comm
      exact (List.perm_append_right_iff _).mp this
    exact (b2.trans a2).trans ih
theorem zn4 {gs n f m} (h : Moved gs n f m) : ∀ i ∈ m, i ∈ gs.flatten := by
  induction h with
  | nil => intro i h; cases h
  | skip _ ih => exact ih
  | @go n f m p q j g g2 x h hp hi hq ih =>
    intro i hm
    rcases List.mem_append.mp hm with z | z
    · exact ih i z
    · have : i = x := by simpa using z
      rw [this, ← (zd7 h).mem_iff]
      exact List.mem_flatten.mpr ⟨g, List.mem_of_getElem? hp, List.mem_of_getElem? hi⟩
theorem zmc {f : List (List Int)} {p : Nat} {g g' : List Int} (hp : f[p]? = some g) {i : Int} (h : i ∈ g → i ∈ g') {q : Int} (hq : (q, i) ∈ gp f) : (q, i) ∈ gp (f.set p g') := by
  obtain ⟨n, y, rfl, hn, hy⟩ := mem_gp.mp hq
  refine mem_gp.mpr ?_
  by_cases e : p = n
  · subst e
    have hl := (List.getElem?_eq_some_iff.mp hp).1
    rw [hp] at hn
    cases hn
    exact ⟨p, g', rfl, by rw [List.getElem?_set_self hl], h hy⟩
  · exact ⟨n, y, rfl, by rw [List.getElem?_set_ne e]; exact hn, hy⟩
/-- who has not moved is where it was -/
theorem zu5 {gs n f m} (h : Moved gs n f m) : ∀ i, i ∉ m → ∀ p, (p, i) ∈ gp gs → (p, i) ∈ gp f := by
  induction h with
  | nil => intro i _ p h; exact h
  | skip _ ih => exact ih
  | @go n f m p q j g g2 x h hp hj hq ih =>
    intro i hm r hr
    have h1 : i ∉ m := fun z => hm (List.mem_append_left _ z)
    have h2 : i ≠ x := fun z => hm (by simp [z])
    refine zmc hq (fun z => List.mem_append_left _ z) (zmc hp (fun z => ?_) (ih i h1 r hr))
    have hl := (List.getElem?_eq_some_iff.mp hj).1
    have hx := (List.getElem?_eq_some_iff.mp hj).2
    have c := (erase_perm (xs := g) hl).mem_iff.mpr z
    rw [hx] at c
    exact (List.mem_cons.mp c).resolve_left h2
/-- the groups as they are handed on -/
def qj (f : List (List Int)) : List (List Int) := (f.filter fun g => !eqB g []).map (z4 D.int)
theorem zd8 : ∀ (f : List (List Int)), (qj f).flatten.Perm f.flatten
  | [] => .refl _
  | g :: f => by
    have ih := zd8 f
    unfold qj at ih ⊢
    by_cases e : g = []
    · subst e; simpa [eqB] using ih
    · have c : (!eqB g []) = true := by simp [eqB, e]
      rw [List.filter_cons, if_pos c, List.map_cons, List.flatten_cons, List.flatten_cons]
      exact (jt D.int g).append ih
theorem zyh {f : List (List Int)} {p i : Int} (h : (p, i) ∈ gp f) : ∃ q, ∀ i', (p, i') ∈ gp f → (q, i') ∈ gp (qj f) := by
  obtain ⟨n, g, rfl, hn, hi⟩ := mem_gp.mp h
  have ne : g ≠ [] := fun e => by subst e; cases hi
  have hm : z4 D.int g ∈ qj f := List.mem_map.mpr ⟨g, List.mem_filter.mpr ⟨List.mem_of_getElem? hn, by simp [eqB, ne]⟩, rfl⟩
  obtain ⟨k, hk⟩ := List.mem_iff_getElem?.mp hm
  refine ⟨(k : Int), fun i' hi' => ?_⟩
  obtain ⟨n', g', e, hn', hg'⟩ := mem_gp.mp hi'
  have : n = n' := by omega
  subst this
  rw [hn] at hn'
  cases hn'
  exact mem_gp.mpr ⟨k, _, rfl, hk, mem_sortL.mpr hg'⟩
theorem zu6 {f : List (List Int)} {q i : Int} (h : (q, i) ∈ gp (qj f)) : ∃ p, ∀ i', (q, i') ∈ gp (qj f) → (p, i') ∈ gp f := by
  obtain ⟨n, g, rfl, hn, hi⟩ := mem_gp.mp h
  obtain ⟨y, hy, e⟩ := List.mem_map.mp (List.mem_of_getElem? hn)
  obtain ⟨k, hk⟩ := List.mem_iff_getElem?.mp (List.mem_filter.mp hy).1
  refine ⟨(k : Int), fun i' hi' => ?_⟩
  obtain ⟨n', g', e', hn', hg'⟩ := mem_gp.mp hi'
  have : n = n' := by omega
  subst this
  rw [hn] at hn'
  cases hn'
  rw [← e] at hg'
  exact mem_gp.mpr ⟨k, y, rfl, hk, mem_sortL.mp hg'⟩
/-- the weight renamed is at most that of those that moved -/
theorem few {gs f : List (List Int)} {m : List Int} {n : Nat} {wt : List (Int × Int)} {A : List (Int × Sg)} {R N : Names} (G : Grs gs) (W : Wts gs wt) (M : Moved gs n f m) (Gf : Grs f) (Gr : Grs (qj f))
    (inj : ∀ l l' p, fn N l = some p → fn N l' = some p → l = l') (hA : ∀ i l, valG A i = some l ↔ ∃ p, fn N l = some p ∧ (p, i) ∈ gp gs)
    (C : Carried A (qj f) wt [] none R) {ys : List Int} (ny : ys.Nodup) (hy : ∀ i, i ∈ ys ↔ i ∈ m) :
    ((gp (qj f)).map (totl A wt)).sum - ((gp (qj f)).map (term A wt (fn R))).sum ≤ (ys.map (Tk.pv wt)).sum := by
  let g : Sg → Option Int := fun l => (fn N l).bind fun p => ((gp f).find? fun y => decide (y.1 = p)).bind fun y => valG (plT (qj f)) y.2
  have hg : ∀ l c, g l = some c → ∃ p y, fn N l = some p ∧ y ∈ gp f ∧ y.1 = p ∧ (c, y.2) ∈ gp (qj f) := fun l c e => by
    obtain ⟨p, hp, e⟩ := Option.bind_eq_some_iff.mp e
    obtain ⟨y, hy, e⟩ := Option.bind_eq_some_iff.mp e
    exact ⟨p, y, hp, List.mem_of_find?_eq_some hy, of_decide_eq_true (List.find?_some (p := fun (y : Int × Int) => decide (y.1 = p)) hy), (zgl Gr).mp e⟩
  have ginj : ∀ l l' c, g l = some c → g l' = some c → l = l' := fun l l' c e e' => by
    obtain ⟨p, y, h1, h2, h3, h4⟩ := hg l c e
    obtain ⟨p', y', k1, k2, k3, k4⟩ := hg l' c e'
    obtain ⟨P, hP⟩ := zu6 h4
    have a := hP _ h4
    have b := hP _ k4
    have a' : (y.1, y.2) ∈ gp f := h2
    have b' : (y'.1, y'.2) ∈ gp f := k2
    have e1 := Gf.one a a'
    have e2 := Gf.one b b'
    exact inj l l' p h1 (by rw [k1]; congr 1; omega)
  have most := Ld.Carried.most Gr (Cnt.nil _) C (g := g) ginj (fun n h => nomatch h) fun n p _ _ z => by
    have : pnd (qj f) [] = [] := rfl
    rw [this] at z; cases z
  have ids : ∀ y ∈ gp (qj f), y.2 ∈ gs.flatten := fun y hy => by
    rw [← (zd7 M).mem_iff, ← (zd8 f).mem_iff]
    exact Gr.id9 hy
  have h1 : ((gp (qj f)).map (totl A wt)).sum - ((gp (qj f)).map (term A wt g)).sum ≤ ((gp (qj f)).map fun y => if decide (y.2 ∈ m) = true then Tk.pv wt y.2 else 0).sum := by
    rw [← zgf]
    refine sum_le fun y hy => ?_
    have hw := W.pv (ids y hy)
    unfold totl term
    cases e : valG A y.2 with
    | none => simp; split <;> omega
    | some l =>
      by_cases hm : y.2 ∈ m
      · simp only [hm, decide_true, if_true]; split <;> omega
      · obtain ⟨p, hp, hpi⟩ := (hA y.2 l).mp e
        have st := zu5 M y.2 hm p hpi
        obtain ⟨q, hq⟩ := zyh st
        have hy' : (y.1, y.2) ∈ gp (qj f) := hy
        have eq := Gr.one (hq _ st) hy'
        have eg : g l = some y.1 := by
          show (fn N l).bind _ = _
          rw [hp]
          show ((gp f).find? fun y => decide (y.1 = p)).bind _ = _
          cases ef : (gp f).find? fun y => decide (y.1 = p) with
          | none => exact absurd (List.find?_eq_none.mp ef _ st) (by simp)
          | some z =>
            have z1 := List.mem_of_find?_eq_some ef
            have z2 : z.1 = p := of_decide_eq_true (List.find?_some (p := fun (y : Int × Int) => decide (y.1 = p)) ef)
            have z3 : (p, z.2) ∈ gp f := by rw [← z2]; exact z1
            exact (zgl Gr).mpr (by rw [← eq]; exact hq _ z3)
        simp [hm, eg]
  have h2 : ((gp (qj f)).map fun y => if decide (y.2 ∈ m) = true then Tk.pv wt y.2 else 0).sum = (ys.map (Tk.pv wt)).sum := by
    rw [Bw.sum_if (fun y : Int × Int => decide (y.2 ∈ m)) (fun y => Tk.pv wt y.2)]
    have e1 : (((gp (qj f)).filter fun y => decide (y.2 ∈ m)).map fun y => Tk.pv wt y.2) = (((gp (qj f)).map (·.2)).filter fun i => decide (i ∈ m)).map (Tk.pv wt) := by
      rw [List.filter_map, List.map_map]; rfl
    rw [e1, zi9]
    refine Mt.sum_perm (zc4 (Gr.nd.filter _) ny fun i => ?_)
    rw [List.mem_filter, hy]
    constructor
    · rintro ⟨_, z⟩; simpa using z
    · intro z
      refine ⟨?_, by simpa using z⟩
      rw [(zd8 f).mem_iff, (zd7 M).mem_iff]
      exact zn4 M i z
  omega
theorem z2b {K : Prop} {B : Prop → Prop} (h : ∀ c : Prop, (K → c) → B c) : zuv K B := h K fun h => h
def NM : List (Sg × Int) := [(zcn, 0), (zl7, 1), (za9, 2), (za8, 3)]
theorem law_ok (ns : List Int) (hl : ns.length ≤ 63) (hb : ∀ z ∈ ns, Builtin.Int.intBits z ≤ 1048576) : zp0 ns (fun b => b = true) := by
  have hz := v7
  unfold zp0
  refine zi7 (by decide) (by decide) (z3a (fun s hs nx hnx => ?_) rfl)
  have hs' := mem_range.mp hs
  refine ⟨⟨hs'.1, by omega, hb⟩, asgI ?_⟩
  rw [e_dr]
  refine zye fun gs lb wt pn Dr => asgI ?_
  obtain ⟨G, g9, W⟩ := zyx Dr
  have gl := Dr.gl
  dsimp only
  refine z2b fun cont hc => ?_
  have hc : cont := hc (zw2 Dr (ifF rfl hnx))
  refine ifI (fun z => ?_) fun _ => hc
  have ne : gs ≠ [] := fun e => by rw [e] at z; simp [eqB] at z
  refine zi7 (by decide) (by omega) ?_
  have er : yr 0 (gs.length : Int) = (List.range gs.length).map fun (k : Nat) => (k : Int) := by unfold yr; simp
  have nm4 : ∀ j : Fin 4, NM[j.1]? = some ((NM.getD j.1 (za8, 3)).1, (j.1 : Int)) := by decide +kernel
  refine zu3 (fun x : Int => ((NM.getD x.toNat (za8, 3)).1, x)) (by rw [zi8]; omega) (fun n x hx k hk => ?_) (asgI ?_)
  · have hx' := mem_range.mp (List.mem_of_getElem? hx)
    have h4 := nm4 ⟨x.toNat, by omega⟩
    refine ixI (zm1 (x := (NM.getD x.toNat (za8, 3)).1) ?_ hx'.1) hk
    have : ([zcn, zl7, za9, za8] : List Sg) = NM.map (·.1) := rfl
    rw [this, List.getElem?_map, h4]; rfl
  have eN : (yr 0 (gs.length : Int)).map (fun x : Int => ((NM.getD x.toNat (za8, 3)).1, x)) = NM.take gs.length := by
    rw [er, List.map_map]
    apply List.ext_getElem?
    intro j
    rw [List.getElem?_map, List.getElem?_take]
    by_cases c : j < gs.length
    · rw [List.getElem?_range c, if_pos c, nm4 ⟨j, by omega⟩]; rfl
    · rw [if_neg c, List.getElem?_eq_none (by simpa using c)]; rfl
  rw [eN]
  have ndN : (za (NM.take gs.length)).Nodup := List.Nodup.sublist ((List.take_sublist _ _).map _) (by decide +kernel : (za NM).Nodup)
  rw [zwx ndN]
  have fN : ∀ n p, fn (NM.take gs.length) n = some p → ∃ j : Nat, p = (j : Int) ∧ j < gs.length ∧ NM[j]? = some (n, p) := fun n p e => by
    obtain ⟨j, hj⟩ := List.mem_iff_getElem?.mp (ui e)
    rw [List.getElem?_take] at hj
    split at hj
    · rename_i c
      have := nm4 ⟨j, by omega⟩
      rw [this] at hj
      cases hj
      exact ⟨j, rfl, c, this⟩
    · cases hj
  have inj : ∀ l l' p, fn (NM.take gs.length) l = some p → fn (NM.take gs.length) l' = some p → l = l' := fun l l' p e e' => by
    obtain ⟨j, e1, _, h1⟩ := fN l p e
    obtain ⟨j', e2, _, h2⟩ := fN l' p e'
    have : j = j' := by omega
    subst this
    rw [h1] at h2
    cases h2; rfl
  rw [e_lo]
  refine z3h G ndN (by rw [List.length_take]; omega) (fun n p e => ?_) inj fun A hA => asgI ?_
  · obtain ⟨j, e1, hj, _⟩ := fN n p e
    have hm : gs[j] ∈ gs := List.getElem_mem hj
    obtain ⟨i, t, ht⟩ := List.exists_cons_of_ne_nil (Dr.ne _ hm)
    exact ⟨i, mem_gp.mpr ⟨j, gs[j], e1, List.getElem?_eq_getElem hj, by rw [ht]; exact List.mem_cons_self ..⟩⟩
  refine ⟨⟨ne, by omega, fun g hg => by have := G.le g hg; omega⟩, fun n f m hn M => ?_⟩
  obtain ⟨l1, l2, l3⟩ := M.lens
  refine x5 (by omega) fun ys ny hy => asgI ?_
  have Pf := zd7 M
  have Gf : Grs f := ⟨by omega, Pf.nodup_iff.mpr G.nd, by rw [Pf.length_eq]; omega⟩
  have Pr := (zd8 f).trans Pf
  have Gr : Grs (qj f) := ⟨by unfold qj; rw [List.length_map]; exact Nat.le_trans (List.length_filter_le _ _) (by omega), Pr.nodup_iff.mpr G.nd, by rw [Pr.length_eq]; omega⟩
  have Wr : Wts (qj f) wt := fun i hi => W i (Pr.mem_iff.mp hi)
  show u5 A (qj f) wt none none _
  rw [e_co, e_rn]
  refine z3g Gr Wr (fun _ e => by cases e) fun C R _ hC B => ?_
  have hC : C = [] := by rw [hC]; exact cnt_nil _
  subst hC
  refine z3d Gr fun ids hp => asgI ?_
  have rl : (rens A (fn R) (q8 (qj f))).length ≤ 250 := Nat.le_trans (List.length_filterMap_le _ _) Gr.len
  have ri : ∀ i ∈ rens A (fn R) (q8 (qj f)), i ∈ (qj f).flatten := fun i hi => by
    obtain ⟨y, hy, e⟩ := List.mem_filterMap.mp hi
    split at e
    · cases e; exact Gr.id9 hy
    · cases e
  have hp : ids.Perm (rens A (fn R) (q8 (qj f))) := hp
  have hl := hp.length_eq
  refine zu3 (Tk.pv wt) (by omega) (fun n x hx k hk => getI (Wr.pv (ri x (hp.mem_iff.mp (List.mem_of_getElem? hx)))).1 hk) ?_
  have ly : ys.length ≤ 3 := Nat.le_trans (zao ny fun i hi => (hy i).mp hi) (by omega)
  refine zu3 (Tk.pv wt) (by show (z4 D.int ys).length ≤ _; rw [zi5]; omega) (fun n x hx k hk => getI (W.pv (zn4 M x ((hy x).mp (mem_sortL.mp (List.mem_of_getElem? hx))))).1 hk) ?_
  refine ifF ?_ hc
  rw [decide_eq_false_iff_not]
  have main := few G W M Gf Gr inj hA B ny hy
  have e1 : (ids.map (Tk.pv wt)).sum = ((rens A (fn R) (q8 (qj f))).map (Tk.pv wt)).sum := Mt.sum_perm hp
  have e2 := zt1 (lb := A) (wt := wt) (f := fn R) (gp (qj f))
  have e3 : ((z4 D.int ys).map (Tk.pv wt)).sum = (ys.map (Tk.pv wt)).sum := Mt.sum_perm (jt D.int ys)
  have e4 : ((rens A (fn R) (q8 (qj f))).map (Tk.pv wt)).sum = (((gp (qj f)).filterMap fun y => if gone A (fn R) y = true then some y.2 else none).map (Tk.pv wt)).sum := rfl
  show ¬ ((z4 D.int ys).map (Tk.pv wt)).sum < (ids.map (Tk.pv wt)).sum
  omega
end K31
end Mv
namespace Mv
namespace K31
open PySem PySem.Spec PyProof.Rows L2
theorem hx80 {n : Nat} (h : n + 200 < cLine) : n + 80 < cLine := Nat.lt_of_le_of_lt (Nat.add_le_add_left (by decide : 80 ≤ 200) n) h
theorem hx1 {n : Nat} (h : n + 200 < cLine) : n + 1 < cLine := Nat.lt_of_le_of_lt (Nat.add_le_add_left (by decide : 1 ≤ 200) n) h
/-! ### what is asked of the classes -/
structure Txt [CTb] (K : PySem.W.Frag) : Prop where
  ok : True := trivial
section
variable [CTb]
def zhr : DS :=
 (dSeq (dAsg (d2 gAdd (dC (.int 19)) (dVar 1)) (gN 2))
 (dSeq (dFor (dIL (dVar 0)) (gN 3)
 (dAsg (d2 gAdd (d2 gMod (d2 gPow (d2 gAdd (d2 gMul (dVar 2) (dC (.int 40127))) (dVar 3)) (dC (.int 3))) (dC (.int 2147483629))) (dC (.int 1))) (gN 2)))
 (dSeq (dAsg (dC (.int 0)) (gN 4))
 (dSeq (dIfS (dAnd (dTst (d2 gLt (dVar 1) (d1V gLen (dVV 0)))) (dTst (d2 gGe (d2V gIx (dVV 0) (dVar 1)) (d2 gPow (dC (.int 10)) (dC (.int 18)))))) (dAsg (d2 gSub (d2V gIx (dVV 0) (dVar 1)) (d2 gPow (dC (.int 10)) (dC (.int 18)))) (gN 4)) uf)
 (dRet (zpq (dLst (zg (dVar 4) (zg (dVar 2) dNil)))))))))
end
section
variable [CTb] {P : Program} {w : World} {K : PySem.W.Frag} {mg : Str → Option Value} {base : Heap}
theorem zm3 {f : Addr} {fd : FuncData} {sp : DSp} (T : Txt K)
    (F : Fun K "_law_stream" "_law_stream" vm f fd)
    (u7 : mg "len" = none)
    (hs : ∀ ds Q', ds.length = 2 → sp ds Q' → (zhr) { nx := fun _ => Q' (.fz .non), rt := Q' } (zp 5 ds)) : FnOk P w K mg base CX0 1 f fd ["_law_script", "_law_start"] (spD K 2 sp) := by
  refine okD (k := 0) F zfq fun cdv A outer s H E hr => ?_
  have sc := zfq
  have hu200 : (A.deeper (envOfC "_law_stream" (defScope vm) s.heap.objs.size f cdv)).units + 200 < cLine := by have := hr.un; omega
  have hu80 := hx80 hu200
  have hu := hx1 hu200
  exact ⟨(zhr), (zh (z7 (i := 2) sc.nd rfl (by first | exact .inl rfl | exact .inr rfl) (uk zm (pdv 1)))
 (zh (vh PassesOwn.never rfl (za0 (pdv 0)) (zy (pg_name (i := 3) sc.nd rfl (by first | exact .inl rfl | exact .inr rfl)))
 (zo (z7 (i := 2) sc.nd rfl (by first | exact .inl rfl | exact .inr rfl) (uk (zfz (zf0 (uk (zej (pdv 2) zm) (pdv 3)) zm) zm) zm))))
 (zh (z7 (i := 4) sc.nd rfl (by first | exact .inl rfl | exact .inr rfl) zm)
 (zh (yc ((zij (z2l (pdv 1) (yp (by rfl) u7 (vdv 0))) (zf2 (zyj (z8 hu (vdv 0) (pdv 1)) (zf0 zm zm))))).pt (zo (z7 (i := 4) sc.nd rfl (by first | exact .inl rfl | exact .inr rfl) (zbc (z8 hu (vdv 0) (pdv 1)) (zf0 zm zm)))) ud)
 (zo (uv (z2r (uc (pdc (pdv 4) (pdc (pdv 2) pdn)))))))))), hs⟩
theorem zrq {f : Addr} {fd : FuncData} {sp : DSp} (T : Txt K)
    (F : Fun K "_law_draw" "_law_draw" uo f fd)
    (hs : ∀ ds Q', ds.length = 2 → sp ds Q' → (zfn) { nx := fun _ => Q' (.fz .non), rt := Q' } (zp 3 ds)) : FnOk P w K mg base CX0 1 f fd ["_law_stream_here", "_law_size"] (spD K 2 sp) := by
  refine okD (k := 0) F zib fun cdv A outer s H E hr => ?_
  have sc := zib
  have hu200 : (A.deeper (envOfC "_law_draw" (defScope uo) s.heap.objs.size f cdv)).units + 200 < cLine := by have := hr.un; omega
  have hu80 := hx80 hu200
  have hu := hx1 hu200
  exact ⟨(zfn), (zh (yc (zyj (zio (pdv 0) zm) (pdv 1)) (zh (z7 (i := 2) sc.nd rfl (by first | exact .inl rfl | exact .inr rfl) (zfz (zio (pdv 0) zm) (pdv 1)))
 (zh (jx (zve (zio (pdv 0) zm) (pdv 1)) (ztc (pdv 0) zm))
 (zo (zb7 (pv 2))))) ud)
 (zh (jx (zfz (uk (zej (zio (pdv 0) zm) zm) zm) zm) (ztc (pdv 0) zm))
 (zo (uv (zfz (zve (zfz (zf0 (zfz (zf0 (zio (pdv 0) zm) zm) zm) zm) zm) zm) (pdv 1)))))), hs⟩
theorem zm4 {f : Addr} {fd : FuncData} {sp : DSp} (T : Txt K)
    (F : Fun K "_law_choose" "_law_choose" vn f fd)
    {xf : Addr} {jd : FuncData} {zi : DSp}
    (ql : FnOk P w K mg base CX0 1 xf jd ["_law_stream_here", "_law_size"] (spD K 2 zi))
    (qm : mg "_law_draw" = some (.ref xf)) (qo : PySem.W.keepIn K (.ref xf) = true)
    (qp : Binds K jd ["_law_stream_here", "_law_size"] [])
    (u7 : mg "len" = none)
    (hs : ∀ ds Q', ds.length = 2 → sp ds Q' → (zdl zi) { nx := fun _ => Q' (.fz .non), rt := Q' } (zp 2 ds)) : FnOk P w K mg base CX0 2 f fd ["_law_stream_here", "_law_items"] (spD K 2 sp) := by
  refine okD (k := 1) F zfr fun cdv A outer s H E hr => ?_
  have sc := zfr
  have hu200 : (A.deeper (envOfC "_law_choose" (defScope vn) s.heap.objs.size f cdv)).units + 200 < cLine := by have := hr.un; omega
  have hu80 := hx80 hu200
  have hu := hx1 hu200
  exact ⟨(zdl zi), (zo (uv (z8 hu (vdv 1) (qh (K := K) (n := 2) (sp := zi) (pe_call ql (hr.mono (by decide)) (by rfl) qm qo qp .nil pass0 (pdc (pdv 0) (pdc (yp (by rfl) u7 (vdv 1)) pdn))))))), hs⟩
theorem zoi {f : Addr} {fd : FuncData} {sp : DSp} (T : Txt K)
    (F : Fun K "_law_drawn" "_law_drawn" ub f fd)
    {xf : Addr} {jd : FuncData} {zi : DSp}
    (ql : FnOk P w K mg base CX0 1 xf jd ["_law_stream_here", "_law_size"] (spD K 2 zi))
    (qm : mg "_law_draw" = some (.ref xf)) (qo : PySem.W.keepIn K (.ref xf) = true)
    (qp : Binds K jd ["_law_stream_here", "_law_size"] [])
    {zdn : Addr} {zgm : FuncData} {j9 : DSp}
    (zhs : FnOk P w K mg base CX0 2 zdn zgm ["_law_stream_here", "_law_items"] (spD K 2 j9))
    (zht : mg "_law_choose" = some (.ref zdn)) (zhu : PySem.W.keepIn K (.ref zdn) = true)
    (zhv : Binds K zgm ["_law_stream_here", "_law_items"] [])
    (zbb : mg "range" = none)
    (zm5 : mg "tuple" = none)
    (je : mg "sorted" = none)
    (zu7 : mg "int" = none)
    (u7 : mg "len" = none)
    (zjc : mg "list" = none)
    (hs : ∀ ds Q', ds.length = 1 → sp ds Q' → (zaq zi j9) { nx := fun _ => Q' (.fz .non), rt := Q' } (zp 11 ds)) : FnOk P w K mg base CX0 3 f fd ["_law_stream_here"] (spD K 1 sp) := by
  refine okD (k := 2) F zhj fun cdv A outer s H E hr => ?_
  have sc := zhj
  have hu200 : (A.deeper (envOfC "_law_drawn" (defScope ub) s.heap.objs.size f cdv)).units + 200 < cLine := by have := hr.un; omega
  have hu80 := hx80 hu200
  have hu := hx1 hu200
  exact ⟨(zaq zi j9), (zh (zf5 (i := 1) (j := 2) rfl sc.nd rfl rfl (by decide) rfl rfl (mmo (zuh rfl (by rfl) zjc (by rfl) zbb zm zm) (mmf (pfz (uc pdn)) mmn)) rfl)
 (zh (vh PassesOwn.never rfl (zf3 (by rfl) zbb (pdc (qh (K := K) (n := 2) (sp := zi) (pe_call ql (hr.mono (by decide)) (by rfl) qm qo qp .nil pass0 (pdc (pdv 0) (pdc zm pdn)))) pdn)) (zy (pg_name (i := 3) sc.nd rfl (by first | exact .inl rfl | exact .inr rfl)))
 (zh (zae (i := 4) sc.nd rfl (by first | exact .inl rfl | exact .inr rfl) (uc pdn))
 (zh (vh PassesOwn.never rfl (zf3 (by rfl) zbb (pdc (uk zm (qh (K := K) (n := 2) (sp := zi) (pe_call ql (hr.mono (by decide)) (by rfl) qm qo qp .nil pass0 (pdc (pdv 0) (pdc zm pdn))))) pdn)) (zy (pg_name (i := 5) sc.nd rfl (by first | exact .inl rfl | exact .inr rfl)))
 (zo (yc (qcm (zc7 hu80) (vdv 1) (vf (pfz (uc pdn))) (nomark _)) (zo (zp4 (pe_bm PySem.F.plainAttrs_list PySem.F.slot_list_append PySem.F.type_list_append mt_append (pv 4) (pa_cons (zw6 (pe_bm PySem.F.plainAttrs_list PySem.F.slot_list_pop PySem.F.type_list_pop mt_popAt (pv 1) (pa_cons (qh (K := K) (n := 2) (sp := zi) (pe_call ql (hr.mono (by decide)) (by rfl) qm qo qp .nil pass0 (pdc (pdv 0) (pdc (yp (by rfl) u7 (vdv 1)) pdn)))) pa_nil))) pa_nil)))) ud)))
 (zo (z7 (i := 2) sc.nd rfl (by first | exact .inl rfl | exact .inr rfl) (pfz (pb2O zzb (vdv 2) (vf (pfz (z1a (uc (pdc (pct (zs9) (by rfl) zm5 (by decide +kernel) (vvc (vf (pfz (pcbO (y2 rfl hu200) (by rfl) je (by decide +kernel) (vvc (vdv 4) vvn)))) vvn)) pdn)) (pct (zym) (by rfl) zu7 (by decide +kernel) (vvc (vf (pcm (zc7 hu80) (vdv 4) (vf (pfz (uc pdn))) (nomark _))) vvn))))))))))))
 (zh (zf5 (i := 6) (j := 7) rfl sc.nd rfl rfl (by decide) rfl rfl (mmo u8 (mmo u8 mmn)) rfl)
 (zh (vh PassesOwn.never rfl (zy5 (by rfl) zbb (pdc zm (pdc zm pdn))) (zy (pg_name (i := 8) sc.nd rfl (by first | exact .inl rfl | exact .inr rfl)))
 (zh (yc (zjr (qh (K := K) (n := 2) (sp := zi) (pe_call ql (hr.mono (by decide)) (by rfl) qm qo qp .nil pass0 (pdc (pdv 0) (pdc zm pdn)))) zm) (zo (jx (qh (K := K) (n := 2) (sp := j9) (pe_call zhs (hr.mono (by decide)) (by rfl) zht zhu zhv .nil pass0 (pdc (pdv 0) (pdc (pfz (uc (pdc yo (pdc yo (pdc yo (pdc yo pdn)))))) pdn)))) (uw hu (pv 6) (pdv 8)))) ud)
 (zo (jx (qh (K := K) (n := 2) (sp := j9) (pe_call zhs (hr.mono (by decide)) (by rfl) zht zhu zhv .nil pass0 (pdc (pdv 0) (pdc (pfz (uc (pdc zm (pdc zm (pdc zm (pdc zm (pdc (uk zm (qh (K := K) (n := 2) (sp := zi) (pe_call ql (hr.mono (by decide)) (by rfl) qm qo qp .nil pass0 (pdc (pdv 0) (pdc zm pdn))))) (pdc (zf0 zm zm) pdn)))))))) pdn)))) (uw hu (pv 7) (pdv 8))))))
 (zh (zae (i := 9) sc.nd rfl (by first | exact .inl rfl | exact .inr rfl) u8)
 (zh (vh PassesOwn.never rfl (za0 (pfz (uc (pdc yo (pdc yo (pdc yo (pdc yo (pdc yo pdn)))))))) (zy (pg_name (i := 10) sc.nd rfl (by first | exact .inl rfl | exact .inr rfl)))
 (zo (yc (qcm (zp9 hu80) (vf (qh (K := K) (n := 2) (sp := zi) (pe_call ql (hr.mono (by decide)) (by rfl) qm qo qp .nil pass0 (pdc (pdv 0) (pdc zm pdn))))) (vf zm) (nomark _)) (zo (jx (uk zm (qh (K := K) (n := 2) (sp := zi) (pe_call ql (hr.mono (by decide)) (by rfl) qm qo qp .nil pass0 (pdc (pdv 0) (pdc zm pdn))))) (uw hu (pv 9) (pdv 10)))) ud)))
 (zo (uv (zcf (pdc (pdv 2) (pdc (pdv 6) (pdc (pdv 7) (pdc (pdv 9) pdn))))))))))))), hs⟩
theorem zrr {f : Addr} {fd : FuncData} {sp : DSp} (T : Txt K)
    (F : Fun K "labels_of" "labels_of" v8 f fd)
    (hs : ∀ ds Q', ds.length = 2 → sp ds Q' → (zbe) { nx := fun _ => Q' (.fz .non), rt := Q' } (zp 5 ds)) : FnOk P w K mg base CX0 1 f fd ["groups", "names"] (spD K 2 sp) := by
  refine okD (k := 0) F zic fun cdv A outer s H E hr => ?_
  have sc := zic
  have hu200 : (A.deeper (envOfC "labels_of" (defScope v8) s.heap.objs.size f cdv)).units + 200 < cLine := by have := hr.un; omega
  have hu80 := hx80 hu200
  have hu := hx1 hu200
  exact ⟨(zbe), (zo (zaz (zln (dcu2 (own := [("name", 2), ("place", 3), ("row_id", 4)]) (vs1 := [4]) .k rfl sc.nd hu (zbx (pdv 1)) (blkOk_by (own := [("name", 2), ("place", 3), ("row_id", 4)]) (N := zj8) (sc := defScope v8) (by decide +kernel)) (fun _ _ _ _ _ => (pg_tup rfl (pgs_cons (pg_name (i := 2) sc.nd rfl (by first | exact .inl rfl | exact .inr rfl)) (pgs_cons (pg_name (i := 3) sc.nd rfl (by first | exact .inl rfl | exact .inr rfl)) pgs_nil)) (by rfl) (by rfl))) (fun _ _ _ _ _ => x7) (fun _ _ _ _ _ => (zlh (z8 hu (vdv 0) (pdv 3)))) (fun _ _ _ _ _ => (pg_name (i := 4) sc.nd rfl (by first | exact .inl rfl | exact .inr rfl))) (fun _ _ _ _ _ => x7) (fun _ _ _ _ _ => (pdv 4)) (fun _ _ _ _ _ => (pdv 2)) (zc6 (jj qk (jj qk zb9))) qk (by decide))))), hs⟩
theorem zoj {f : Addr} {fd : FuncData} {sp : DSp} (T : Txt K)
    (F : Fun K "_law_moved" "_law_moved" jp f fd)
    {xf : Addr} {jd : FuncData} {zi : DSp}
    (ql : FnOk P w K mg base CX0 1 xf jd ["_law_stream_here", "_law_size"] (spD K 2 zi))
    (qm : mg "_law_draw" = some (.ref xf)) (qo : PySem.W.keepIn K (.ref xf) = true)
    (qp : Binds K jd ["_law_stream_here", "_law_size"] [])
    (je : mg "sorted" = none)
    (z3j : mg "set" = none)
    (zm5 : mg "tuple" = none)
    (zbb : mg "range" = none)
    (u7 : mg "len" = none)
    (zjc : mg "list" = none)
    (hs : ∀ ds Q', ds.length = 2 → sp ds Q' → (zap zi) { nx := fun _ => Q' (.fz .non), rt := Q' } (zal 10 ds [])) : FnOk P w K mg base CX0 2 f fd ["_law_stream_here", "_law_groups"] (spD K 2 sp) := by
  refine okP (k := 1) F zhk fun cdv A outer s H E hr => ?_
  have sc := zhk
  have hu200 : (A.deeper (envOfC "_law_moved" (defScope jp) s.heap.objs.size f cdv)).units + 200 < cLine := by have := hr.un; omega
  have hu80 := hx80 hu200
  have hu := hx1 hu200
  exact ⟨(zap zi), (zh (zf5 (i := 2) (j := 3) rfl sc.nd rfl rfl (by decide) rfl rfl (mmf (pfz (ze9 (own := [("_law_group", 4)]) rfl sc.nd (za0 (pdv 1)) (blkOk_by (own := [("_law_group", 4)]) (N := zec) (sc := defScope jp) (by decide +kernel)) (fun _ _ _ _ _ => (pg_name (i := 4) sc.nd rfl (by first | exact .inl rfl | exact .inr rfl))) (fun _ _ _ _ _ => x7) (fun _ _ _ _ _ => (pcl (pctO (zvl rfl) (by rfl) zjc (by decide +kernel) (vvc (vdv 4) vvn)))) qk)) (mmo (uc pdn) mmn)) rfl)
 (zh (vh PassesOwn.never rfl (zf3 (by rfl) zbb (pdc (qh (K := K) (n := 2) (sp := zi) (pe_call ql (hr.mono (by decide)) (by rfl) qm qo qp .nil pass0 (pdc (pdv 0) (pdc zm pdn)))) pdn)) (zy (pg_name (i := 5) sc.nd rfl (by first | exact .inl rfl | exact .inr rfl)))
 (zh (zf5 (i := 6) (j := 7) rfl sc.nd rfl rfl (by decide) rfl rfl (mmf (qh (K := K) (n := 2) (sp := zi) (pe_call ql (hr.mono (by decide)) (by rfl) qm qo qp .nil pass0 (pdc (pdv 0) (pdc (yp (by rfl) u7 (vdv 2)) pdn)))) (mmf (qh (K := K) (n := 2) (sp := zi) (pe_call ql (hr.mono (by decide)) (by rfl) qm qo qp .nil pass0 (pdc (pdv 0) (pdc (yp (by rfl) u7 (vdv 2)) pdn)))) mmn)) rfl)
 (zo (yc (qcm (zc7 hu80) (vcl (z8 hu (vdv 2) (pdv 6))) (vf (pfz (uc pdn))) (nomark _)) (zh (z7 (i := 8) sc.nd rfl (by first | exact .inl rfl | exact .inr rfl) (z0p (pe_bm PySem.F.plainAttrs_list PySem.F.slot_list_pop PySem.F.type_list_pop mt_popAt (z8 hu (vdv 2) (pdv 6)) (pa_cons (qh (K := K) (n := 2) (sp := zi) (pe_call ql (hr.mono (by decide)) (by rfl) qm qo qp .nil pass0 (pdc (pdv 0) (pdc (yp (by rfl) u7 (vcl (z8 hu (vdv 2) (pdv 6)))) pdn)))) pa_nil))))
 (zh (z0q (pe_bm PySem.F.plainAttrs_list PySem.F.slot_list_append PySem.F.type_list_append mt_append (z8 hu (vdv 2) (pdv 7)) (pa_cons (pdv 8) pa_nil)))
 (zo (zp4 (pe_bm PySem.F.plainAttrs_list PySem.F.slot_list_append PySem.F.type_list_append mt_append (pv 3) (pa_cons (pdv 8) pa_nil)))))) ud))))
 (zo (uv (zcf (pdc (pfz (ze9 (own := [("_law_group", 4)]) rfl sc.nd (za0 (pdv 2)) (blkOk_by (own := [("_law_group", 4)]) (N := zec) (sc := defScope jp) (by decide +kernel)) (fun _ _ _ _ _ => (pg_name (i := 4) sc.nd rfl (by first | exact .inl rfl | exact .inr rfl))) (fun _ _ _ _ _ => (ze8 (qcm (zc7 hu80) (vcl (pdv 4)) (vf (pfz (uc pdn))) (nomark _)))) (fun _ _ _ _ _ => (pct (zs9) (by rfl) zm5 (by decide +kernel) (vvc (vf (pfz (pcbO (y2 rfl hu200) (by rfl) je (by decide +kernel) (vvc (vcl (pdv 4)) vvn)))) vvn))) qk)) (pdc (pfz (zul rfl hu200 (by rfl) je (by rfl) z3j (vdv 3))) pdn))))))), hs⟩
theorem zm6 {f : Addr} {fd : FuncData} {sp : DSp} (T : Txt K)
    (F : Fun K "renamed_ids" "renamed_ids" jr f fd)
    (je : mg "sorted" = none)
    (zbi : mg "enumerate" = none)
    (hs : ∀ ds Q', ds.length = 3 → sp ds Q' → (y7) { nx := fun _ => Q' (.fz .non), rt := Q' } (zp 7 ds)) : FnOk P w K mg base CX0 1 f fd ["labels", "groups", "names"] (spD K 3 sp) := by
  refine okD (k := 0) F zfs fun cdv A outer s H E hr => ?_
  have sc := zfs
  have hu200 : (A.deeper (envOfC "renamed_ids" (defScope jr) s.heap.objs.size f cdv)).units + 200 < cLine := by have := hr.un; omega
  have hu80 := hx80 hu200
  have hu := hx1 hu200
  exact ⟨(y7), (zh (zae (i := 3) sc.nd rfl (by first | exact .inl rfl | exact .inr rfl) (uc pdn))
 (zh (vh PassesOwn.never rfl (zmr (by rfl) zbi (pdc (pdv 1) pdn)) (ye rfl (z6 (zy (pg_name (i := 4) sc.nd rfl (by first | exact .inl rfl | exact .inr rfl))) (z6 (zy (pg_name (i := 5) sc.nd rfl (by first | exact .inl rfl | exact .inr rfl))) ug)))
 (zo (z1h (pe_bm PySem.F.plainAttrs_list PySem.F.slot_list_extend PySem.F.type_list_extend mt_extend (pv 3) (pa_cons (ze9 (own := [("row_id", 6)]) rfl sc.nd (zlh (pdv 5)) (blkOk_by (own := [("row_id", 6)]) (N := zhl) (sc := defScope jr) (by decide +kernel)) (fun _ _ _ _ _ => (pg_name (i := 6) sc.nd rfl (by first | exact .inl rfl | exact .inr rfl))) (fun _ _ _ _ _ => (ze8 ((zij (zpo hu (pdv 6) (vdv 0)) (zf2 (qcm (zc7 hu80) (vf (zjt hu (vdv 2) (z8 hu (vdv 0) (pdv 6)))) (vdv 4) (nomark _))))).pt)) (fun _ _ _ _ _ => (pdv 6)) qk) pa_nil)))))
 (zo (zaz (pcbO (y2 rfl hu200) (by rfl) je (by decide +kernel) (vvc (vdv 3) vvn)))))), hs⟩
theorem zm7 {f : Addr} {fd : FuncData} {sp : DSp} (T : Txt K)
    (F : Fun K "label_table" "label_table" vo f fd)
    (zbi : mg "enumerate" = none)
    (hs : ∀ ds Q', ds.length = 3 → sp ds Q' → (y8) { nx := fun _ => Q' (.fz .non), rt := Q' } (zp 8 ds)) : FnOk P w K mg base CX0 1 f fd ["labels", "groups", "weights"] (spD K 3 sp) := by
  refine okD (k := 0) F zft fun cdv A outer s H E hr => ?_
  have sc := zft
  have hu200 : (A.deeper (envOfC "label_table" (defScope vo) s.heap.objs.size f cdv)).units + 200 < cLine := by have := hr.un; omega
  have hu80 := hx80 hu200
  have hu := hx1 hu200
  exact ⟨(y8), (zh (zae (i := 3) sc.nd rfl (by first | exact .inl rfl | exact .inr rfl) zs2)
 (zh (vh PassesOwn.never rfl (zmr (by rfl) zbi (pdc (pdv 1) pdn)) (ye rfl (z6 (zy (pg_name (i := 4) sc.nd rfl (by first | exact .inl rfl | exact .inr rfl))) (z6 (zy (pg_name (i := 5) sc.nd rfl (by first | exact .inl rfl | exact .inr rfl))) ug)))
 (zo (vh PassesOwn.never rfl (zlh (pdv 5)) (zy (pg_name (i := 6) sc.nd rfl (by first | exact .inl rfl | exact .inr rfl)))
 (zo (yc (zpo hu (pdv 6) (vdv 0)) (zh (z7 (i := 7) sc.nd rfl (by first | exact .inl rfl | exact .inr rfl) (zcf (pdc (z8 hu (vdv 0) (pdv 6)) (pdc (pdv 4) pdn))))
 (zo (jx (uk (zy6 hu (vdv 3) (pdv 7) zm) (z8 hu (vdv 2) (pdv 6))) (uw hu (pv 3) (pdv 7))))) ud)))))
 (zo (zb7 (pv 3))))), hs⟩
theorem zk0 {f : Addr} {fd : FuncData} {sp : DSp} (T : Txt K)
    (F : Fun K "column_prices" "column_prices" x8 f fd)
    (hs : ∀ ds Q', ds.length = 2 → sp ds Q' → (yi) { nx := fun _ => Q' (.fz .non), rt := Q' } (zp 9 ds)) : FnOk P w K mg base CX0 1 f fd ["entries", "pairs"] (spD K 2 sp) := by
  refine okD (k := 0) F zed fun cdv A outer s H E hr => ?_
  have sc := zed
  have hu200 : (A.deeper (envOfC "column_prices" (defScope x8) s.heap.objs.size f cdv)).units + 200 < cLine := by have := hr.un; omega
  have hu80 := hx80 hu200
  have hu := hx1 hu200
  exact ⟨(yi), (zh (zir (i := 2) sc.nd rfl rfl (zps rfl rfl rfl (by decide +kernel)) (dcu1 (own := [("row", 3), ("column", 4)]) .k rfl sc.nd hu (zcw (pdv 0)) (blkOk_by (own := [("row", 3), ("column", 4)]) (N := ze4) (sc := defScope x8) (by decide +kernel)) (fun _ _ _ _ _ => (pg_tup rfl (pgs_cons (pg_name (i := 3) sc.nd rfl (by first | exact .inl rfl | exact .inr rfl)) (pgs_cons (pg_name (i := 4) sc.nd rfl (by first | exact .inl rfl | exact .inr rfl)) pgs_nil)) (by rfl) (by rfl))) (fun _ _ _ _ _ => x7) (fun _ _ _ _ _ => (pdv 4)) (fun _ _ _ _ _ => zm) (zc6 (jj qk (jj qk zb9)))))
 (zh (z7 (i := 5) sc.nd rfl (by first | exact .inl rfl | exact .inr rfl) zaw)
 (zh (zki PassesOwn.never (qt (pdv 5))
 (zh (z7 (i := 5) sc.nd rfl (by first | exact .inl rfl | exact .inr rfl) zaw)
 (zo (vh PassesOwn.never rfl (zno (pdv 0)) (ye rfl (z6 (zy (pg_name (i := 6) sc.nd rfl (by first | exact .inl rfl | exact .inr rfl))) (z6 (zy (pg_name (i := 7) sc.nd rfl (by first | exact .inl rfl | exact .inr rfl))) ug)))
 (zh (jx (pdv 6) (ye rfl (z6 (zy (pg_name (i := 3) sc.nd rfl (by first | exact .inl rfl | exact .inr rfl))) (z6 (zy (pg_name (i := 4) sc.nd rfl (by first | exact .inl rfl | exact .inr rfl))) ug))))
 (zh (z7 (i := 8) sc.nd rfl (by first | exact .inl rfl | exact .inr rfl) (pdv 7))
 (zh (yc (zpo hu (pdv 3) (vdv 1)) (zo (zvm (i := 8) sc.nd rfl (by first | exact .inl rfl | exact .inr rfl) (zbc (z8 hu (vdv 2) (z8 hu (vdv 1) (pdv 3))) (z8 hu (vdv 0) (zcf (pdc (pdv 3) (pdc (z8 hu (vdv 1) (pdv 3)) pdn))))) L2.ip_add)) ud)
 (zo (yc (zjr (pdv 8) (z8 hu (vdv 2) (pdv 4))) (zh (jx (pdv 8) (uw hu (pv 2) (pdv 4)))
 (zo (z7 (i := 5) sc.nd rfl (by first | exact .inl rfl | exact .inr rfl) zaw))) ud)))))))))
 (zo (zb7 (pv 2)))))), hs⟩
theorem zok {f : Addr} {fd : FuncData} {sp : DSp} (T : Txt K)
    (F : Fun K "row_worths" "row_worths" vd f fd)
    {zcp : Addr} {zer : FuncData} {qw : DSp}
    (zmd : FnOk P w K mg base CX0 1 zcp zer ["entries", "pairs"] (spD K 2 qw))
    (zme : mg "column_prices" = some (.ref zcp)) (zmf : PySem.W.keepIn K (.ref zcp) = true)
    (zmg : Binds K zer ["entries", "pairs"] [])
    (hs : ∀ ds Q', ds.length = 2 → sp ds Q' → (zar qw) { nx := fun _ => Q' (.fz .non), rt := Q' } (zp 6 ds)) : FnOk P w K mg base CX0 2 f fd ["entries", "pairs"] (spD K 2 sp) := by
  refine okD (k := 1) F zhm fun cdv A outer s H E hr => ?_
  have sc := zhm
  have hu200 : (A.deeper (envOfC "row_worths" (defScope vd) s.heap.objs.size f cdv)).units + 200 < cLine := by have := hr.un; omega
  have hu80 := hx80 hu200
  have hu := hx1 hu200
  exact ⟨(zar qw), (zh (z7 (i := 2) sc.nd rfl (by first | exact .inl rfl | exact .inr rfl) (qh (K := K) (n := 2) (sp := qw) (pe_call zmd (hr.mono (by decide)) (by rfl) zme zmf zmg .nil pass0 (pdc (pdv 0) (pdc (pdv 1) pdn)))))
 (zh (zir (i := 3) sc.nd rfl rfl (zps rfl rfl rfl (by decide +kernel)) (dcu1 (own := [("row", 4), ("column", 5)]) .k rfl sc.nd hu (zcw (pdv 0)) (blkOk_by (own := [("row", 4), ("column", 5)]) (N := zid) (sc := defScope vd) (by decide +kernel)) (fun _ _ _ _ _ => (pg_tup rfl (pgs_cons (pg_name (i := 4) sc.nd rfl (by first | exact .inl rfl | exact .inr rfl)) (pgs_cons (pg_name (i := 5) sc.nd rfl (by first | exact .inl rfl | exact .inr rfl)) pgs_nil)) (by rfl) (by rfl))) (fun _ _ _ _ _ => x7) (fun _ _ _ _ _ => (pdv 4)) (fun _ _ _ _ _ => zm) (zc6 (jj qk (jj qk zb9)))))
 (zh (vh PassesOwn.never rfl (zbx (pdv 1)) (ye rfl (z6 (zy (pg_name (i := 4) sc.nd rfl (by first | exact .inl rfl | exact .inr rfl))) (z6 (zy (pg_name (i := 5) sc.nd rfl (by first | exact .inl rfl | exact .inr rfl))) ug)))
 (zo (jx (zbc (z8 hu (vdv 0) (zcf (pdc (pdv 4) (pdc (pdv 5) pdn)))) (z8 hu (vdv 2) (pdv 5))) (uw hu (pv 3) (pdv 4)))))
 (zo (zb7 (pv 3)))))), hs⟩
theorem zm8 {f : Addr} {fd : FuncData} {sp : DSp} (T : Txt K)
    (F : Fun K "row_entries" "row_entries" vp f fd)
    (je : mg "sorted" = none)
    (hs : ∀ ds Q', ds.length = 1 → sp ds Q' → (y9) { nx := fun _ => Q' (.fz .non), rt := Q' } (zp 3 ds)) : FnOk P w K mg base CX0 1 f fd ["entries"] (spD K 1 sp) := by
  refine okD (k := 0) F zfu fun cdv A outer s H E hr => ?_
  have sc := zfu
  have hu200 : (A.deeper (envOfC "row_entries" (defScope vp) s.heap.objs.size f cdv)).units + 200 < cLine := by have := hr.un; omega
  have hu80 := hx80 hu200
  have hu := hx1 hu200
  exact ⟨(y9), (zh (zxn (i := 1) sc.nd rfl (by first | exact .inl rfl | exact .inr rfl))
 (zh (vh PassesOwn.never rfl (za0 (pfz (pcbO (y2 rfl hu200) (by rfl) je (by decide +kernel) (vvc (vdv 0) vvn)))) (zy (pg_name (i := 2) sc.nd rfl (by first | exact .inl rfl | exact .inr rfl)))
 (zh (zv2 (pe_dsetd (pv 1) (z8 hu (vdv 2) zm) u8 ⟨rfl, rfl, rfl, rfl⟩))
 (zo (jx (z8 hu (vdv 0) (pdv 2)) (zzo hu (pv 1) (z8 hu (vdv 2) zm) (z8 hu (vdv 2) zm))))))
 (zo (uv (zzn (pv 1)))))), hs⟩
theorem zol {f : Addr} {fd : FuncData} {sp : DSp} (T : Txt K)
    (F : Fun K "best_moves" "best_moves" ve f fd)
    (hs : ∀ ds Q', ds.length = 3 → sp ds Q' → (zas) { nx := fun _ => Q' (.fz .non), rt := Q' } (zp 12 ds)) : FnOk P w K mg base CX0 1 f fd ["rows", "pairs", "owners"] (spD K 3 sp) := by
  refine okD (k := 0) F zhn fun cdv A outer s H E hr => ?_
  have sc := zhn
  have hu200 : (A.deeper (envOfC "best_moves" (defScope ve) s.heap.objs.size f cdv)).units + 200 < cLine := by have := hr.un; omega
  have hu80 := hx80 hu200
  have hu := hx1 hu200
  exact ⟨(zas), (zh (zir (i := 3) sc.nd rfl rfl (zps rfl rfl rfl (by decide +kernel)) (dcu1 (own := [("row", 4)]) .k rfl sc.nd hu (zcw (pdv 0)) (blkOk_by (own := [("row", 4)]) (N := zie) (sc := defScope ve) (by decide +kernel)) (fun _ _ _ _ _ => (pg_name (i := 4) sc.nd rfl (by first | exact .inl rfl | exact .inr rfl))) (fun _ _ _ _ _ => x7) (fun _ _ _ _ _ => (pdv 4)) (fun _ _ _ _ _ => zm) qk))
 (zh (zae (i := 5) sc.nd rfl (by first | exact .inl rfl | exact .inr rfl) u8)
 (zh (z7 (i := 6) sc.nd rfl (by first | exact .inl rfl | exact .inr rfl) zaw)
 (zh (zki PassesOwn.never (qt (pdv 6))
 (zh (z7 (i := 6) sc.nd rfl (by first | exact .inl rfl | exact .inr rfl) zaw)
 (zo (vh PassesOwn.never rfl (zbx (pdv 0)) (ye rfl (z6 (zy (pg_name (i := 4) sc.nd rfl (by first | exact .inl rfl | exact .inr rfl))) (z6 (zy (pg_name (i := 7) sc.nd rfl (by first | exact .inl rfl | exact .inr rfl))) ug)))
 (zo (vh PassesOwn.never rfl (zbx (pdv 7)) (ye rfl (z6 (zy (pg_name (i := 8) sc.nd rfl (by first | exact .inl rfl | exact .inr rfl))) (z6 (zy (pg_name (i := 9) sc.nd rfl (by first | exact .inl rfl | exact .inr rfl))) ug)))
 (zh (z7 (i := 10) sc.nd rfl (by first | exact .inl rfl | exact .inr rfl) (pdv 9))
 (zh (yc (zpo hu (pdv 8) (vdv 2)) (zh (z7 (i := 11) sc.nd rfl (by first | exact .inl rfl | exact .inr rfl) (z8 hu (vdv 2) (pdv 8)))
 (zo (zvm (i := 10) sc.nd rfl (by first | exact .inl rfl | exact .inr rfl) (zbc (z8 hu (vdv 3) (pdv 11)) (z8 hu (vf (z8 hu (vdv 0) (pdv 11))) (pdv 8))) L2.ip_add))) ud)
 (zo (yc ((zij (zjr (pdv 10) (z8 hu (vdv 3) (pdv 4))) (zf2 (qcm (zc7 hu80) (vf (zjt hu (vdv 1) (pdv 4))) (vdv 8) (nomark _))))).pt (zh (jx (zcf (pdc (pdv 10) (pdc (pdv 8) pdn))) (ye rfl (z6 (uw hu (pv 3) (pdv 4)) (z6 (uw hu (pv 5) (pdv 4)) ug))))
 (zo (z7 (i := 6) sc.nd rfl (by first | exact .inl rfl | exact .inr rfl) zaw))) ud))))))))))
 (zo (zb7 (pv 5))))))), hs⟩
theorem zj5 {f : Addr} {fd : FuncData} {sp : DSp} (T : Txt K)
    (F : Fun K "greatest_pairs" "greatest_pairs" x9 f fd)
    {zdo : Addr} {zgn : FuncData} {xk : DSp}
    (zom : FnOk P w K mg base CX0 1 zdo zgn ["entries"] (spD K 1 xk))
    (zon : mg "row_entries" = some (.ref zdo)) (zoo : PySem.W.keepIn K (.ref zdo) = true)
    (zop : Binds K zgn ["entries"] [])
    {zes : Addr} {zhw : FuncData} {xw : DSp}
    (zrs : FnOk P w K mg base CX0 1 zes zhw ["rows", "pairs", "owners"] (spD K 3 xw))
    (zrt : mg "best_moves" = some (.ref zes)) (zru : PySem.W.keepIn K (.ref zes) = true)
    (zrv : Binds K zhw ["rows", "pairs", "owners"] [])
    (hs : ∀ ds Q', ds.length = 1 → sp ds Q' → (uz xk xw) { nx := fun _ => Q' (.fz .non), rt := Q' } (zp 11 ds)) : FnOk P w K mg base CX0 2 f fd ["entries"] (spD K 1 sp) := by
  refine okD (k := 1) F zdu fun cdv A outer s H E hr => ?_
  have sc := zdu
  have hu200 : (A.deeper (envOfC "greatest_pairs" (defScope x9) s.heap.objs.size f cdv)).units + 200 < cLine := by have := hr.un; omega
  have hu80 := hx80 hu200
  have hu := hx1 hu200
  exact ⟨(uz xk xw), (zh (z7 (i := 1) sc.nd rfl (by first | exact .inl rfl | exact .inr rfl) (qh (K := K) (n := 1) (sp := xk) (pe_call zom (hr.mono (by decide)) (by rfl) zon zoo zop .nil pass0 (pdc (pdv 0) pdn))))
 (zh (zzc (i := 2) (j := 3) (l := 4) rfl sc.nd rfl rfl rfl (by decide) (by decide) (by decide) rfl rfl rfl (mmo u8 (mmo u8 (mmo u8 mmn))) rfl)
 (zh (vh PassesOwn.never rfl (zbx (pdv 1)) (ye rfl (z6 (zy (pg_name (i := 5) sc.nd rfl (by first | exact .inl rfl | exact .inr rfl))) (z6 (zy (pg_name (i := 6) sc.nd rfl (by first | exact .inl rfl | exact .inr rfl))) ug)))
 (zh (jx (pdv 6) (uw hu (pv 2) (pdv 5)))
 (zh (z7 (i := 7) sc.nd rfl (by first | exact .inl rfl | exact .inr rfl) (pfz (zzp [2, 3, 4] (zp6 (K := K) (n := 3) (sp := xw) (pe_call zrs (hr.mono (by decide)) (by rfl) zrt zru zrv .nil pass0 (pdc (pdv 2) (pdc (pdv 3) (pdc (pdv 4) pdn))))))))
 (zh (z7 (i := 8) sc.nd rfl (by first | exact .inl rfl | exact .inr rfl) (pdv 5))
 (zh (zki PassesOwn.never (z1j hu (pdv 8) (vdv 7))
 (zh (z7 (i := 9) sc.nd rfl (by first | exact .inl rfl | exact .inr rfl) (z8 hu (vdv 7) (pdv 8)))
 (zh (z7 (i := 10) sc.nd rfl (by first | exact .inl rfl | exact .inr rfl) (zjt hu (vdv 4) (pdv 9)))
 (zh (jx (zcf (pdc (pdv 9) (pdc (pdv 8) pdn))) (ye rfl (z6 (uw hu (pv 3) (pdv 8)) (z6 (uw hu (pv 4) (pdv 9)) ug))))
 (zo (z7 (i := 8) sc.nd rfl (by first | exact .inl rfl | exact .inr rfl) (pdv 10)))))))
 (zo (zy4 (zzm (zxh (pv 3) (pdv 8) zlg)))))))))
 (zo (zb7 (pv 3)))))), hs⟩
theorem zm9 {f : Addr} {fd : FuncData} {sp : DSp} (T : Txt K)
    (F : Fun K "table_names" "table_names" js f fd)
    (je : mg "sorted" = none)
    (hs : ∀ ds Q', ds.length = 1 → sp ds Q' → (zaa) { nx := fun _ => Q' (.fz .non), rt := Q' } (zp 3 ds)) : FnOk P w K mg base CX0 1 f fd ["table"] (spD K 1 sp) := by
  refine okD (k := 0) F zfv fun cdv A outer s H E hr => ?_
  have sc := zfv
  have hu200 : (A.deeper (envOfC "table_names" (defScope js) s.heap.objs.size f cdv)).units + 200 < cLine := by have := hr.un; omega
  have hu80 := hx80 hu200
  have hu := hx1 hu200
  exact ⟨(zaa), (zo (zaz (pcbO (y2 rfl hu200) (by rfl) je (by decide +kernel) (vvc (vf (pfz (zln (dcu1 (own := [("name", 1), ("place", 2)]) .k rfl sc.nd hu (zcw (pdv 0)) (blkOk_by (own := [("name", 1), ("place", 2)]) (N := zho) (sc := defScope js) (by decide +kernel)) (fun _ _ _ _ _ => (pg_tup rfl (pgs_cons (pg_name (i := 1) sc.nd rfl (by first | exact .inl rfl | exact .inr rfl)) (pgs_cons (pg_name (i := 2) sc.nd rfl (by first | exact .inl rfl | exact .inr rfl)) pgs_nil)) (by rfl) (by rfl))) (fun _ _ _ _ _ => x7) (fun _ _ _ _ _ => (pdv 1)) (fun _ _ _ _ _ => zaw) (zc6 (jj qk (jj qk zb9))))))) vvn)))), hs⟩
theorem zmh {f : Addr} {fd : FuncData} {sp : DSp} (T : Txt K)
    (F : Fun K "table_places" "table_places" jg f fd)
    (je : mg "sorted" = none)
    (hs : ∀ ds Q', ds.length = 1 → sp ds Q' → (yv) { nx := fun _ => Q' (.fz .non), rt := Q' } (zp 3 ds)) : FnOk P w K mg base CX0 1 f fd ["table"] (spD K 1 sp) := by
  refine okD (k := 0) F ze5 fun cdv A outer s H E hr => ?_
  have sc := ze5
  have hu200 : (A.deeper (envOfC "table_places" (defScope jg) s.heap.objs.size f cdv)).units + 200 < cLine := by have := hr.un; omega
  have hu80 := hx80 hu200
  have hu := hx1 hu200
  exact ⟨(yv), (zo (zaz (pcbO (y2 rfl hu200) (by rfl) je (by decide +kernel) (vvc (vf (pfz (zln (dcu1 (own := [("name", 1), ("place", 2)]) .k rfl sc.nd hu (zcw (pdv 0)) (blkOk_by (own := [("name", 1), ("place", 2)]) (N := zfw) (sc := defScope jg) (by decide +kernel)) (fun _ _ _ _ _ => (pg_tup rfl (pgs_cons (pg_name (i := 1) sc.nd rfl (by first | exact .inl rfl | exact .inr rfl)) (pgs_cons (pg_name (i := 2) sc.nd rfl (by first | exact .inl rfl | exact .inr rfl)) pgs_nil)) (by rfl) (by rfl))) (fun _ _ _ _ _ => x7) (fun _ _ _ _ _ => (pdv 2)) (fun _ _ _ _ _ => zaw) (zc6 (jj qk (jj qk zb9))))))) vvn)))), hs⟩
theorem zna {f : Addr} {fd : FuncData} {kws : List (Str × V)} {sp : DSp} (T : Txt K)
    (F : FunD K "exact_table" "exact_table" (defArgs xq) (defBody xq) (defScope xq) [] kws f fd)
    {zdp : Addr} {zgo : FuncData} {xl : DSp}
    (zoq : FnOk P w K mg base CX0 1 zdp zgo ["table"] (spD K 1 xl))
    (zor : mg "table_names" = some (.ref zdp)) (zos : PySem.W.keepIn K (.ref zdp) = true)
    (zot : Binds K zgo ["table"] [])
    {zc2 : Addr} {zfj : FuncData} {q9 : DSp}
    (znb : FnOk P w K mg base CX0 1 zc2 zfj ["table"] (spD K 1 q9))
    (znc : mg "table_places" = some (.ref zc2)) (znd : PySem.W.keepIn K (.ref zc2) = true)
    (zne : Binds K zfj ["table"] [])
    (u7 : mg "len" = none)
    (zu7 : mg "int" = none)
    (hs : ∀ ds Q', ds.length = 2 → sp ds Q' → (zab xl q9) { nx := fun _ => Q' (.fz .non), rt := Q' } (zp 13 ds)) : FnOk P w K mg base CX0 2 f fd ["table", "homes"] (spD K 2 sp) := by
  refine okDK (st := xq) (k := 1) F zfx fun cdv A outer s H E hr => ?_
  have sc := zfx
  have hu200 : (A.deeper (envOfC "exact_table" (defScope xq) s.heap.objs.size f cdv)).units + 200 < cLine := by have := hr.un; omega
  have hu80 := hx80 hu200
  have hu := hx1 hu200
  exact ⟨(zab xl q9), (zh (zf5 (i := 2) (j := 3) rfl sc.nd rfl rfl (by decide) rfl rfl (mmf (qh (K := K) (n := 1) (sp := xl) (pe_call zoq (hr.mono (by decide)) (by rfl) zor zos zot .nil pass0 (pdc (pdv 0) pdn))) (mmf (qh (K := K) (n := 1) (sp := q9) (pe_call znb (hr.mono (by decide)) (by rfl) znc znd zne .nil pass0 (pdc (pdv 0) pdn))) mmn)) rfl)
 (zh (zae (i := 4) sc.nd rfl (by first | exact .inl rfl | exact .inr rfl) (uc (pdc zm pdn)))
 (zh (vh PassesOwn.never rfl (za0 (pdv 2)) (zy (pg_name (i := 5) sc.nd rfl (by first | exact .inl rfl | exact .inr rfl)))
 (zo (zp4 (pe_bm PySem.F.plainAttrs_list PySem.F.slot_list_append PySem.F.type_list_append mt_append (pv 4) (pa_cons (zej (z8 hu (vdv 4) (z04 zm)) (uk (yp (by rfl) u7 (vdv 3)) zm)) pa_nil)))))
 (zh (zae (i := 6) sc.nd rfl (by first | exact .inl rfl | exact .inr rfl) zs2)
 (zh (vh PassesOwn.never rfl (zno (pdv 0)) (ye rfl (z6 (zy (pg_name (i := 7) sc.nd rfl (by first | exact .inl rfl | exact .inr rfl))) (z6 (zy (pg_name (i := 8) sc.nd rfl (by first | exact .inl rfl | exact .inr rfl))) ug)))
 (zh (jx (pdv 7) (ye rfl (z6 (zy (pg_name (i := 5) sc.nd rfl (by first | exact .inl rfl | exact .inr rfl))) (z6 (zy (pg_name (i := 9) sc.nd rfl (by first | exact .inl rfl | exact .inr rfl))) ug))))
 (zh (z7 (i := 10) sc.nd rfl (by first | exact .inl rfl | exact .inr rfl) (zvg (zy2 (pdv 1) zlg) (zvg (z2o hu (pdv 5) (vdv 1)) (z07 (pcm (zp9 hu80) (vf (z8 hu (vdv 1) (pdv 5))) (vdv 9) (nomark _))))))
 (zh (z7 (i := 11) sc.nd rfl (by first | exact .inl rfl | exact .inr rfl) (zej (zbc (yp (by rfl) u7 (vdv 3)) (zqg (i := dVV 0) (pe_bm PySem.F.plainAttrs_list PySem.F.slot_list_index PySem.F.type_list_index mt_index (vdv 3) (pa_cons (pdv 9) pa_nil)))) (z8 hu (vdv 4) (zbc (zbc (yp (by rfl) u7 (vdv 2)) zm) (zqg (i := dVV 0) (pe_bm PySem.F.plainAttrs_list PySem.F.slot_list_index PySem.F.type_list_index mt_index (vdv 2) (pa_cons (pdv 5) pa_nil)))))))
 (zh (z7 (i := 12) sc.nd rfl (by first | exact .inl rfl | exact .inr rfl) (uk (zej (uk (zej (pdv 8) (uk (yp (by rfl) u7 (vdv 2)) zm)) zm) (uk (yp (by rfl) u7 (vdv 2)) zm)) (pct (zym) (by rfl) zu7 (by decide +kernel) (vvc (vdv 10) vvn))))
 (zo (jx (uk (zej (pdv 12) (z8 hu (vdv 4) (yp (by rfl) u7 (vdv 2)))) (pdv 11)) (uw hu (pv 6) (pdv 7)))))))))
 (zo (zb7 (pv 6)))))))), hs⟩
theorem zk1 {f : Addr} {fd : FuncData} {kws : List (Str × V)} {sp : DSp} (T : Txt K)
    (F : FunD K "best_carrying" "best_carrying" (defArgs q7) (defBody q7) (defScope q7) [] kws f fd)
    {jw : Addr} {ul : FuncData} {zr : DSp}
    (zb1 : FnOk P w K mg base CX0 2 jw ul ["entries"] (spD K 1 zr))
    (zb2 : mg "greatest_pairs" = some (.ref jw)) (zb3 : PySem.W.keepIn K (.ref jw) = true)
    (zb4 : Binds K ul ["entries"] [])
    {zdq : Addr} {zgp : FuncData} {xm : DSp}
    (zou : FnOk P w K mg base CX0 2 zdq zgp ["table", "homes"] (spD K 2 xm))
    (zov : mg "exact_table" = some (.ref zdq)) (zow : PySem.W.keepIn K (.ref zdq) = true)
    {zk2 : List Value} {zet : List V} (zk3 : KBn K zgp ["table", "homes"] 1 ["homes"] (fun us ws => ord3 [(0, 0), (2, 0)] us zk2 ws) (fun vs zs => ord3 [(0, 0), (2, 0)] vs zet zs)) (zk4 : ∀ F, RepL K F zet [])
    (hs : ∀ ds Q', ds.length = 2 → sp ds Q' → (yj zr xm) { nx := fun _ => Q' (.fz .non), rt := Q' } (zp 2 ds)) : FnOk P w K mg base CX0 3 f fd ["table", "homes"] (spD K 2 sp) := by
  refine okDK (st := q7) (k := 2) F zee fun cdv A outer s H E hr => ?_
  have sc := zee
  have hu200 : (A.deeper (envOfC "best_carrying" (defScope q7) s.heap.objs.size f cdv)).units + 200 < cLine := by have := hr.un; omega
  have hu80 := hx80 hu200
  have hu := hx1 hu200
  exact ⟨(yj zr xm), (zo (zaz (zp6 (K := K) (n := 1) (sp := zr) (pe_call zb1 (hr.mono (by decide)) (by rfl) zb2 zb3 zb4 .nil pass0 (pdc (zis (K := K) (n := 1) (m := 1) (N := 2) (sp := xm) (pe_callN (ks := ["homes"]) zou (hr.mono (by decide)) (by rfl) zov zow zk3 pass0 (pdc (pdv 0) pdn) (pkdc (pdv 1) pkdn)) (zf8 zk4)) pdn))))), hs⟩
theorem znf {f : Addr} {fd : FuncData} {sp : DSp} (T : Txt K)
    (F : Fun K "name_worths" "name_worths" vq f fd)
    {zeu : Addr} {zhx : FuncData} {xx : DSp}
    (zrw : FnOk P w K mg base CX0 2 zeu zhx ["entries", "pairs"] (spD K 2 xx))
    (zrx : mg "row_worths" = some (.ref zeu)) (zry : PySem.W.keepIn K (.ref zeu) = true)
    (zrz : Binds K zhx ["entries", "pairs"] [])
    {vk : Addr} {u6 : FuncData} {zt : DSp}
    (zcq : FnOk P w K mg base CX0 3 vk u6 ["table", "homes"] (spD K 2 zt))
    (zcr : mg "best_carrying" = some (.ref vk)) (zcs : PySem.W.keepIn K (.ref vk) = true)
    {zjd : List Value} {zdj : List V} (zje : KBn K u6 ["table", "homes"] 1 [] (fun us ws => ord3 [(0, 0), (1, 0)] us zjd ws) (fun vs zs => ord3 [(0, 0), (1, 0)] vs zdj zs)) (zjf : ∀ F, RepL K F zdj [.non])
    (hs : ∀ ds Q', ds.length = 1 → sp ds Q' → (zac xx zt) { nx := fun _ => Q' (.fz .non), rt := Q' } (zp 1 ds)) : FnOk P w K mg base CX0 4 f fd ["table"] (spD K 1 sp) := by
  refine okD (k := 3) F zfy fun cdv A outer s H E hr => ?_
  have sc := zfy
  have hu200 : (A.deeper (envOfC "name_worths" (defScope vq) s.heap.objs.size f cdv)).units + 200 < cLine := by have := hr.un; omega
  have hu80 := hx80 hu200
  have hu := hx1 hu200
  exact ⟨(zac xx zt), (zo (zaz (zp6 (K := K) (n := 2) (sp := xx) (pe_call zrw (hr.mono (by decide)) (by rfl) zrx zry zrz .nil pass0 (pdc (pdv 0) (pdc (zis (K := K) (n := 1) (m := 0) (N := 2) (sp := zt) (pe_callN (ks := []) zcq (hr.mono (by decide)) (by rfl) zcr zcs zje pass0 (pdc (pdv 0) pdn) pkdn) (zf8 zjf)) pdn)))))), hs⟩
theorem zj6 {f : Addr} {fd : FuncData} {sp : DSp} (T : Txt K)
    (F : Fun K "carrying_value" "carrying_value" xp f fd)
    (zp1 : mg "sum" = none)
    (hs : ∀ ds Q', ds.length = 2 → sp ds Q' → (u1) { nx := fun _ => Q' (.fz .non), rt := Q' } (zp 4 ds)) : FnOk P w K mg base CX0 1 f fd ["table", "carrying"] (spD K 2 sp) := by
  refine okD (k := 0) F zdv fun cdv A outer s H E hr => ?_
  have sc := zdv
  have hu200 : (A.deeper (envOfC "carrying_value" (defScope xp) s.heap.objs.size f cdv)).units + 200 < cLine := by have := hr.un; omega
  have hu80 := hx80 hu200
  have hu := hx1 hu200
  exact ⟨(u1), (zo (uv (pcb (zuf rfl) (by rfl) zp1 (by decide +kernel) (vvc (vf (pfz (ze9 (own := [("name", 2), ("place", 3)]) rfl sc.nd (zbx (pdv 1)) (blkOk_by (own := [("name", 2), ("place", 3)]) (N := zef) (sc := defScope xp) (by decide +kernel)) (fun _ _ _ _ _ => (pg_tup rfl (pgs_cons (pg_name (i := 2) sc.nd rfl (by first | exact .inl rfl | exact .inr rfl)) (pgs_cons (pg_name (i := 3) sc.nd rfl (by first | exact .inl rfl | exact .inr rfl)) pgs_nil)) (by rfl) (by rfl))) (fun _ _ _ _ _ => x7) (fun _ _ _ _ _ => (z8 hu (vdv 0) (zcf (pdc (pdv 2) (pdc (pdv 3) pdn))))) (zc6 (jj qk (jj qk zb9)))))) vvn)))), hs⟩
theorem zj7 {f : Addr} {fd : FuncData} {sp : DSp} (T : Txt K)
    (F : Fun K "greatest_value" "greatest_value" ja f fd)
    {jw : Addr} {ul : FuncData} {zr : DSp}
    (zb1 : FnOk P w K mg base CX0 2 jw ul ["entries"] (spD K 1 zr))
    (zb2 : mg "greatest_pairs" = some (.ref jw)) (zb3 : PySem.W.keepIn K (.ref jw) = true)
    (zb4 : Binds K ul ["entries"] [])
    {zb5 : Addr} {zdx : FuncData} {qi : DSp}
    (zk5 : FnOk P w K mg base CX0 1 zb5 zdx ["table", "carrying"] (spD K 2 qi))
    (zk6 : mg "carrying_value" = some (.ref zb5)) (zk7 : PySem.W.keepIn K (.ref zb5) = true)
    (zk8 : Binds K zdx ["table", "carrying"] [])
    (hs : ∀ ds Q', ds.length = 1 → sp ds Q' → (u3 zr qi) { nx := fun _ => Q' (.fz .non), rt := Q' } (zp 1 ds)) : FnOk P w K mg base CX0 3 f fd ["table"] (spD K 1 sp) := by
  refine okD (k := 2) F zdw fun cdv A outer s H E hr => ?_
  have sc := zdw
  have hu200 : (A.deeper (envOfC "greatest_value" (defScope ja) s.heap.objs.size f cdv)).units + 200 < cLine := by have := hr.un; omega
  have hu80 := hx80 hu200
  have hu := hx1 hu200
  exact ⟨(u3 zr qi), (zo (uv (qh (K := K) (n := 2) (sp := qi) (pe_call zk5 (hr.mono (by decide)) (by rfl) zk6 zk7 zk8 .nil pass0 (pdc (pdv 0) (pdc (qh (K := K) (n := 1) (sp := zr) (pe_call zb1 (hr.mono (by decide)) (by rfl) zb2 zb3 zb4 .nil pass0 (pdc (pdv 0) pdn))) pdn)))))), hs⟩
theorem zhi {f : Addr} {fd : FuncData} {sp : DSp} (T : Txt K)
    (F : Fun K "_law_worths_right" "_law_worths_right" qy f fd)
    {xf : Addr} {jd : FuncData} {zi : DSp}
    (ql : FnOk P w K mg base CX0 1 xf jd ["_law_stream_here", "_law_size"] (spD K 2 zi))
    (qm : mg "_law_draw" = some (.ref xf)) (qo : PySem.W.keepIn K (.ref xf) = true)
    (qp : Binds K jd ["_law_stream_here", "_law_size"] [])
    {uj : Addr} {yx : FuncData} {zv : DSp}
    (zbs : FnOk P w K mg base CX0 1 uj yx ["labels", "groups", "weights"] (spD K 3 zv))
    (zbt : mg "label_table" = some (.ref uj)) (zbu : PySem.W.keepIn K (.ref uj) = true)
    (zbv : Binds K yx ["labels", "groups", "weights"] [])
    {zdr : Addr} {zgq : FuncData} {qu : DSp}
    (zhy : FnOk P w K mg base CX0 4 zdr zgq ["table"] (spD K 1 qu))
    (zhz : mg "name_worths" = some (.ref zdr)) (zh0 : PySem.W.keepIn K (.ref zdr) = true)
    (zh1 : Binds K zgq ["table"] [])
    {zb6 : Addr} {zdy : FuncData} {qc : DSp}
    (zev : FnOk P w K mg base CX0 3 zb6 zdy ["table"] (spD K 1 qc))
    (zew : mg "greatest_value" = some (.ref zb6)) (zex : PySem.W.keepIn K (.ref zb6) = true)
    (zey : Binds K zdy ["table"] [])
    (zu8 : mg "abs" = none)
    (je : mg "sorted" = none)
    (zr0 : mg "dict" = none)
    (hs : ∀ ds Q', ds.length = 4 → sp ds Q' → (v0 zi zv qu qc) { nx := fun _ => Q' (.fz .non), rt := Q' } (zp 12 ds)) : FnOk P w K mg base CX0 5 f fd ["_law_stream_here", "_law_labels", "_law_groups", "_law_weights"] (spD K 4 sp) := by
  refine okD (k := 4) F zce fun cdv A outer s H E hr => ?_
  have sc := zce
  have hu200 : (A.deeper (envOfC "_law_worths_right" (defScope qy) s.heap.objs.size f cdv)).units + 200 < cLine := by have := hr.un; omega
  have hu80 := hx80 hu200
  have hu := hx1 hu200
  exact ⟨(v0 zi zv qu qc), (zh (z7 (i := 4) sc.nd rfl (by first | exact .inl rfl | exact .inr rfl) (qh (K := K) (n := 3) (sp := zv) (pe_call zbs (hr.mono (by decide)) (by rfl) zbt zbu zbv .nil pass0 (pdc (pdv 1) (pdc (pdv 2) (pdc (pdv 3) pdn))))))
 (zh (zae (i := 5) sc.nd rfl (by first | exact .inl rfl | exact .inr rfl) (pctO zzj (by rfl) zr0 (by decide +kernel) (vvc (vdv 3) vvn)))
 (zh (z7 (i := 6) sc.nd rfl (by first | exact .inl rfl | exact .inr rfl) (uk zm (qh (K := K) (n := 2) (sp := zi) (pe_call ql (hr.mono (by decide)) (by rfl) qm qo qp .nil pass0 (pdc (pdv 0) (pdc zm pdn))))))
 (zh (jx (uk zm (qh (K := K) (n := 2) (sp := zi) (pe_call ql (hr.mono (by decide)) (by rfl) qm qo qp .nil pass0 (pdc (pdv 0) (pdc zm pdn))))) (uw hu (pv 5) (pdv 6)))
 (zh (z7 (i := 7) sc.nd rfl (by first | exact .inl rfl | exact .inr rfl) (pcb (zue) (by rfl) zu8 (by decide +kernel) (vvc (vf (zbc (z8 hu (vdv 5) (pdv 6)) (z8 hu (vdv 3) (pdv 6)))) vvn)))
 (zh (z7 (i := 8) sc.nd rfl (by first | exact .inl rfl | exact .inr rfl) (qh (K := K) (n := 3) (sp := zv) (pe_call zbs (hr.mono (by decide)) (by rfl) zbt zbu zbv .nil pass0 (pdc (pdv 1) (pdc (pdv 2) (pdc (pdv 5) pdn))))))
 (zh (yc (zjr (pcb (zue) (by rfl) zu8 (by decide +kernel) (vvc (vf (zbc (qh (K := K) (n := 1) (sp := qc) (pe_call zev (hr.mono (by decide)) (by rfl) zew zex zey .nil pass0 (pdc (pdv 8) pdn))) (qh (K := K) (n := 1) (sp := qc) (pe_call zev (hr.mono (by decide)) (by rfl) zew zex zey .nil pass0 (pdc (pdv 4) pdn))))) vvn)) (pdv 7)) (zo (uv zaw)) ud)
 (zh (zze (is := [9, 10]) (n := 2) rfl (mmf (qh (K := K) (n := 1) (sp := qu) (pe_call zhy (hr.mono (by decide)) (by rfl) zhz zh0 zh1 .nil pass0 (pdc (pdv 4) pdn))) (mmf (qh (K := K) (n := 1) (sp := qu) (pe_call zhy (hr.mono (by decide)) (by rfl) zhz zh0 zh1 .nil pass0 (pdc (pdv 8) pdn))) mmn)) (zqc (pg_name (i := 9) sc.nd rfl (by first | exact .inl rfl | exact .inr rfl)) (zqc (pg_name (i := 10) sc.nd rfl (by first | exact .inl rfl | exact .inr rfl)) zzd)))
 (zh (yc (qcm (zc7 hu80) (vf (pfz (pcbO (y2 rfl hu200) (by rfl) je (by decide +kernel) (vvc (vdv 9) vvn)))) (vf (pfz (pcbO (y2 rfl hu200) (by rfl) je (by decide +kernel) (vvc (vdv 10) vvn)))) (nomark _)) (zo (uv zaw)) ud)
 (zo (uv (pcm (zp9 hu80) (vf (pfz (ze9 (own := [("_law_name", 11)]) rfl sc.nd (zcw (pdv 9)) (blkOk_by (own := [("_law_name", 11)]) (N := zcv) (sc := defScope qy) (by decide +kernel)) (fun _ _ _ _ _ => (pg_name (i := 11) sc.nd rfl (by first | exact .inl rfl | exact .inr rfl))) (fun _ _ _ _ _ => (ze8 (zjr (pcb (zue) (by rfl) zu8 (by decide +kernel) (vvc (vf (zbc (z8 hu (vdv 9) (pdv 11)) (z8 hu (vdv 10) (pdv 11)))) vvn)) (pdv 7)))) (fun _ _ _ _ _ => (pdv 11)) qk))) (vf (pfz (uc pdn))) (nomark _))))))))))))), hs⟩
theorem zr1 {f : Addr} {fd : FuncData} {sp : DSp} (T : Txt K)
    (F : Fun K "places_of" "places_of" v9 f fd)
    (zbi : mg "enumerate" = none)
    (hs : ∀ ds Q', ds.length = 1 → sp ds Q' → (zbf) { nx := fun _ => Q' (.fz .non), rt := Q' } (zp 4 ds)) : FnOk P w K mg base CX0 1 f fd ["groups"] (spD K 1 sp) := by
  refine okD (k := 0) F zif fun cdv A outer s H E hr => ?_
  have sc := zif
  have hu200 : (A.deeper (envOfC "places_of" (defScope v9) s.heap.objs.size f cdv)).units + 200 < cLine := by have := hr.un; omega
  have hu80 := hx80 hu200
  have hu := hx1 hu200
  exact ⟨(zbf), (zo (zaz (zln (dcu2 (own := [("place", 1), ("group", 2), ("row_id", 3)]) (vs1 := [3]) .k rfl sc.nd hu (zmr (by rfl) zbi (pdc (pdv 0) pdn)) (blkOk_by (own := [("place", 1), ("group", 2), ("row_id", 3)]) (N := zj9) (sc := defScope v9) (by decide +kernel)) (fun _ _ _ _ _ => (pg_tup rfl (pgs_cons (pg_name (i := 1) sc.nd rfl (by first | exact .inl rfl | exact .inr rfl)) (pgs_cons (pg_name (i := 2) sc.nd rfl (by first | exact .inl rfl | exact .inr rfl)) pgs_nil)) (by rfl) (by rfl))) (fun _ _ _ _ _ => x7) (fun _ _ _ _ _ => (zlh (pdv 2))) (fun _ _ _ _ _ => (pg_name (i := 3) sc.nd rfl (by first | exact .inl rfl | exact .inr rfl))) (fun _ _ _ _ _ => x7) (fun _ _ _ _ _ => (pdv 3)) (fun _ _ _ _ _ => (pdv 1)) (zc6 (jj qk (jj qk zb9))) qk (by decide))))), hs⟩
theorem zk9 {f : Addr} {fd : FuncData} {sp : DSp} (T : Txt K)
    (F : Fun K "counting_pins" "counting_pins" jl f fd)
    {jq : Addr} {ue : FuncData} {zq : DSp}
    (zbj : FnOk P w K mg base CX0 1 jq ue ["groups"] (spD K 1 zq))
    (zbk : mg "places_of" = some (.ref jq)) (zbl : PySem.W.keepIn K (.ref jq) = true)
    (zbm : Binds K ue ["groups"] [])
    (je : mg "sorted" = none)
    (hs : ∀ ds Q', ds.length = 2 → sp ds Q' → (yk zq) { nx := fun _ => Q' (.fz .non), rt := Q' } (zp 7 ds)) : FnOk P w K mg base CX0 2 f fd ["groups", "pins"] (spD K 2 sp) := by
  refine okD (k := 1) F zeg fun cdv A outer s H E hr => ?_
  have sc := zeg
  have hu200 : (A.deeper (envOfC "counting_pins" (defScope jl) s.heap.objs.size f cdv)).units + 200 < cLine := by have := hr.un; omega
  have hu80 := hx80 hu200
  have hu := hx1 hu200
  exact ⟨(yk zq), (zh (z7 (i := 2) sc.nd rfl (by first | exact .inl rfl | exact .inr rfl) (qh (K := K) (n := 1) (sp := zq) (pe_call zbj (hr.mono (by decide)) (by rfl) zbk zbl zbm .nil pass0 (pdc (pdv 0) pdn))))
 (zh (zae (i := 3) sc.nd rfl (by first | exact .inl rfl | exact .inr rfl) u8)
 (zh (zae (i := 4) sc.nd rfl (by first | exact .inl rfl | exact .inr rfl) u8)
 (zh (vh PassesOwn.never rfl (za0 (pfz (pcbO (y2 rfl hu200) (by rfl) je (by decide +kernel) (vvc (vdv 1) vvn)))) (zy (pg_name (i := 5) sc.nd rfl (by first | exact .inl rfl | exact .inr rfl)))
 (zh (z7 (i := 6) sc.nd rfl (by first | exact .inl rfl | exact .inr rfl) (zjt hu (vdv 2) (z8 hu (vdv 1) (pdv 5))))
 (zo (yc ((zij (zy3 (pdv 6) zlg) (zf2 (zzl hu (pdv 6) (vdv 4))))).pt (zh (jx (pdv 5) (uw hu (pv 4) (pdv 6)))
 (zo (jx (z8 hu (vdv 1) (pdv 5)) (uw hu (pv 3) (pdv 5))))) ud))))
 (zo (zb7 (pv 3))))))), hs⟩
theorem zu9 {f : Addr} {fd : FuncData} {kws : List (Str × V)} {sp : DSp} (T : Txt K)
    (F : FunD K "without" "without" (defArgs vr) (defBody vr) (defScope vr) [] kws f fd)
    (hs : ∀ ds Q', ds.length = 3 → sp ds Q' → (zdh) { nx := fun _ => Q' (.fz .non), rt := Q' } (zp 4 ds)) : FnOk P w K mg base CX0 1 f fd ["table", "names", "places"] (spD K 3 sp) := by
  refine okDK (st := vr) (k := 0) F zle fun cdv A outer s H E hr => ?_
  have sc := zle
  have hu200 : (A.deeper (envOfC "without" (defScope vr) s.heap.objs.size f cdv)).units + 200 < cLine := by have := hr.un; omega
  have hu80 := hx80 hu200
  have hu := hx1 hu200
  exact ⟨(zdh), (zo (zaz (zln (dcu1 (own := [("key", 3)]) .t rfl sc.nd hu (zcw (pdv 0)) (blkOk_by (own := [("key", 3)]) (N := zng) (sc := defScope vr) (by decide +kernel)) (fun _ _ _ _ _ => (pg_name (i := 3) sc.nd rfl (by first | exact .inl rfl | exact .inr rfl))) (fun _ _ _ _ _ => (ze8 ((zij (ztg hu (z8 hu (vdv 3) zm) (vdv 1)) (zf2 (ztg hu (z8 hu (vdv 3) zm) (vdv 2))))).pt)) (fun _ _ _ _ _ => (pdv 3)) (fun _ _ _ _ _ => (z8 hu (vdv 0) (pdv 3))) qk)))), hs⟩
theorem zox {f : Addr} {fd : FuncData} {sp : DSp} (T : Txt K)
    (F : Fun K "open_table" "open_table" vg f fd)
    {uj : Addr} {yx : FuncData} {zv : DSp}
    (zbs : FnOk P w K mg base CX0 1 uj yx ["labels", "groups", "weights"] (spD K 3 zv))
    (zbt : mg "label_table" = some (.ref uj)) (zbu : PySem.W.keepIn K (.ref uj) = true)
    (zbv : Binds K yx ["labels", "groups", "weights"] [])
    {jq : Addr} {ue : FuncData} {zq : DSp}
    (zbj : FnOk P w K mg base CX0 1 jq ue ["groups"] (spD K 1 zq))
    (zbk : mg "places_of" = some (.ref jq)) (zbl : PySem.W.keepIn K (.ref jq) = true)
    (zbm : Binds K ue ["groups"] [])
    {zjg : Addr} {zmi : FuncData} {vi : DSp}
    (zw3 : FnOk P w K mg base CX0 1 zjg zmi ["table", "names", "places"] (spD K 3 vi))
    (zw4 : mg "without" = some (.ref zjg)) (zw5 : PySem.W.keepIn K (.ref zjg) = true)
    {zr2 : List Value} {zjh : List V} (zr3 : KBn K zmi ["table", "names", "places"] 1 ["names", "places"] (fun us ws => ord3 [(0, 0), (2, 0), (2, 1)] us zr2 ws) (fun vs zs => ord3 [(0, 0), (2, 0), (2, 1)] vs zjh zs)) (zr4 : ∀ F, RepL K F zjh [])
    (zjc : mg "list" = none)
    (hs : ∀ ds Q', ds.length = 4 → sp ds Q' → (zat zv zq vi) { nx := fun _ => Q' (.fz .non), rt := Q' } (zp 7 ds)) : FnOk P w K mg base CX0 2 f fd ["labels", "groups", "weights", "pins"] (spD K 4 sp) := by
  refine okD (k := 1) F zhp fun cdv A outer s H E hr => ?_
  have sc := zhp
  have hu200 : (A.deeper (envOfC "open_table" (defScope vg) s.heap.objs.size f cdv)).units + 200 < cLine := by have := hr.un; omega
  have hu80 := hx80 hu200
  have hu := hx1 hu200
  exact ⟨(zat zv zq vi), (zh (z7 (i := 4) sc.nd rfl (by first | exact .inl rfl | exact .inr rfl) (qh (K := K) (n := 1) (sp := zq) (pe_call zbj (hr.mono (by decide)) (by rfl) zbk zbl zbm .nil pass0 (pdc (pdv 1) pdn))))
 (zh (zxa (i := 5) (own := [("row_id", 6)]) rfl sc.nd rfl rfl (sw_true rfl rfl rfl (by decide +kernel)) (zvr (pdv 3)) (blkOk_by (own := [("row_id", 6)]) (N := zig) (sc := defScope vg) (by decide +kernel)) (fun _ _ _ _ _ => (pg_name (i := 6) sc.nd rfl (by first | exact .inl rfl | exact .inr rfl))) (fun _ _ _ _ _ => x7) (fun _ _ _ _ _ => (z8 hu (vdv 4) (pdv 6))) qk)
 (zo (uv (zis (K := K) (n := 1) (m := 2) (N := 3) (sp := vi) (pe_callN (ks := ["names", "places"]) zw3 (hr.mono (by decide)) (by rfl) zw4 zw5 zr3 pass0 (pdc (qh (K := K) (n := 3) (sp := zv) (pe_call zbs (hr.mono (by decide)) (by rfl) zbt zbu zbv .nil pass0 (pdc (pdv 0) (pdc (pdv 1) (pdc (pdv 2) pdn))))) pdn) (pkdc (pfz (pctO (zvl rfl) (by rfl) zjc (by decide +kernel) (vvc (vdv 3) vvn))) (pkdc (pdv 5) pkdn))) (zf8 zr4)))))), hs⟩
theorem zoy {f : Addr} {fd : FuncData} {kws : List (Str × V)} {sp : DSp} (T : Txt K)
    (F : FunD K "carry_over" "carry_over" (defArgs xr) (defBody xr) (defScope xr) [] kws f fd)
    {vk : Addr} {u6 : FuncData} {zt : DSp}
    (zcq : FnOk P w K mg base CX0 3 vk u6 ["table", "homes"] (spD K 2 zt))
    (zcr : mg "best_carrying" = some (.ref vk)) (zcs : PySem.W.keepIn K (.ref vk) = true)
    {zji : List Value} {zdk : List V} (zjj : KBn K u6 ["table", "homes"] 1 ["homes"] (fun us ws => ord3 [(0, 0), (2, 0)] us zji ws) (fun vs zs => ord3 [(0, 0), (2, 0)] vs zdk zs)) (zjk : ∀ F, RepL K F zdk [])
    {jq : Addr} {ue : FuncData} {zq : DSp}
    (zbj : FnOk P w K mg base CX0 1 jq ue ["groups"] (spD K 1 zq))
    (zbk : mg "places_of" = some (.ref jq)) (zbl : PySem.W.keepIn K (.ref jq) = true)
    (zbm : Binds K ue ["groups"] [])
    {zct : Addr} {zez : FuncData} {qx : DSp}
    (zmj : FnOk P w K mg base CX0 2 zct zez ["groups", "pins"] (spD K 2 qx))
    (zmk : mg "counting_pins" = some (.ref zct)) (zml : PySem.W.keepIn K (.ref zct) = true)
    (zmm : Binds K zez ["groups", "pins"] [])
    {ze0 : Addr} {zh2 : FuncData} {xy : DSp}
    (zr5 : FnOk P w K mg base CX0 2 ze0 zh2 ["labels", "groups", "weights", "pins"] (spD K 4 xy))
    (zr6 : mg "open_table" = some (.ref ze0)) (zr7 : PySem.W.keepIn K (.ref ze0) = true)
    (zr8 : Binds K zh2 ["labels", "groups", "weights", "pins"] [])
    (hs : ∀ ds Q', ds.length = 5 → sp ds Q' → (zau zt zq qx xy) { nx := fun _ => Q' (.fz .non), rt := Q' } (zp 10 ds)) : FnOk P w K mg base CX0 4 f fd ["labels", "groups", "weights", "pins", "homes"] (spD K 5 sp) := by
  refine okDK (st := xr) (k := 3) F zhq fun cdv A outer s H E hr => ?_
  have sc := zhq
  have hu200 : (A.deeper (envOfC "carry_over" (defScope xr) s.heap.objs.size f cdv)).units + 200 < cLine := by have := hr.un; omega
  have hu80 := hx80 hu200
  have hu := hx1 hu200
  exact ⟨(zau zt zq qx xy), (zh (z7 (i := 5) sc.nd rfl (by first | exact .inl rfl | exact .inr rfl) (qh (K := K) (n := 2) (sp := qx) (pe_call zmj (hr.mono (by decide)) (by rfl) zmk zml zmm .nil pass0 (pdc (pdv 1) (pdc (z2m (z05 (pdv 3) zlg) (pfz u8) (pdv 3)) pdn)))))
 (zh (z7 (i := 6) sc.nd rfl (by first | exact .inl rfl | exact .inr rfl) (qh (K := K) (n := 1) (sp := zq) (pe_call zbj (hr.mono (by decide)) (by rfl) zbk zbl zbm .nil pass0 (pdc (pdv 1) pdn))))
 (zh (zxf (i := 7) sc.nd rfl rfl (zps rfl rfl rfl (by decide +kernel)) (dcu1 (own := [("name", 8), ("row_id", 9)]) .k rfl sc.nd hu (zbx (pdv 5)) (blkOk_by (own := [("name", 8), ("row_id", 9)]) (N := zih) (sc := defScope xr) (by decide +kernel)) (fun _ _ _ _ _ => (pg_tup rfl (pgs_cons (pg_name (i := 8) sc.nd rfl (by first | exact .inl rfl | exact .inr rfl)) (pgs_cons (pg_name (i := 9) sc.nd rfl (by first | exact .inl rfl | exact .inr rfl)) pgs_nil)) (by rfl) (by rfl))) (fun _ _ _ _ _ => x7) (fun _ _ _ _ _ => (pdv 8)) (fun _ _ _ _ _ => (z8 hu (vdv 6) (pdv 9))) (zc6 (jj qk (jj qk zb9)))))
 (zo (zaz (z1o (pdv 7) (zis (K := K) (n := 1) (m := 1) (N := 2) (sp := zt) (pe_callN (ks := ["homes"]) zcq (hr.mono (by decide)) (by rfl) zcr zcs zjj pass0 (pdc (qh (K := K) (n := 4) (sp := xy) (pe_call zr5 (hr.mono (by decide)) (by rfl) zr6 zr7 zr8 .nil pass0 (pdc (pdv 0) (pdc (pdv 1) (pdc (pdv 2) (pdc (pdv 5) pdn)))))) pdn) (pkdc (pdv 4) pkdn)) (zf8 zjk)))))))), hs⟩
theorem z2c {f : Addr} {fd : FuncData} {sp : DSp} (T : Txt K)
    (F : Fun K "law" "law" y1 f fd)
    {zds : Addr} {zgr : FuncData} {ut : DSp}
    (zoz : FnOk P w K mg base CX0 1 zds zgr ["_law_script", "_law_start"] (spD K 2 ut))
    (zo0 : mg "_law_stream" = some (.ref zds)) (zo1 : PySem.W.keepIn K (.ref zds) = true)
    (zo2 : Binds K zgr ["_law_script", "_law_start"] [])
    {ze1 : Addr} {zh3 : FuncData} {x0 : DSp}
    (zr9 : FnOk P w K mg base CX0 3 ze1 zh3 ["_law_stream_here"] (spD K 1 x0))
    (zsa : mg "_law_drawn" = some (.ref ze1)) (zsb : PySem.W.keepIn K (.ref ze1) = true)
    (zsc : Binds K zh3 ["_law_stream_here"] [])
    {zfp : Addr} {zjl : FuncData} {jb : DSp}
    (zsv : FnOk P w K mg base CX0 1 zfp zjl ["groups", "names"] (spD K 2 jb))
    (zsw : mg "labels_of" = some (.ref zfp)) (zsx : PySem.W.keepIn K (.ref zfp) = true)
    (zsy : Binds K zjl ["groups", "names"] [])
    {ze2 : Addr} {zh4 : FuncData} {ya : DSp}
    (zsd : FnOk P w K mg base CX0 2 ze2 zh4 ["_law_stream_here", "_law_groups"] (spD K 2 ya))
    (zse : mg "_law_moved" = some (.ref ze2)) (zsf : PySem.W.keepIn K (.ref ze2) = true)
    (zsg : Binds K zh4 ["_law_stream_here", "_law_groups"] [])
    {zdt : Addr} {zgs : FuncData} {xn : DSp}
    (zo3 : FnOk P w K mg base CX0 1 zdt zgs ["labels", "groups", "names"] (spD K 3 xn))
    (zo4 : mg "renamed_ids" = some (.ref zdt)) (zo5 : PySem.W.keepIn K (.ref zdt) = true)
    (zo6 : Binds K zgs ["labels", "groups", "names"] [])
    {zai : Addr} {zcu : FuncData} {z9 : DSp}
    (zh7 : FnOk P w K mg base CX0 5 zai zcu ["_law_stream_here", "_law_labels", "_law_groups", "_law_weights"] (spD K 4 z9))
    (zh8 : mg "_law_worths_right" = some (.ref zai)) (zh9 : PySem.W.keepIn K (.ref zai) = true)
    (zia : Binds K zcu ["_law_stream_here", "_law_labels", "_law_groups", "_law_weights"] [])
    {ze3 : Addr} {zh5 : FuncData} {x3 : DSp}
    (zsh : FnOk P w K mg base CX0 4 ze3 zh5 ["labels", "groups", "weights", "pins", "homes"] (spD K 5 x3))
    (zsi : mg "carry_over" = some (.ref ze3)) (zsj : PySem.W.keepIn K (.ref ze3) = true)
    {zmn : List Value} {zfk : List V} (zmo : KBn K zh5 ["labels", "groups", "weights", "pins", "homes"] 3 [] (fun us ws => ord3 [(0, 0), (0, 1), (0, 2), (1, 0), (1, 1)] us zmn ws) (fun vs zs => ord3 [(0, 0), (0, 1), (0, 2), (1, 0), (1, 1)] vs zfk zs)) (zmp : ∀ F, RepL K F zfk [.non, .non])
    (zbb : mg "range" = none)
    (zp1 : mg "sum" = none)
    (u7 : mg "len" = none)
    (zr0 : mg "dict" = none)
    (hs : ∀ ds Q', ds.length = 1 → sp ds Q' → (zl8 ut x0 jb ya xn z9 x3) { nx := fun _ => Q' (.fz .non), rt := Q' } (zp 14 ds)) : FnAt P w K mg base callerA f fd ["_law_script"] (spD K 1 sp) := by
  refine okL (k := 5) F zva ⟨rfl, by decide, by decide⟩ fun cdv outer s H hr => ?_
  have sc := zva
  have hgd : (callerA.deeper (envOfC "law" (defScope y1) s.heap.objs.size f cdv)).guards = some [] := rfl
  have hu200 : (callerA.deeper (envOfC "law" (defScope y1) s.heap.objs.size f cdv)).units + 200 < cLine := by have := hr.un; omega
  have hu80 := hx80 hu200
  have hu := hx1 hu200
  exact ⟨(zl8 ut x0 jb ya xn z9 x3), (zh (vh PassesOwn.never rfl (zf3 (by rfl) zbb (pdc zm pdn)) (zy (pg_name (i := 1) sc.nd rfl (by first | exact .inl rfl | exact .inr rfl)))
 (zh (z7 (i := 2) sc.nd rfl (by first | exact .inl rfl | exact .inr rfl) (qh (K := K) (n := 2) (sp := ut) (pe_call zoz (hr.mono (by decide)) (by rfl) zo0 zo1 zo2 .nil pass0 (pdc (pdv 0) (pdc (pdv 1) pdn)))))
 (zh (jx (qh (K := K) (n := 1) (sp := x0) (pe_call zr9 (hr.mono (by decide)) (by rfl) zsa zsb zsc .nil pass0 (pdc (pdv 2) pdn))) (ye rfl (z6 (zy (pg_name (i := 3) sc.nd rfl (by first | exact .inl rfl | exact .inr rfl))) (z6 (zy (pg_name (i := 4) sc.nd rfl (by first | exact .inl rfl | exact .inr rfl))) (z6 (zy (pg_name (i := 5) sc.nd rfl (by first | exact .inl rfl | exact .inr rfl))) (z6 (zy (pg_name (i := 6) sc.nd rfl (by first | exact .inl rfl | exact .inr rfl))) ug))))))
 (zh (yc (qcm (zc7 hu80) (vdv 3) (vf (pfz (uc pdn))) (nomark _)) (zh (z7 (i := 7) sc.nd rfl (by first | exact .inl rfl | exact .inr rfl) (pfz (pctO (zxq rfl) (by rfl) zr0 (by decide +kernel) (vvc (vf (pfz (ze9 (own := [("_law_place", 8)]) rfl sc.nd (zf3 (by rfl) zbb (pdc (yp (by rfl) u7 (vdv 3)) pdn)) (blkOk_by (own := [("_law_place", 8)]) (N := zo7) (sc := defScope y1) (by decide +kernel)) (fun _ _ _ _ _ => (pg_name (i := 8) sc.nd rfl (by first | exact .inl rfl | exact .inr rfl))) (fun _ _ _ _ _ => x7) (fun _ _ _ _ _ => (zcf (pdc (z8 hu (vf (pfz (uc (pdc yo (pdc yo (pdc yo (pdc yo pdn))))))) (pdv 8)) (pdc (pdv 8) pdn)))) qk))) vvn))))
 (zh (z7 (i := 9) sc.nd rfl (by first | exact .inl rfl | exact .inr rfl) (qh (K := K) (n := 2) (sp := jb) (pe_call zsv (hr.mono (by decide)) (by rfl) zsw zsx zsy .nil pass0 (pdc (pdv 3) (pdc (pdv 7) pdn)))))
 (zh (jx (qh (K := K) (n := 2) (sp := ya) (pe_call zsd (hr.mono (by decide)) (by rfl) zse zsf zsg .nil pass0 (pdc (pdv 2) (pdc (pdv 3) pdn)))) (ye rfl (z6 (zy (pg_name (i := 10) sc.nd rfl (by first | exact .inl rfl | exact .inr rfl))) (z6 (zy (pg_name (i := 11) sc.nd rfl (by first | exact .inl rfl | exact .inr rfl))) ug))))
 (zh (z7 (i := 12) sc.nd rfl (by first | exact .inl rfl | exact .inr rfl) (qh (K := K) (n := 3) (sp := xn) (pe_call zo3 (hr.mono (by decide)) (by rfl) zo4 zo5 zo6 .nil pass0 (pdc (pdv 9) (pdc (pdv 10) (pdc (zis (K := K) (n := 3) (m := 0) (N := 5) (sp := x3) (pe_callN (ks := []) zsh (hr.mono (by decide)) (by rfl) zsi zsj zmo pass0 (pdc (pdv 9) (pdc (pdv 10) (pdc (pdv 5) pdn))) pkdn) (zf8 zmp)) pdn))))))
 (zo (yc (zjr (pcb (zuf rfl) (by rfl) zp1 (by decide +kernel) (vvc (vf (pfz (ze9 (own := [("_law_row_id", 13)]) rfl sc.nd (za0 (pdv 12)) (blkOk_by (own := [("_law_row_id", 13)]) (N := zo7) (sc := defScope y1) (by decide +kernel)) (fun _ _ _ _ _ => (pg_name (i := 13) sc.nd rfl (by first | exact .inl rfl | exact .inr rfl))) (fun _ _ _ _ _ => x7) (fun _ _ _ _ _ => (z8 hu (vdv 5) (pdv 13))) qk))) vvn)) (pcb (zuf rfl) (by rfl) zp1 (by decide +kernel) (vvc (vf (pfz (ze9 (own := [("_law_row_id", 13)]) rfl sc.nd (za0 (pdv 11)) (blkOk_by (own := [("_law_row_id", 13)]) (N := zo7) (sc := defScope y1) (by decide +kernel)) (fun _ _ _ _ _ => (pg_name (i := 13) sc.nd rfl (by first | exact .inl rfl | exact .inr rfl))) (fun _ _ _ _ _ => x7) (fun _ _ _ _ _ => (z8 hu (vdv 5) (pdv 13))) qk))) vvn))) (zo (uv zaw)) ud)))))) ud)
 (zo (yc (z06 (qt (qh (K := K) (n := 4) (sp := z9) (pe_call zh7 (hr.mono (by decide)) (by rfl) zh8 zh9 zia .nil pass0 (pdc (pdv 2) (pdc (pdv 4) (pdc (pdv 3) (pdc (pdv 5) pdn)))))))) (zo (uv zaw)) ud))))))
 (zo (uv zaw))), hs⟩
end
theorem z2d {l : PySem.W.OpenLaw} {w : World} {K : PySem.W.Frag} {h : Heap} {mg : Str → Option Value} {fa f0 f1 f2 f3 f4 f5 f6 f7 f8 f9 f10 f11 f12 f13 f14 f15 f16 f17 f18 f19 f20 f21 f22 f23 f24 f25 f26 : Addr} (X : K.In h) (G : h.Ns mainGlobals mg) (hfa : mg "law" = some (.ref fa))
    {od0 an0 : Option Addr} {sl0 : Array (Option Value)} {oc0 kV0 dc0 pm0 cd0 ct0 : Value}
    {od1 an1 : Option Addr} {sl1 : Array (Option Value)} {oc1 kV1 dc1 pm1 cd1 ct1 : Value}
    {od2 an2 : Option Addr} {sl2 : Array (Option Value)} {oc2 kV2 dc2 pm2 cd2 ct2 : Value}
    {od3 an3 : Option Addr} {sl3 : Array (Option Value)} {oc3 kV3 dc3 pm3 cd3 ct3 : Value}
    {od4 an4 : Option Addr} {sl4 : Array (Option Value)} {oc4 kV4 dc4 pm4 cd4 ct4 : Value}
    {od5 an5 : Option Addr} {sl5 : Array (Option Value)} {oc5 kV5 dc5 pm5 cd5 ct5 : Value}
    {od6 an6 : Option Addr} {sl6 : Array (Option Value)} {oc6 kV6 dc6 pm6 cd6 ct6 : Value}
    {od7 an7 : Option Addr} {sl7 : Array (Option Value)} {oc7 kV7 dc7 pm7 cd7 ct7 : Value}
    {od8 an8 : Option Addr} {sl8 : Array (Option Value)} {oc8 kV8 dc8 pm8 cd8 ct8 : Value}
    {od9 an9 : Option Addr} {sl9 : Array (Option Value)} {oc9 kV9 dc9 pm9 cd9 ct9 : Value}
    {od10 an10 : Option Addr} {sl10 : Array (Option Value)} {oc10 kV10 dc10 pm10 cd10 ct10 : Value}
    {od11 an11 : Option Addr} {sl11 : Array (Option Value)} {oc11 kV11 dc11 pm11 cd11 ct11 : Value}
    {od12 an12 : Option Addr} {sl12 : Array (Option Value)} {oc12 kV12 dc12 pm12 cd12 ct12 : Value}
    {od13 an13 : Option Addr} {sl13 : Array (Option Value)} {oc13 kV13 dc13 pm13 cd13 ct13 : Value}
    {od14 an14 : Option Addr} {sl14 : Array (Option Value)} {oc14 kV14 dc14 pm14 cd14 ct14 : Value}
    {od15 an15 : Option Addr} {sl15 : Array (Option Value)} {oc15 dc15 pm15 cd15 ct15 : Value}
    {dk15 : Addr}
    {od16 an16 : Option Addr} {sl16 : Array (Option Value)} {oc16 dc16 pm16 cd16 ct16 : Value}
    {dk16 : Addr}
    {od17 an17 : Option Addr} {sl17 : Array (Option Value)} {oc17 kV17 dc17 pm17 cd17 ct17 : Value}
    {od18 an18 : Option Addr} {sl18 : Array (Option Value)} {oc18 kV18 dc18 pm18 cd18 ct18 : Value}
    {od19 an19 : Option Addr} {sl19 : Array (Option Value)} {oc19 kV19 dc19 pm19 cd19 ct19 : Value}
    {od20 an20 : Option Addr} {sl20 : Array (Option Value)} {oc20 kV20 dc20 pm20 cd20 ct20 : Value}
    {od21 an21 : Option Addr} {sl21 : Array (Option Value)} {oc21 kV21 dc21 pm21 cd21 ct21 : Value}
    {od22 an22 : Option Addr} {sl22 : Array (Option Value)} {oc22 kV22 dc22 pm22 cd22 ct22 : Value}
    {od23 an23 : Option Addr} {sl23 : Array (Option Value)} {oc23 dc23 pm23 cd23 ct23 : Value}
    {dk23 : Addr}
    {t23_names : Addr} {td23_names : Option Addr} {tn23_names : Nat} {ts23_names : Array (Option Value)}
    {t23_places : Addr} {td23_places : Option Addr} {tn23_places : Nat} {ts23_places : Array (Option Value)}
    {od24 an24 : Option Addr} {sl24 : Array (Option Value)} {oc24 kV24 dc24 pm24 cd24 ct24 : Value}
    {od25 an25 : Option Addr} {sl25 : Array (Option Value)} {oc25 dc25 pm25 cd25 ct25 : Value}
    {dk25 : Addr}
    {od26 an26 : Option Addr} {sl26 : Array (Option Value)} {oc26 kV26 dc26 pm26 cd26 ct26 : Value}
    (a0 : PySem.W.nsIn K mainGlobals "_law_stream" = some (some (.ref f0)))
    (l0 : K.lookup f0 = some ⟨oc0, od0, .func (PySem.W.fnOf "_law_stream" "_law_stream" (defArgs vm) (defBody vm) (defScope vm) .none kV0 dc0 pm0 an0 cd0 ct0), sl0⟩)
    (c0 : PySem.W.codeIn K cd0 "_law_stream" = true)
    (k0 : PySem.W.keepIn K (.ref f0) = true)
    (a1 : PySem.W.nsIn K mainGlobals "_law_draw" = some (some (.ref f1)))
    (l1 : K.lookup f1 = some ⟨oc1, od1, .func (PySem.W.fnOf "_law_draw" "_law_draw" (defArgs uo) (defBody uo) (defScope uo) .none kV1 dc1 pm1 an1 cd1 ct1), sl1⟩)
    (c1 : PySem.W.codeIn K cd1 "_law_draw" = true)
    (k1 : PySem.W.keepIn K (.ref f1) = true)
    (a2 : PySem.W.nsIn K mainGlobals "_law_choose" = some (some (.ref f2)))
    (l2 : K.lookup f2 = some ⟨oc2, od2, .func (PySem.W.fnOf "_law_choose" "_law_choose" (defArgs vn) (defBody vn) (defScope vn) .none kV2 dc2 pm2 an2 cd2 ct2), sl2⟩)
    (c2 : PySem.W.codeIn K cd2 "_law_choose" = true)
    (k2 : PySem.W.keepIn K (.ref f2) = true)
    (a3 : PySem.W.nsIn K mainGlobals "_law_drawn" = some (some (.ref f3)))
    (l3 : K.lookup f3 = some ⟨oc3, od3, .func (PySem.W.fnOf "_law_drawn" "_law_drawn" (defArgs ub) (defBody ub) (defScope ub) .none kV3 dc3 pm3 an3 cd3 ct3), sl3⟩)
    (c3 : PySem.W.codeIn K cd3 "_law_drawn" = true)
    (k3 : PySem.W.keepIn K (.ref f3) = true)
    (a4 : PySem.W.nsIn K mainGlobals "labels_of" = some (some (.ref f4)))
    (l4 : K.lookup f4 = some ⟨oc4, od4, .func (PySem.W.fnOf "labels_of" "labels_of" (defArgs v8) (defBody v8) (defScope v8) .none kV4 dc4 pm4 an4 cd4 ct4), sl4⟩)
    (c4 : PySem.W.codeIn K cd4 "labels_of" = true)
    (k4 : PySem.W.keepIn K (.ref f4) = true)
    (a5 : PySem.W.nsIn K mainGlobals "_law_moved" = some (some (.ref f5)))
    (l5 : K.lookup f5 = some ⟨oc5, od5, .func (PySem.W.fnOf "_law_moved" "_law_moved" (defArgs jp) (defBody jp) (defScope jp) .none kV5 dc5 pm5 an5 cd5 ct5), sl5⟩)
    (c5 : PySem.W.codeIn K cd5 "_law_moved" = true)
    (k5 : PySem.W.keepIn K (.ref f5) = true)
    (a6 : PySem.W.nsIn K mainGlobals "renamed_ids" = some (some (.ref f6)))
    (l6 : K.lookup f6 = some ⟨oc6, od6, .func (PySem.W.fnOf "renamed_ids" "renamed_ids" (defArgs jr) (defBody jr) (defScope jr) .none kV6 dc6 pm6 an6 cd6 ct6), sl6⟩)
    (c6 : PySem.W.codeIn K cd6 "renamed_ids" = true)
    (k6 : PySem.W.keepIn K (.ref f6) = true)
    (a7 : PySem.W.nsIn K mainGlobals "label_table" = some (some (.ref f7)))
    (l7 : K.lookup f7 = some ⟨oc7, od7, .func (PySem.W.fnOf "label_table" "label_table" (defArgs vo) (defBody vo) (defScope vo) .none kV7 dc7 pm7 an7 cd7 ct7), sl7⟩)
    (c7 : PySem.W.codeIn K cd7 "label_table" = true)
    (k7 : PySem.W.keepIn K (.ref f7) = true)
    (a8 : PySem.W.nsIn K mainGlobals "column_prices" = some (some (.ref f8)))
    (l8 : K.lookup f8 = some ⟨oc8, od8, .func (PySem.W.fnOf "column_prices" "column_prices" (defArgs x8) (defBody x8) (defScope x8) .none kV8 dc8 pm8 an8 cd8 ct8), sl8⟩)
    (c8 : PySem.W.codeIn K cd8 "column_prices" = true)
    (k8 : PySem.W.keepIn K (.ref f8) = true)
    (a9 : PySem.W.nsIn K mainGlobals "row_worths" = some (some (.ref f9)))
    (l9 : K.lookup f9 = some ⟨oc9, od9, .func (PySem.W.fnOf "row_worths" "row_worths" (defArgs vd) (defBody vd) (defScope vd) .none kV9 dc9 pm9 an9 cd9 ct9), sl9⟩)
    (c9 : PySem.W.codeIn K cd9 "row_worths" = true)
    (k9 : PySem.W.keepIn K (.ref f9) = true)
    (a10 : PySem.W.nsIn K mainGlobals "row_entries" = some (some (.ref f10)))
    (l10 : K.lookup f10 = some ⟨oc10, od10, .func (PySem.W.fnOf "row_entries" "row_entries" (defArgs vp) (defBody vp) (defScope vp) .none kV10 dc10 pm10 an10 cd10 ct10), sl10⟩)
    (c10 : PySem.W.codeIn K cd10 "row_entries" = true)
    (k10 : PySem.W.keepIn K (.ref f10) = true)
    (a11 : PySem.W.nsIn K mainGlobals "best_moves" = some (some (.ref f11)))
    (l11 : K.lookup f11 = some ⟨oc11, od11, .func (PySem.W.fnOf "best_moves" "best_moves" (defArgs ve) (defBody ve) (defScope ve) .none kV11 dc11 pm11 an11 cd11 ct11), sl11⟩)
    (c11 : PySem.W.codeIn K cd11 "best_moves" = true)
    (k11 : PySem.W.keepIn K (.ref f11) = true)
    (a12 : PySem.W.nsIn K mainGlobals "greatest_pairs" = some (some (.ref f12)))
    (l12 : K.lookup f12 = some ⟨oc12, od12, .func (PySem.W.fnOf "greatest_pairs" "greatest_pairs" (defArgs x9) (defBody x9) (defScope x9) .none kV12 dc12 pm12 an12 cd12 ct12), sl12⟩)
    (c12 : PySem.W.codeIn K cd12 "greatest_pairs" = true)
    (k12 : PySem.W.keepIn K (.ref f12) = true)
    (a13 : PySem.W.nsIn K mainGlobals "table_names" = some (some (.ref f13)))
    (l13 : K.lookup f13 = some ⟨oc13, od13, .func (PySem.W.fnOf "table_names" "table_names" (defArgs js) (defBody js) (defScope js) .none kV13 dc13 pm13 an13 cd13 ct13), sl13⟩)
    (c13 : PySem.W.codeIn K cd13 "table_names" = true)
    (k13 : PySem.W.keepIn K (.ref f13) = true)
    (a14 : PySem.W.nsIn K mainGlobals "table_places" = some (some (.ref f14)))
    (l14 : K.lookup f14 = some ⟨oc14, od14, .func (PySem.W.fnOf "table_places" "table_places" (defArgs jg) (defBody jg) (defScope jg) .none kV14 dc14 pm14 an14 cd14 ct14), sl14⟩)
    (c14 : PySem.W.codeIn K cd14 "table_places" = true)
    (k14 : PySem.W.keepIn K (.ref f14) = true)
    (a15 : PySem.W.nsIn K mainGlobals "exact_table" = some (some (.ref f15)))
    (l15 : K.lookup f15 = some ⟨oc15, od15, .func (PySem.W.fnOf "exact_table" "exact_table" (defArgs xq) (defBody xq) (defScope xq) .none (.ref dk15) dc15 pm15 an15 cd15 ct15), sl15⟩)
    (e15_homes : PySem.W.nsIn K dk15 "homes" = some (some .none))
    (c15 : PySem.W.codeIn K cd15 "exact_table" = true)
    (k15 : PySem.W.keepIn K (.ref f15) = true)
    (a16 : PySem.W.nsIn K mainGlobals "best_carrying" = some (some (.ref f16)))
    (l16 : K.lookup f16 = some ⟨oc16, od16, .func (PySem.W.fnOf "best_carrying" "best_carrying" (defArgs q7) (defBody q7) (defScope q7) .none (.ref dk16) dc16 pm16 an16 cd16 ct16), sl16⟩)
    (e16_homes : PySem.W.nsIn K dk16 "homes" = some (some .none))
    (c16 : PySem.W.codeIn K cd16 "best_carrying" = true)
    (k16 : PySem.W.keepIn K (.ref f16) = true)
    (a17 : PySem.W.nsIn K mainGlobals "name_worths" = some (some (.ref f17)))
    (l17 : K.lookup f17 = some ⟨oc17, od17, .func (PySem.W.fnOf "name_worths" "name_worths" (defArgs vq) (defBody vq) (defScope vq) .none kV17 dc17 pm17 an17 cd17 ct17), sl17⟩)
    (c17 : PySem.W.codeIn K cd17 "name_worths" = true)
    (k17 : PySem.W.keepIn K (.ref f17) = true)
    (a18 : PySem.W.nsIn K mainGlobals "carrying_value" = some (some (.ref f18)))
    (l18 : K.lookup f18 = some ⟨oc18, od18, .func (PySem.W.fnOf "carrying_value" "carrying_value" (defArgs xp) (defBody xp) (defScope xp) .none kV18 dc18 pm18 an18 cd18 ct18), sl18⟩)
    (c18 : PySem.W.codeIn K cd18 "carrying_value" = true)
    (k18 : PySem.W.keepIn K (.ref f18) = true)
    (a19 : PySem.W.nsIn K mainGlobals "greatest_value" = some (some (.ref f19)))
    (l19 : K.lookup f19 = some ⟨oc19, od19, .func (PySem.W.fnOf "greatest_value" "greatest_value" (defArgs ja) (defBody ja) (defScope ja) .none kV19 dc19 pm19 an19 cd19 ct19), sl19⟩)
    (c19 : PySem.W.codeIn K cd19 "greatest_value" = true)
    (k19 : PySem.W.keepIn K (.ref f19) = true)
    (a20 : PySem.W.nsIn K mainGlobals "_law_worths_right" = some (some (.ref f20)))
    (l20 : K.lookup f20 = some ⟨oc20, od20, .func (PySem.W.fnOf "_law_worths_right" "_law_worths_right" (defArgs qy) (defBody qy) (defScope qy) .none kV20 dc20 pm20 an20 cd20 ct20), sl20⟩)
    (c20 : PySem.W.codeIn K cd20 "_law_worths_right" = true)
    (k20 : PySem.W.keepIn K (.ref f20) = true)
    (a21 : PySem.W.nsIn K mainGlobals "places_of" = some (some (.ref f21)))
    (l21 : K.lookup f21 = some ⟨oc21, od21, .func (PySem.W.fnOf "places_of" "places_of" (defArgs v9) (defBody v9) (defScope v9) .none kV21 dc21 pm21 an21 cd21 ct21), sl21⟩)
    (c21 : PySem.W.codeIn K cd21 "places_of" = true)
    (k21 : PySem.W.keepIn K (.ref f21) = true)
    (a22 : PySem.W.nsIn K mainGlobals "counting_pins" = some (some (.ref f22)))
    (l22 : K.lookup f22 = some ⟨oc22, od22, .func (PySem.W.fnOf "counting_pins" "counting_pins" (defArgs jl) (defBody jl) (defScope jl) .none kV22 dc22 pm22 an22 cd22 ct22), sl22⟩)
    (c22 : PySem.W.codeIn K cd22 "counting_pins" = true)
    (k22 : PySem.W.keepIn K (.ref f22) = true)
    (a23 : PySem.W.nsIn K mainGlobals "without" = some (some (.ref f23)))
    (l23 : K.lookup f23 = some ⟨oc23, od23, .func (PySem.W.fnOf "without" "without" (defArgs vr) (defBody vr) (defScope vr) .none (.ref dk23) dc23 pm23 an23 cd23 ct23), sl23⟩)
    (e23_names : PySem.W.nsIn K dk23 "names" = some (some (.ref t23_names)))
    (u23_names : K.lookup t23_names = some ⟨.type "tuple", td23_names, .seq #[] tn23_names, ts23_names⟩)
    (e23_places : PySem.W.nsIn K dk23 "places" = some (some (.ref t23_places)))
    (u23_places : K.lookup t23_places = some ⟨.type "tuple", td23_places, .seq #[] tn23_places, ts23_places⟩)
    (c23 : PySem.W.codeIn K cd23 "without" = true)
    (k23 : PySem.W.keepIn K (.ref f23) = true)
    (a24 : PySem.W.nsIn K mainGlobals "open_table" = some (some (.ref f24)))
    (l24 : K.lookup f24 = some ⟨oc24, od24, .func (PySem.W.fnOf "open_table" "open_table" (defArgs vg) (defBody vg) (defScope vg) .none kV24 dc24 pm24 an24 cd24 ct24), sl24⟩)
    (c24 : PySem.W.codeIn K cd24 "open_table" = true)
    (k24 : PySem.W.keepIn K (.ref f24) = true)
    (a25 : PySem.W.nsIn K mainGlobals "carry_over" = some (some (.ref f25)))
    (l25 : K.lookup f25 = some ⟨oc25, od25, .func (PySem.W.fnOf "carry_over" "carry_over" (defArgs xr) (defBody xr) (defScope xr) .none (.ref dk25) dc25 pm25 an25 cd25 ct25), sl25⟩)
    (e25_pins : PySem.W.nsIn K dk25 "pins" = some (some .none))
    (e25_homes : PySem.W.nsIn K dk25 "homes" = some (some .none))
    (c25 : PySem.W.codeIn K cd25 "carry_over" = true)
    (k25 : PySem.W.keepIn K (.ref f25) = true)
    (a26 : PySem.W.nsIn K mainGlobals "law" = some (some (.ref f26)))
    (l26 : K.lookup f26 = some ⟨oc26, od26, .func (PySem.W.fnOf "law" "law" (defArgs y1) (defBody y1) (defScope y1) .none kV26 dc26 pm26 an26 cd26 ct26), sl26⟩)
    (c26 : PySem.W.codeIn K cd26 "law" = true)
    (k26 : PySem.W.keepIn K (.ref f26) = true)
    (z_len : PySem.W.nsIn K mainGlobals "len" = some none)
    (z_range : PySem.W.nsIn K mainGlobals "range" = some none)
    (z_tuple : PySem.W.nsIn K mainGlobals "tuple" = some none)
    (z_sorted : PySem.W.nsIn K mainGlobals "sorted" = some none)
    (z_int : PySem.W.nsIn K mainGlobals "int" = some none)
    (z_list : PySem.W.nsIn K mainGlobals "list" = some none)
    (z_set : PySem.W.nsIn K mainGlobals "set" = some none)
    (z_enumerate : PySem.W.nsIn K mainGlobals "enumerate" = some none)
    (z_sum : PySem.W.nsIn K mainGlobals "sum" = some none)
    (z_abs : PySem.W.nsIn K mainGlobals "abs" = some none)
    (z_dict : PySem.W.nsIn K mainGlobals "dict" = some none)
    (low : K.lookup sysModules = none)
    : K.lookup sysModules = none ∧ ∃ fd : FuncData, (∀ (s : Shared) (v : Value), BindsTo s fd ⟨[v], []⟩ [("_law_script", v)]) ∧ ∀ base : Heap, K.In base → base.Ns mainGlobals mg → FnAt l.prog w K mg base callerA fa fd ["_law_script"] (spD K 1 sp_law) := by
  have e := hfa.symm.trans (PySem.W.mg_of X G a26)
  cases e
  letI : CTb := ⟨fun n => match n with  | _ => mainGlobals⟩
  have T : Txt K := {  }
  have F0 := fun_mk (st := vm) l0 c0 k0
  have F1 := fun_mk (st := uo) l1 c1 k1
  have F2 := fun_mk (st := vn) l2 c2 k2
  have F3 := fun_mk (st := ub) l3 c3 k3
  have F4 := fun_mk (st := v8) l4 c4 k4
  have F5 := fun_mk (st := jp) l5 c5 k5
  have F6 := fun_mk (st := jr) l6 c6 k6
  have F7 := fun_mk (st := vo) l7 c7 k7
  have F8 := fun_mk (st := x8) l8 c8 k8
  have F9 := fun_mk (st := vd) l9 c9 k9
  have F10 := fun_mk (st := vp) l10 c10 k10
  have F11 := fun_mk (st := ve) l11 c11 k11
  have F12 := fun_mk (st := x9) l12 c12 k12
  have F13 := fun_mk (st := js) l13 c13 k13
  have F14 := fun_mk (st := jg) l14 c14 k14
  have F15 := zhd (st := xq) (kws := [("homes", .non)]) l15 c15 k15 (List.forall_mem_cons.2 ⟨⟨_, e15_homes, rfl⟩, fun _ h => nomatch h⟩)
  obtain ⟨mv15_0, kb15_0⟩ := F15.kbinds0 (ps := ["table", "homes"]) 1 ["homes"] [] (fun us mv ws => ord3 [(0, 0), (2, 0)] us mv ws) (List.cons_ne_nil _ _) (by simp) (fun a b c => zca a b c _) (fun D doc pm an cdv ct us mv ws h1 h2 h3 => match us, mv, ws, h1, h2, h3 with | [a0], [], [z0], _, _, _ => rfl)
  have hd15_0 : ∀ F, RepL K F _ _ := zit
  have F16 := zhd (st := q7) (kws := [("homes", .non)]) l16 c16 k16 (List.forall_mem_cons.2 ⟨⟨_, e16_homes, rfl⟩, fun _ h => nomatch h⟩)
  obtain ⟨mv16_0, kb16_0⟩ := F16.kbinds0 (ps := ["table", "homes"]) 1 [] [("homes", .non)] (fun us mv ws => ord3 [(0, 0), (1, 0)] us mv ws) (List.cons_ne_nil _ _) (by simp) (fun a b c => zca a b c _) (fun D doc pm an cdv ct us mv ws h1 h2 h3 => match us, mv, ws, h1, h2, h3 with | [a0], [m0], [], _, _, _ => ⟨_, _, _, _, _, _, rfl, rfl, rfl⟩)
  have hd16_0 : ∀ F, RepL K F _ _ := (zmt zit)
  obtain ⟨mv16_1, kb16_1⟩ := F16.kbinds0 (ps := ["table", "homes"]) 1 ["homes"] [] (fun us mv ws => ord3 [(0, 0), (2, 0)] us mv ws) (List.cons_ne_nil _ _) (by simp) (fun a b c => zca a b c _) (fun D doc pm an cdv ct us mv ws h1 h2 h3 => match us, mv, ws, h1, h2, h3 with | [a0], [], [z0], _, _, _ => rfl)
  have hd16_1 : ∀ F, RepL K F _ _ := zit
  have F17 := fun_mk (st := vq) l17 c17 k17
  have F18 := fun_mk (st := xp) l18 c18 k18
  have F19 := fun_mk (st := ja) l19 c19 k19
  have F20 := fun_mk (st := qy) l20 c20 k20
  have F21 := fun_mk (st := v9) l21 c21 k21
  have F22 := fun_mk (st := jl) l22 c22 k22
  have F23 := zhd (st := vr) (kws := [("names", .ref t23_names), ("places", .ref t23_places)]) l23 c23 k23 (List.forall_mem_cons.2 ⟨⟨_, e23_names, rfl⟩, List.forall_mem_cons.2 ⟨⟨_, e23_places, rfl⟩, fun _ h => nomatch h⟩⟩)
  obtain ⟨mv23_0, kb23_0⟩ := F23.kbinds0 (ps := ["table", "names", "places"]) 1 ["names", "places"] [] (fun us mv ws => ord3 [(0, 0), (2, 0), (2, 1)] us mv ws) (List.cons_ne_nil _ _) (by simp) (fun a b c => zca a b c _) (fun D doc pm an cdv ct us mv ws h1 h2 h3 => match us, mv, ws, h1, h2, h3 with | [a0], [], [z0, z1], _, _, _ => rfl)
  have hd23_0 : ∀ F, RepL K F _ _ := zit
  have F24 := fun_mk (st := vg) l24 c24 k24
  have F25 := zhd (st := xr) (kws := [("pins", .non), ("homes", .non)]) l25 c25 k25 (List.forall_mem_cons.2 ⟨⟨_, e25_pins, rfl⟩, List.forall_mem_cons.2 ⟨⟨_, e25_homes, rfl⟩, fun _ h => nomatch h⟩⟩)
  obtain ⟨mv25_0, kb25_0⟩ := F25.kbinds0 (ps := ["labels", "groups", "weights", "pins", "homes"]) 3 [] [("pins", .non), ("homes", .non)] (fun us mv ws => ord3 [(0, 0), (0, 1), (0, 2), (1, 0), (1, 1)] us mv ws) (List.cons_ne_nil _ _) (by simp) (fun a b c => zca a b c _) (fun D doc pm an cdv ct us mv ws h1 h2 h3 => match us, mv, ws, h1, h2, h3 with | [a0, a1, a2], [m0, m1], [], _, _, _ => ⟨_, _, _, _, _, _, rfl, rfl, ⟨_, _, _, _, _, _, rfl, rfl, rfl⟩⟩)
  have hd25_0 : ∀ F, RepL K F _ _ := (zmt (zmt zit))
  have F26 := fun_mk (st := y1) l26 c26 k26
  have b0 := F0.binds (ps := ["_law_script", "_law_start"]) fun _ _ _ _ _ _ us hl => match us, hl with | [_, _], _ => rfl
  have b1 := F1.binds (ps := ["_law_stream_here", "_law_size"]) fun _ _ _ _ _ _ us hl => match us, hl with | [_, _], _ => rfl
  have b2 := F2.binds (ps := ["_law_stream_here", "_law_items"]) fun _ _ _ _ _ _ us hl => match us, hl with | [_, _], _ => rfl
  have b3 := F3.binds (ps := ["_law_stream_here"]) fun _ _ _ _ _ _ us hl => match us, hl with | [_], _ => rfl
  have b4 := F4.binds (ps := ["groups", "names"]) fun _ _ _ _ _ _ us hl => match us, hl with | [_, _], _ => rfl
  have b5 := F5.binds (ps := ["_law_stream_here", "_law_groups"]) fun _ _ _ _ _ _ us hl => match us, hl with | [_, _], _ => rfl
  have b6 := F6.binds (ps := ["labels", "groups", "names"]) fun _ _ _ _ _ _ us hl => match us, hl with | [_, _, _], _ => rfl
  have b7 := F7.binds (ps := ["labels", "groups", "weights"]) fun _ _ _ _ _ _ us hl => match us, hl with | [_, _, _], _ => rfl
  have b8 := F8.binds (ps := ["entries", "pairs"]) fun _ _ _ _ _ _ us hl => match us, hl with | [_, _], _ => rfl
  have b9 := F9.binds (ps := ["entries", "pairs"]) fun _ _ _ _ _ _ us hl => match us, hl with | [_, _], _ => rfl
  have b10 := F10.binds (ps := ["entries"]) fun _ _ _ _ _ _ us hl => match us, hl with | [_], _ => rfl
  have b11 := F11.binds (ps := ["rows", "pairs", "owners"]) fun _ _ _ _ _ _ us hl => match us, hl with | [_, _, _], _ => rfl
  have b12 := F12.binds (ps := ["entries"]) fun _ _ _ _ _ _ us hl => match us, hl with | [_], _ => rfl
  have b13 := F13.binds (ps := ["table"]) fun _ _ _ _ _ _ us hl => match us, hl with | [_], _ => rfl
  have b14 := F14.binds (ps := ["table"]) fun _ _ _ _ _ _ us hl => match us, hl with | [_], _ => rfl
  have b17 := F17.binds (ps := ["table"]) fun _ _ _ _ _ _ us hl => match us, hl with | [_], _ => rfl
  have b18 := F18.binds (ps := ["table", "carrying"]) fun _ _ _ _ _ _ us hl => match us, hl with | [_, _], _ => rfl
  have b19 := F19.binds (ps := ["table"]) fun _ _ _ _ _ _ us hl => match us, hl with | [_], _ => rfl
  have b20 := F20.binds (ps := ["_law_stream_here", "_law_labels", "_law_groups", "_law_weights"]) fun _ _ _ _ _ _ us hl => match us, hl with | [_, _, _, _], _ => rfl
  have b21 := F21.binds (ps := ["groups"]) fun _ _ _ _ _ _ us hl => match us, hl with | [_], _ => rfl
  have b22 := F22.binds (ps := ["groups", "pins"]) fun _ _ _ _ _ _ us hl => match us, hl with | [_, _], _ => rfl
  have b24 := F24.binds (ps := ["labels", "groups", "weights", "pins"]) fun _ _ _ _ _ _ us hl => match us, hl with | [_, _, _, _], _ => rfl
  refine ⟨low, PySem.W.fnOf "law" "law" (defArgs y1) (defBody y1) (defScope y1) .none kV26 dc26 pm26 an26 cd26 ct26, fun s v => .of_eq rfl, fun base _ _ => ?_⟩
  have G0 := zm3 (P := l.prog) (w := w) (mg := mg) (base := base) (sp := zda) T F0 (PySem.W.mg_none_of X G z_len) (fun ds Q' _ h => zxy 19 (by decide) (by decide) ds Q' h)
  have G1 := zrq (P := l.prog) (w := w) (mg := mg) (base := base) (sp := zah) T F1 (fun ds Q' _ h => z1p ds Q' h)
  have G2 := zm4 (P := l.prog) (w := w) (mg := mg) (base := base) (sp := zdb) T F2 G1 (PySem.W.mg_of X G a1) F1.kp b1 (PySem.W.mg_none_of X G z_len) (fun ds Q' _ h => zxz ds Q' h)
  have G3 := zoi (P := l.prog) (w := w) (mg := mg) (base := base) (sp := x0) T F3 G1 (PySem.W.mg_of X G a1) F1.kp b1 G2 (PySem.W.mg_of X G a2) F2.kp b2 (PySem.W.mg_none_of X G z_range) (PySem.W.mg_none_of X G z_tuple) (PySem.W.mg_none_of X G z_sorted) (PySem.W.mg_none_of X G z_int) (PySem.W.mg_none_of X G z_len) (PySem.W.mg_none_of X G z_list) (fun ds Q' _ h => zrl ds Q' h)
  have G4 := zrr (P := l.prog) (w := w) (mg := mg) (base := base) (sp := jb) T F4 (fun ds Q' _ h => zst ds Q' h)
  have G5 := zoj (P := l.prog) (w := w) (mg := mg) (base := base) (sp := zhh) T F5 G1 (PySem.W.mg_of X G a1) F1.kp b1 (PySem.W.mg_none_of X G z_sorted) (PySem.W.mg_none_of X G z_set) (PySem.W.mg_none_of X G z_tuple) (PySem.W.mg_none_of X G z_range) (PySem.W.mg_none_of X G z_len) (PySem.W.mg_none_of X G z_list) (fun ds Q' _ h => z0r ds Q' h)
  have G6 := zm6 (P := l.prog) (w := w) (mg := mg) (base := base) (sp := xn) T F6 (PySem.W.mg_none_of X G z_sorted) (PySem.W.mg_none_of X G z_enumerate) (fun ds Q' _ h => zoc ds Q' h)
  have G7 := zm7 (P := l.prog) (w := w) (mg := mg) (base := base) (sp := zv) T F7 (PySem.W.mg_none_of X G z_enumerate) (fun ds Q' _ h => zod ds Q' h)
  have G8 := zk0 (P := l.prog) (w := w) (mg := mg) (base := base) (sp := qw) T F8 (fun ds Q' _ h => zl9 ds Q' h)
  have G9 := zok (P := l.prog) (w := w) (mg := mg) (base := base) (sp := xx) T F9 G8 (PySem.W.mg_of X G a8) F8.kp b8 (fun ds Q' _ h => zrm ds Q' h)
  have G10 := zm8 (P := l.prog) (w := w) (mg := mg) (base := base) (sp := xk) T F10 (PySem.W.mg_none_of X G z_sorted) (fun ds Q' _ h => zoe ds Q' h)
  have G11 := zol (P := l.prog) (w := w) (mg := mg) (base := base) (sp := xw) T F11 (fun ds Q' _ h => zrn ds Q' h)
  have G12 := zj5 (P := l.prog) (w := w) (mg := mg) (base := base) (sp := zr) T F12 G10 (PySem.W.mg_of X G a10) F10.kp b10 G11 (PySem.W.mg_of X G a11) F11.kp b11 (fun ds Q' _ h => zkw ds Q' h)
  have G13 := zm9 (P := l.prog) (w := w) (mg := mg) (base := base) (sp := xl) T F13 (PySem.W.mg_none_of X G z_sorted) (fun ds Q' _ h => zof ds Q' h)
  have G14 := zmh (P := l.prog) (w := w) (mg := mg) (base := base) (sp := q9) T F14 (PySem.W.mg_none_of X G z_sorted) (fun ds Q' _ h => zm2 ds Q' h)
  have G15 := zna (P := l.prog) (w := w) (mg := mg) (base := base) (sp := xm) T F15 G13 (PySem.W.mg_of X G a13) F13.kp b13 G14 (PySem.W.mg_of X G a14) F14.kp b14 (PySem.W.mg_none_of X G z_len) (PySem.W.mg_none_of X G z_int) (fun ds Q' _ h => zog ds Q' h)
  have G16 := zk1 (P := l.prog) (w := w) (mg := mg) (base := base) (sp := zt) T F16 G12 (PySem.W.mg_of X G a12) F12.kp b12 G15 (PySem.W.mg_of X G a15) F15.kp kb15_0 hd15_0 (fun ds Q' _ h => zma ds Q' h)
  have G17 := znf (P := l.prog) (w := w) (mg := mg) (base := base) (sp := qu) T F17 G9 (PySem.W.mg_of X G a9) F9.kp b9 G16 (PySem.W.mg_of X G a16) F16.kp kb16_0 hd16_0 (fun ds Q' _ h => zoh ds Q' h)
  have G18 := zj6 (P := l.prog) (w := w) (mg := mg) (base := base) (sp := qi) T F18 (PySem.W.mg_none_of X G z_sum) (fun ds Q' _ h => zkx ds Q' h)
  have G19 := zj7 (P := l.prog) (w := w) (mg := mg) (base := base) (sp := qc) T F19 G12 (PySem.W.mg_of X G a12) F12.kp b12 G18 (PySem.W.mg_of X G a18) F18.kp b18 (fun ds Q' _ h => zky ds Q' h)
  have G20 := zhi (P := l.prog) (w := w) (mg := mg) (base := base) (sp := z9) T F20 G1 (PySem.W.mg_of X G a1) F1.kp b1 G7 (PySem.W.mg_of X G a7) F7.kp b7 G17 (PySem.W.mg_of X G a17) F17.kp b17 G19 (PySem.W.mg_of X G a19) F19.kp b19 (PySem.W.mg_none_of X G z_abs) (PySem.W.mg_none_of X G z_sorted) (PySem.W.mg_none_of X G z_dict) (fun ds Q' _ h => zh6 ds Q' h)
  have G21 := zr1 (P := l.prog) (w := w) (mg := mg) (base := base) (sp := zq) T F21 (PySem.W.mg_none_of X G z_enumerate) (fun ds Q' _ h => zsu ds Q' h)
  have G22 := zk9 (P := l.prog) (w := w) (mg := mg) (base := base) (sp := qx) T F22 G21 (PySem.W.mg_of X G a21) F21.kp b21 (PySem.W.mg_none_of X G z_sorted) (fun ds Q' _ h => zmb ds Q' h)
  have G23 := zu9 (P := l.prog) (w := w) (mg := mg) (base := base) (sp := vi) T F23 (fun ds Q' _ h => zw1 ds Q' h)
  have G24 := zox (P := l.prog) (w := w) (mg := mg) (base := base) (sp := xy) T F24 G7 (PySem.W.mg_of X G a7) F7.kp b7 G21 (PySem.W.mg_of X G a21) F21.kp b21 G23 (PySem.W.mg_of X G a23) F23.kp kb23_0 hd23_0 (PySem.W.mg_none_of X G z_list) (fun ds Q' _ h => zro ds Q' h)
  have G25 := zoy (P := l.prog) (w := w) (mg := mg) (base := base) (sp := x3) T F25 G16 (PySem.W.mg_of X G a16) F16.kp kb16_1 hd16_1 G21 (PySem.W.mg_of X G a21) F21.kp b21 G22 (PySem.W.mg_of X G a22) F22.kp b22 G24 (PySem.W.mg_of X G a24) F24.kp b24 (fun ds Q' _ h => zrp ds Q' h)
  exact z2c (sp := sp_law) T F26 G0 (PySem.W.mg_of X G a0) F0.kp b0 G3 (PySem.W.mg_of X G a3) F3.kp b3 G4 (PySem.W.mg_of X G a4) F4.kp b4 G5 (PySem.W.mg_of X G a5) F5.kp b5 G6 (PySem.W.mg_of X G a6) F6.kp b6 G20 (PySem.W.mg_of X G a20) F20.kp b20 G25 (PySem.W.mg_of X G a25) F25.kp kb25_0 hd25_0 (PySem.W.mg_none_of X G z_range) (PySem.W.mg_none_of X G z_sum) (PySem.W.mg_none_of X G z_len) (PySem.W.mg_none_of X G z_dict) (fun ds Q' _ h => z3i ds Q' h)
theorem rowFacts {l : PySem.W.OpenLaw} {w : World} {K : PySem.W.Frag} {h : Heap} {mg : Str → Option Value} {fa : Addr} (X : K.In h) (G : h.Ns mainGlobals mg) (hfa : mg "law" = some (.ref fa)) (c : SaysA chk fnl K) :
    K.lookup sysModules = none ∧ ∃ fd : FuncData, (∀ (s : Shared) (v : Value), BindsTo s fd ⟨[v], []⟩ [("_law_script", v)]) ∧ ∀ base : Heap, K.In base → base.Ns mainGlobals mg → FnAt l.prog w K mg base callerA fa fd ["_law_script"] (spD K 1 sp_law) := by
  obtain ⟨oc0, od0, sl0, kV0, dc0, pm0, an0, cd0, ct0, l0, c0⟩ := c.def_ 0 rfl
  obtain ⟨oc1, od1, sl1, kV1, dc1, pm1, an1, cd1, ct1, l1, c1⟩ := c.def_ 1 rfl
  obtain ⟨oc2, od2, sl2, kV2, dc2, pm2, an2, cd2, ct2, l2, c2⟩ := c.def_ 2 rfl
  obtain ⟨oc3, od3, sl3, kV3, dc3, pm3, an3, cd3, ct3, l3, c3⟩ := c.def_ 3 rfl
  obtain ⟨oc4, od4, sl4, kV4, dc4, pm4, an4, cd4, ct4, l4, c4⟩ := c.def_ 4 rfl
  obtain ⟨oc5, od5, sl5, kV5, dc5, pm5, an5, cd5, ct5, l5, c5⟩ := c.def_ 5 rfl
  obtain ⟨oc6, od6, sl6, kV6, dc6, pm6, an6, cd6, ct6, l6, c6⟩ := c.def_ 6 rfl
  obtain ⟨oc7, od7, sl7, kV7, dc7, pm7, an7, cd7, ct7, l7, c7⟩ := c.def_ 7 rfl
  obtain ⟨oc8, od8, sl8, kV8, dc8, pm8, an8, cd8, ct8, l8, c8⟩ := c.def_ 8 rfl
  obtain ⟨oc9, od9, sl9, kV9, dc9, pm9, an9, cd9, ct9, l9, c9⟩ := c.def_ 9 rfl
  obtain ⟨oc10, od10, sl10, kV10, dc10, pm10, an10, cd10, ct10, l10, c10⟩ := c.def_ 10 rfl
  obtain ⟨oc11, od11, sl11, kV11, dc11, pm11, an11, cd11, ct11, l11, c11⟩ := c.def_ 11 rfl
  obtain ⟨oc12, od12, sl12, kV12, dc12, pm12, an12, cd12, ct12, l12, c12⟩ := c.def_ 12 rfl
  obtain ⟨oc13, od13, sl13, kV13, dc13, pm13, an13, cd13, ct13, l13, c13⟩ := c.def_ 13 rfl
  obtain ⟨oc14, od14, sl14, kV14, dc14, pm14, an14, cd14, ct14, l14, c14⟩ := c.def_ 14 rfl
  obtain ⟨oc15, od15, sl15, kV15, dc15, pm15, an15, cd15, ct15, l15, c15⟩ := c.def_ 15 rfl
  obtain rfl := zlb (c.is 74 rfl) l15
  obtain ⟨oc16, od16, sl16, kV16, dc16, pm16, an16, cd16, ct16, l16, c16⟩ := c.def_ 16 rfl
  obtain rfl := zlb (c.is 75 rfl) l16
  obtain ⟨oc17, od17, sl17, kV17, dc17, pm17, an17, cd17, ct17, l17, c17⟩ := c.def_ 17 rfl
  obtain ⟨oc18, od18, sl18, kV18, dc18, pm18, an18, cd18, ct18, l18, c18⟩ := c.def_ 18 rfl
  obtain ⟨oc19, od19, sl19, kV19, dc19, pm19, an19, cd19, ct19, l19, c19⟩ := c.def_ 19 rfl
  obtain ⟨oc20, od20, sl20, kV20, dc20, pm20, an20, cd20, ct20, l20, c20⟩ := c.def_ 20 rfl
  obtain ⟨oc21, od21, sl21, kV21, dc21, pm21, an21, cd21, ct21, l21, c21⟩ := c.def_ 21 rfl
  obtain ⟨oc22, od22, sl22, kV22, dc22, pm22, an22, cd22, ct22, l22, c22⟩ := c.def_ 22 rfl
  obtain ⟨oc23, od23, sl23, kV23, dc23, pm23, an23, cd23, ct23, l23, c23⟩ := c.def_ 23 rfl
  obtain rfl := zlb (c.is 76 rfl) l23
  obtain ⟨oc24, od24, sl24, kV24, dc24, pm24, an24, cd24, ct24, l24, c24⟩ := c.def_ 24 rfl
  obtain ⟨oc25, od25, sl25, kV25, dc25, pm25, an25, cd25, ct25, l25, c25⟩ := c.def_ 25 rfl
  obtain rfl := zlb (c.is 77 rfl) l25
  obtain ⟨oc26, od26, sl26, kV26, dc26, pm26, an26, cd26, ct26, l26, c26⟩ := c.def_ 26 rfl
  obtain ⟨_, _, _, u23_names⟩ := zsz (c.is 50 rfl)
  obtain ⟨_, _, _, u23_places⟩ := zsz (c.is 52 rfl)
  exact z2d (l := l) (w := w) (f0 := A_f0 K) (f1 := A_f1 K) (f2 := A_f2 K) (f3 := A_f3 K) (f4 := A_f4 K) (f5 := A_f5 K) (f6 := A_f6 K) (f7 := A_f7 K) (f8 := A_f8 K) (f9 := A_f9 K) (f10 := zo8 K) (f11 := zo9 K) (f12 := zpa K) (f13 := zpb K) (f14 := zpc K) (f15 := zjm K) (dk15 := zvb K) (f16 := zjn K) (dk16 := zvc K) (f17 := zpd K) (f18 := zpe K) (f19 := zpf K) (f20 := zpg K) (f21 := zph K) (f22 := zpi K) (f23 := zjo K) (dk23 := zii K) (t23_names := zfl K) (t23_places := zeh K) (f24 := zpj K) (f25 := zjp K) (dk25 := zp3 K) (f26 := zpk K) X G hfa (c.is 0 rfl) l0 c0 (c.is 1 rfl) (c.is 2 rfl) l1 c1 (c.is 3 rfl) (c.is 4 rfl) l2 c2 (c.is 5 rfl) (c.is 6 rfl) l3 c3 (c.is 7 rfl) (c.is 8 rfl) l4 c4 (c.is 9 rfl) (c.is 10 rfl) l5 c5 (c.is 11 rfl) (c.is 12 rfl) l6 c6 (c.is 13 rfl) (c.is 14 rfl) l7 c7 (c.is 15 rfl) (c.is 16 rfl) l8 c8 (c.is 17 rfl) (c.is 18 rfl) l9 c9 (c.is 19 rfl) (c.is 20 rfl) l10 c10 (c.is 21 rfl) (c.is 22 rfl) l11 c11 (c.is 23 rfl) (c.is 24 rfl) l12 c12 (c.is 25 rfl) (c.is 26 rfl) l13 c13 (c.is 27 rfl) (c.is 28 rfl) l14 c14 (c.is 29 rfl) (c.is 30 rfl) l15 (c.is 31 rfl) c15 (c.is 32 rfl) (c.is 33 rfl) l16 (c.is 34 rfl) c16 (c.is 35 rfl) (c.is 36 rfl) l17 c17 (c.is 37 rfl) (c.is 38 rfl) l18 c18 (c.is 39 rfl) (c.is 40 rfl) l19 c19 (c.is 41 rfl) (c.is 42 rfl) l20 c20 (c.is 43 rfl) (c.is 44 rfl) l21 c21 (c.is 45 rfl) (c.is 46 rfl) l22 c22 (c.is 47 rfl) (c.is 48 rfl) l23 (c.is 49 rfl) u23_names (c.is 51 rfl) u23_places c23 (c.is 53 rfl) (c.is 54 rfl) l24 c24 (c.is 55 rfl) (c.is 56 rfl) l25 (c.is 57 rfl) (c.is 58 rfl) c25 (c.is 59 rfl) (c.is 60 rfl) l26 c26 (c.is 61 rfl) (c.is 62 rfl) (c.is 63 rfl) (c.is 64 rfl) (c.is 65 rfl) (c.is 66 rfl) (c.is 67 rfl) (c.is 68 rfl) (c.is 69 rfl) (c.is 70 rfl) (c.is 71 rfl) (c.is 72 rfl) (c.is 73 rfl)
end K31
end Mv
open PySem PySem.W PySem.Calls PyProof.Rows
set_option maxHeartbeats 0 in
theorem PySem.Challenge.cw_keptnames_k31_whole_few_items_move_holds : PySem.Challenge.rw_keptnames_k31_whole_few_items_move.Holds := by
  w_on; o_law
  refine HandSHeadRun.head_any (r := OpenLaw.row PySem.Challenge.rw_keptnames_k31_whole_few_items_move) (q := view (OpenLaw.row PySem.Challenge.rw_keptnames_k31_whole_few_items_move).prog [32]) (H := Mv.hookA Mv.K31.tops Mv.K31.chk Mv.K31.fnl) (ob := fun s => Mv.obGA Mv.K31.tops Mv.K31.chk Mv.K31.fnl (HandSHeadRun.getT s)) (M := 40000) (loose := Mv.K31.loose) (d := HandSHeadRun.topDef (OpenLaw.row PySem.Challenge.rw_keptnames_k31_whole_few_items_move).prog 32) (kwd := []) (fun s => Mv.obGA_eq (HandSHeadRun.getT_eq s))
    (by kernel_rfl) (fun s => by kernel_rfl) Mv.K31.rowRun (by kernel_rfl) (by kernel_rfl) (by kernel_rfl) (by rfl) (by first | assumption | decide +kernel) (by decide +kernel) ⟨rfl, rfl, rfl, rfl, rfl, by decide +kernel⟩ ?hw ?hc
  case hw => w_witness2
  case hc =>
    refine Mv.walk_mvE (l := PySem.Challenge.rw_keptnames_k31_whole_few_items_move) (n := 63) (x := "_law_script") (sp := Mv.K31.sp_law) rfl (by decide) (by kernel_rfl) (by kernel_rfl) ?F (fun ns hl hb => ⟨ns, fun b => b = true, rfl, Mv.K31.law_ok ns hl hb, fun r hr => by subst hr; rfl⟩)
    intro w mg fa h Y G hmg0
    obtain ⟨K, KX, c⟩ := Y
    have hmg : mg ("law" : PySem.Str) = some (.ref fa) := by
      have e : (HandSHeadRun.topDef (OpenLaw.row PySem.Challenge.rw_keptnames_k31_whole_few_items_move).prog 32).name = ("law" : PySem.Str) := by kernel_rfl
      rw [← e]
      exact hmg0
    exact ⟨K, KX, Mv.K31.rowFacts KX G hmg c⟩
