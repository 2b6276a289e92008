import PyProof.Rows.All
import Wide.All
import OpenK.AllK
import Wide.FinOn
import HandS.ForMost
import HandS.Wide
import HandS.Flow
import HandS.Defaults
import HandS.Style
import HandS.DictTup
import HandS.TupAny
import HandS.More
import HandS.Conv
import PyProof.TupleOfSeq
import KE.SortData
import HandS.Finally
import HandS.Ends
import HandS.EndBits
import PyProof.ReprReads
import PyProof.ReprRoads
import PyProof.CallFns
import KE.KDictCopyH
import HandS.DictComp
import HandS.IsInst
import PyProof.FitsInt
import PyProof.StrLawsRepr
import PySem.Challenge.RW_keptnames_k27_labels_and_counting_pins
set_option Elab.async false
set_option linter.all false
set_option maxRecDepth 100000
set_option maxHeartbeats 4000000
namespace Mv
open PySem PySem.Spec PyProof.Rows L2

/-! data -/
inductive D where
  | non | bl (b : Bool) | int (i : Int) | str (s : Str)
  | tup (xs : List D) | lst (xs : List D)
  | dk (kvs : List (Key × D)) | dt (kvs : List (List Key × D))
  | obj (n : Nat)
  | scr (ns : List Int)

def strmO (a : Addr) : HO := .ext fun h => ∃ (x y : Int) (t u : Tok) (n : Nat), 0 ≤ y ∧ y < 2 ^ 32 ∧ h.get? a = some { cls := .type "list", data := .seq [Value.int x t, Value.int y u].toArray n }
def kindO : Nat → Addr → HO
  | 0, a => strmO a
  | n + 1, _ => .ext fun _ => n = n + 1

def Ex (H H' : Hp) : Prop := ∀ a o, H a = some o → H' a = some o
theorem Ex.refl (H : Hp) : Ex H H := fun _ _ h => h
theorem Ex.trans {H H1 H2 : Hp} (a : Ex H H1) (b : Ex H1 H2) : Ex H H2 := fun x o h => b x o (a x o h)
theorem Ex.new {H : Hp} {p : Addr} {o : HO} (h : H p = none) : Ex H (upd H p o) := fun a u e => by
  rw [upd_ne (ne_of_none e h)]; exact e
theorem Ex.mut {H H' : Hp} {p : Addr} {o : HO} (e : Ex H H') (h : H p = none) : Ex H (upd H' p o) := fun a u ha => by
  rw [upd_ne (ne_of_none ha h)]; exact e a u ha
theorem Ex.both {H H' : Hp} {p : Addr} {o : HO} (e : Ex H H') : Ex (upd H p o) (upd H' p o) := fun a u ha => by
  by_cases q : a = p
  · subst q; rw [upd_same] at ha ⊢; exact ha
  · rw [upd_ne q] at ha ⊢; exact e a u ha
theorem Ex.nn {H H' : Hp} {p : Addr} (e : Ex H H') (h : H' p = none) : H p = none := by
  cases q : H p with
  | none => rfl
  | some o => rw [e p o q] at h; cases h
theorem Ex.sm {H H' : Hp} {p : Addr} (e : Ex H H') (h : H p ≠ none) : H' p ≠ none := fun q => h (e.nn q)
theorem Ex.rd {H H' : Hp} {a : Addr} {u : HO} (e : Ex H H') (h : Rd H a u) : Rd H' a u := by
  rcases h with h | ⟨o, h⟩
  · exact .inl (e _ _ h)
  · exact .inr ⟨o, e _ _ h⟩
theorem Ex.sql {K : PySem.W.Frag} {H H' : Hp} {a : Addr} {xs : List V} (e : Ex H H') (h : SqL K H a xs) : SqL K H' a xs := by
  rcases h with h | h
  · exact .inl (e.rd h)
  · exact .inr h

mutual
inductive Rep (K : PySem.W.Frag) (F : Hp) : V → D → Prop
  | non : Rep K F .non .non
  | bl (b : Bool) : Rep K F (.bl b) (.bl b)
  | int (i : Int) : Rep K F (.int i) (.int i)
  | str (x : Str) : Rep K F (.str x) (.str x)
  | tup {a : Addr} {vs : List V} {ds : List D} : F a = some (.tup vs) → RepL K F vs ds → Rep K F (.ref a) (.tup ds)
  | lst {a : Addr} {od : Obj} {vs : List V} {ds : List D} : F a = some (.frz od (.lst vs)) → RepL K F vs ds → Rep K F (.ref a) (.lst ds)
  | scr {a : Addr} {ns : List Int} : SqL K F a (ns.map V.int) → Rep K F (.ref a) (.scr ns)
  | dk {a : Addr} {od : Obj} {ws : List (Key × V)} {kvs : List (Key × D)} : F a = some (.frz od (.dK ws)) → RepK K F ws kvs → Rep K F (.ref a) (.dk kvs)
  | dt {a : Addr} {od : Obj} {ws : List (List Key × V)} {kvs : List (List Key × D)} : F a = some (.frz od (.dT ws)) → RepT K F ws kvs → Rep K F (.ref a) (.dt kvs)
  | obj {a : Addr} (n : Nat) : F a = some (kindO n a) → Rep K F (.ref a) (.obj n)
inductive RepL (K : PySem.W.Frag) (F : Hp) : List V → List D → Prop
  | nil : RepL K F [] []
  | cons {v : V} {vs : List V} {d : D} {ds : List D} : Rep K F v d → RepL K F vs ds → RepL K F (v :: vs) (d :: ds)
inductive RepK (K : PySem.W.Frag) (F : Hp) : List (Key × V) → List (Key × D) → Prop
  | nil : RepK K F [] []
  | cons {k : Key} {v : V} {vs : List (Key × V)} {d : D} {ds : List (Key × D)} : Rep K F v d → RepK K F vs ds → RepK K F ((k, v) :: vs) ((k, d) :: ds)
inductive RepT (K : PySem.W.Frag) (F : Hp) : List (List Key × V) → List (List Key × D) → Prop
  | nil : RepT K F [] []
  | cons {k : List Key} {v : V} {vs : List (List Key × V)} {d : D} {ds : List (List Key × D)} : Rep K F v d → RepT K F vs ds → RepT K F ((k, v) :: vs) ((k, d) :: ds)
end

section
variable {K : PySem.W.Frag} {F F' H H' : Hp}
mutual
theorem Rep.mono (e : Ex F F') : ∀ {v : V} {d : D}, Rep K F v d → Rep K F' v d
  | _, _, .non => .non
  | _, _, .bl b => .bl b
  | _, _, .int i => .int i
  | _, _, .str x => .str x
  | _, _, .tup h r => .tup (e _ _ h) (RepL.mono e r)
  | _, _, .lst h r => .lst (e _ _ h) (RepL.mono e r)
  | _, _, .scr h => .scr (e.sql h)
  | _, _, .dk h r => .dk (e _ _ h) (RepK.mono e r)
  | _, _, .dt h r => .dt (e _ _ h) (RepT.mono e r)
  | _, _, .obj n h => .obj n (e _ _ h)
theorem RepL.mono (e : Ex F F') : ∀ {v : List V} {d : List D}, RepL K F v d → RepL K F' v d
  | _, _, .nil => .nil
  | _, _, .cons h r => .cons (Rep.mono e h) (RepL.mono e r)
theorem RepK.mono (e : Ex F F') : ∀ {v : List (Key × V)} {d : List (Key × D)}, RepK K F v d → RepK K F' v d
  | _, _, .nil => .nil
  | _, _, .cons h r => .cons (Rep.mono e h) (RepK.mono e r)
theorem RepT.mono (e : Ex F F') : ∀ {v : List (List Key × V)} {d : List (List Key × D)}, RepT K F v d → RepT K F' v d
  | _, _, .nil => .nil
  | _, _, .cons h r => .cons (Rep.mono e h) (RepT.mono e r)
end
theorem RepL.length : ∀ {vs : List V} {ds : List D}, RepL K F vs ds → vs.length = ds.length
  | _, _, .nil => rfl
  | _, _, .cons _ r => by simp [RepL.length r]
theorem RepL.app : ∀ {vs ws : List V} {ds es : List D}, RepL K F vs ds → RepL K F ws es → RepL K F (vs ++ ws) (ds ++ es)
  | _, _, _, _, .nil, r => r
  | _, _, _, _, .cons h t, r => .cons h (RepL.app t r)
theorem RepL.get : ∀ {vs : List V} {ds : List D} {i : Nat} {d : D}, RepL K F vs ds → ds[i]? = some d → ∃ v, vs[i]? = some v ∧ Rep K F v d
  | _, _, _, _, .nil, h => by simp at h
  | _, _, 0, _, .cons h t, e => by simp at e; subst e; exact ⟨_, rfl, h⟩
  | _, _, i + 1, _, .cons h t, e => by
    obtain ⟨v, q, r⟩ := RepL.get t (i := i) (by simpa using e)
    exact ⟨v, by simpa using q, r⟩
theorem RepL.getV : ∀ {vs : List V} {ds : List D} {i : Nat} {v : V}, RepL K F vs ds → vs[i]? = some v → ∃ d, ds[i]? = some d ∧ Rep K F v d
  | _, _, _, _, .nil, h => by simp at h
  | _, _, 0, _, .cons h t, e => by simp at e; subst e; exact ⟨_, rfl, h⟩
  | _, _, i + 1, _, .cons h t, e => by
    obtain ⟨v, q, r⟩ := RepL.getV t (i := i) (by simpa using e)
    exact ⟨v, by simpa using q, r⟩
theorem RepL.set {v : V} {d : D} (r : Rep K F v d) : ∀ {vs : List V} {ds : List D} (i : Nat), RepL K F vs ds → RepL K F (vs.set i v) (ds.set i d)
  | _, _, _, .nil => .nil
  | _, _, 0, .cons h t => .cons r t
  | _, _, i + 1, .cons h t => .cons h (RepL.set r i t)
theorem RepL.eraseIdx : ∀ {vs : List V} {ds : List D} (i : Nat), RepL K F vs ds → RepL K F (vs.eraseIdx i) (ds.eraseIdx i)
  | _, _, _, .nil => .nil
  | _, _, 0, .cons h t => t
  | _, _, i + 1, .cons h t => .cons h (RepL.eraseIdx i t)
theorem RepL.take : ∀ {vs : List V} {ds : List D} (i : Nat), RepL K F vs ds → RepL K F (vs.take i) (ds.take i)
  | _, _, 0, _ => .nil
  | _, _, i + 1, .nil => .nil
  | _, _, i + 1, .cons h t => .cons h (RepL.take i t)
theorem RepL.drop : ∀ {vs : List V} {ds : List D} (i : Nat), RepL K F vs ds → RepL K F (vs.drop i) (ds.drop i)
  | _, _, 0, h => h
  | _, _, i + 1, .nil => .nil
  | _, _, i + 1, .cons h t => RepL.drop i t
theorem RepL.ints : ∀ (ns : List Int), RepL K F (ns.map V.int) (ns.map D.int)
  | [] => .nil
  | n :: ns => .cons (.int n) (RepL.ints ns)
end

/-! slots -/
inductive O where
  | lst (xs : List D) | dk (kvs : List (Key × D)) | dt (kvs : List (List Key × D))
def O.d : O → D
  | .lst xs => .lst xs
  | .dk kvs => .dk kvs
  | .dt kvs => .dt kvs
inductive S where
  | fz (d : D) | own (o : O)
def S.d : S → D
  | .fz d => d
  | .own o => o.d
abbrev Dl := List (Option S)

def OwnAt (K : PySem.W.Frag) (F H : Hp) (a : Addr) : O → Prop
  | .lst ds => ∃ vs, H a = some (.lst vs) ∧ RepL K F vs ds
  | .dk kvs => ∃ ws, H a = some (.dK ws) ∧ RepK K F ws kvs
  | .dt kvs => ∃ ws, H a = some (.dT ws) ∧ RepT K F ws kvs
theorem OwnAt.mono {K : PySem.W.Frag} {F F' H H' : Hp} {a : Addr} {o : O} (h : OwnAt K F H a o) (e : Ex F F') (e2 : H a = H' a) : OwnAt K F' H' a o := by
  cases o with
  | lst ds => obtain ⟨vs, h1, h2⟩ := h; exact ⟨vs, e2 ▸ h1, h2.mono e⟩
  | dk ds => obtain ⟨vs, h1, h2⟩ := h; exact ⟨vs, e2 ▸ h1, h2.mono e⟩
  | dt ds => obtain ⟨vs, h1, h2⟩ := h; exact ⟨vs, e2 ▸ h1, h2.mono e⟩
theorem OwnAt.there {K : PySem.W.Frag} {F H : Hp} {a : Addr} {o : O} (h : OwnAt K F H a o) : ∃ ho, H a = some ho ∧ Mut (some ho) := by
  cases o with
  | lst ds => obtain ⟨vs, h1, h2⟩ := h; exact ⟨_, h1, trivial⟩
  | dk ds => obtain ⟨vs, h1, h2⟩ := h; exact ⟨_, h1, trivial⟩
  | dt ds => obtain ⟨vs, h1, h2⟩ := h; exact ⟨_, h1, trivial⟩
/-- an owned thing, frozen -/
theorem OwnAt.rep {K : PySem.W.Frag} {F H : Hp} {a : Addr} {o : O} (h : OwnAt K F H a o) (n : F a = none) : ∃ ho, H a = some ho ∧ Mut (some ho) ∧ ∀ od, Rep K (upd F a (.frz od ho)) (.ref a) o.d := by
  cases o with
  | lst ds => obtain ⟨vs, h1, h2⟩ := h; exact ⟨_, h1, trivial, fun od => .lst upd_same (h2.mono (Ex.new n))⟩
  | dk ds => obtain ⟨vs, h1, h2⟩ := h; exact ⟨_, h1, trivial, fun od => .dk upd_same (h2.mono (Ex.new n))⟩
  | dt ds => obtain ⟨vs, h1, h2⟩ := h; exact ⟨_, h1, trivial, fun od => .dt upd_same (h2.mono (Ex.new n))⟩

def SlotOk (K : PySem.W.Frag) (F H : Hp) (w : Addr → Option Nat) (i : Nat) (v : V) : S → Prop
  | .fz d => Rep K F v d
  | .own o => ∃ a, v = .ref a ∧ w a = some i ∧ OwnAt K F H a o

/-- every tuple is frozen -/
def Tp (F H : Hp) : Prop := ∀ a vs, H a = some (.tup vs) → F a = some (.tup vs)
theorem Tp.put {F H : Hp} {p : Addr} {o : HO} (t : Tp F H) (h : ∀ vs, o ≠ .tup vs) : Tp F (upd H p o) := fun a vs q => by
  by_cases z : a = p
  · subst z; rw [upd_same] at q; exact absurd (Option.some.inj q) (h vs)
  · rw [upd_ne z] at q; exact t a vs q
theorem Tp.both {F H : Hp} {p : Addr} {o : HO} (t : Tp F H) : Tp (upd F p o) (upd H p o) := fun a vs q => by
  by_cases z : a = p
  · subst z; rw [upd_same] at q ⊢; exact q
  · rw [upd_ne z] at q ⊢; exact t a vs q
/-- the address of sys.modules is taken -/
def Low (F : Hp) : Prop := ∃ o, F sysModules = some (.frz o (.ext fun _ => True))
theorem Low.mono {F F' : Hp} (l : Low F) (e : Ex F F') : Low F' := let ⟨o, h⟩ := l; ⟨o, e _ _ h⟩
abbrev Pl := List (Addr × HO)
def pk (P : Pl) : List Addr := P.map (·.1)
structure RepS (K : PySem.W.Frag) (F0 H0 : Hp) (P : Pl) (δ : Dl) (σ : L2.St) (F H : Hp) : Prop where
  e1 : Ex F0 F
  e2 : Ex H0 H
  e3 : Ex F H
  fr : ∀ a o, F a = some o → F0 a = some o ∨ H0 a = none
  tp : Tp F H
  len : δ.length = σ.length
  own : ∃ w : Addr → Option Nat, (∀ a i, w a = some i → H0 a = none ∧ F a = none ∧ H a ≠ none ∧ a ∉ pk P) ∧ ∀ i s, δ[i]? = some (some s) → ∃ v, σ[i]? = some (some v) ∧ SlotOk K F H w i v s
  low : Low F0
  rsv : ∀ p ho, (p, ho) ∈ P → H0 p = none ∧ F p = none ∧ H p = some ho

section
variable {K : PySem.W.Frag} {F0 H0 F H F' H' : Hp} {P : Pl} {δ : Dl} {σ : L2.St}
theorem mem_pk {p : Addr} {ho : HO} (h : (p, ho) ∈ P) : p ∈ pk P := List.mem_map.mpr ⟨_, h, rfl⟩
theorem RepS.rsv' (R : RepS K F0 H0 P δ σ F H) {p : Addr} (h : p ∈ pk P) : H0 p = none ∧ F p = none ∧ H p ≠ none := by
  obtain ⟨⟨q, ho⟩, hm, rfl⟩ := List.mem_map.mp h
  obtain ⟨a, b, c⟩ := R.rsv q ho hm
  exact ⟨a, b, by rw [c]; exact fun z => nomatch z⟩
theorem RepS.fz (R : RepS K F0 H0 P δ σ F H) {i : Nat} {d : D} (h : δ[i]? = some (some (.fz d))) : ∃ v, σ[i]? = some (some v) ∧ Rep K F v d := by
  obtain ⟨w, _, hw⟩ := R.own
  exact hw i _ h
theorem RepS.ownd (R : RepS K F0 H0 P δ σ F H) {i : Nat} {o : O} (h : δ[i]? = some (some (.own o))) : ∃ a, σ[i]? = some (some (.ref a)) ∧ OwnAt K F H a o ∧ F a = none ∧ H0 a = none := by
  obtain ⟨w, h1, hw⟩ := R.own
  obtain ⟨v, e, a, rfl, e2, q⟩ := hw i _ h
  exact ⟨a, e, q, (h1 a i e2).2.1, (h1 a i e2).1⟩
/-- growth: behind a call, a new object -/
theorem RepS.grow (R : RepS K F0 H0 P δ σ F H) (e1 : Ex F F') (e2 : Ex H H') (e3 : Ex F' H') (fr : ∀ a o, F' a = some o → F a = some o ∨ H a = none) (tp : Tp F' H') : RepS K F0 H0 P δ σ F' H' := by
  have keep : ∀ a, F a = none → H a ≠ none → F' a = none := fun a h1 h2 => by
    cases q : F' a with
    | none => rfl
    | some o =>
      rcases fr a o q with z | z
      · rw [h1] at z; cases z
      · exact absurd z h2
  refine ⟨R.e1.trans e1, R.e2.trans e2, e3, fun a o h => ?_, tp, R.len, ?_, R.low, fun p ho hp => ?_⟩
  · rcases fr a o h with z | z
    · exact R.fr a o z
    · exact .inr (R.e2.nn z)
  · obtain ⟨w, h1, hw⟩ := R.own
    refine ⟨w, fun a i e => ?_, fun i s e => ?_⟩
    · obtain ⟨a1, a2, a3, a4⟩ := h1 a i e
      exact ⟨a1, keep a a2 a3, e2.sm a3, a4⟩
    · obtain ⟨v, ev, q⟩ := hw i s e
      refine ⟨v, ev, ?_⟩
      cases s with
      | fz d => exact Rep.mono e1 q
      | own o =>
        obtain ⟨a, rfl, ew, q⟩ := q
        obtain ⟨ho, hh, _⟩ := q.there
        exact ⟨a, rfl, ew, q.mono e1 (by rw [hh, e2 _ _ hh])⟩
  · obtain ⟨a1, a2, a3⟩ := R.rsv p ho hp
    exact ⟨a1, keep p a2 (by rw [a3]; exact fun z => nomatch z), e2 _ _ a3⟩
/-- a new frozen object -/
theorem RepS.newF (R : RepS K F0 H0 P δ σ F H) {p : Addr} {o : HO} (h : H p = none) : RepS K F0 H0 P δ σ (upd F p o) (upd H p o) :=
  R.grow (Ex.new (R.e3.nn h)) (Ex.new h) R.e3.both (fun a u q => by
    by_cases z : a = p
    · subst z; exact .inr h
    · rw [upd_ne z] at q; exact .inl q) R.tp.both
/-- a new reserved object -/
theorem RepS.newP (R : RepS K F0 H0 P δ σ F H) {p : Addr} {o : HO} (h : H p = none) (no : ∀ vs, o ≠ .tup vs := by exact fun _ z => nomatch z) : RepS K F0 H0 ((p, o) :: P) δ σ F (upd H p o) := by
  have R1 : RepS K F0 H0 P δ σ F (upd H p o) := R.grow (Ex.refl F) (Ex.new h) (R.e3.trans (Ex.new h)) (fun a u q => .inl q) (R.tp.put no)
  obtain ⟨w, h1, hw⟩ := R.own
  refine ⟨R1.e1, R1.e2, R1.e3, R1.fr, R1.tp, R1.len, ⟨w, fun a i e => ?_, fun i s e => ?_⟩, R.low, fun q ho hq => ?_⟩
  · obtain ⟨a1, a2, a3, a4⟩ := h1 a i e
    have ne : a ≠ p := fun z => a3 (z ▸ h)
    exact ⟨a1, a2, by rw [upd_ne ne]; exact a3, by simpa [pk, ne] using a4⟩
  · obtain ⟨v, ev, q⟩ := hw i s e
    refine ⟨v, ev, ?_⟩
    cases s with
    | fz d => exact q
    | own o' =>
      obtain ⟨a, rfl, ew, q⟩ := q
      obtain ⟨ho, hh, _⟩ := q.there
      exact ⟨a, rfl, ew, q.mono (Ex.refl F) (by rw [upd_ne (ne_of_none hh h)])⟩
  · rcases List.mem_cons.mp hq with e | hq
    · cases e; exact ⟨R.e2.nn h, R.e3.nn h, upd_same⟩
    · exact R1.rsv q ho hq
theorem RepS.unP {Q : Pl} (R : RepS K F0 H0 P δ σ F H) (h : ∀ p ∈ Q, p ∈ P) : RepS K F0 H0 Q δ σ F H := by
  obtain ⟨w, h1, hw⟩ := R.own
  exact ⟨R.e1, R.e2, R.e3, R.fr, R.tp, R.len, ⟨w, fun a i e => let ⟨a1, a2, a3, a4⟩ := h1 a i e; ⟨a1, a2, a3, fun z => a4 (by obtain ⟨q, hq, e⟩ := List.mem_map.mp z; exact List.mem_map.mpr ⟨q, h q hq, e⟩)⟩, hw⟩, R.low, fun p ho hp => R.rsv p ho (h _ hp)⟩
/-- a reserved object is frozen -/
theorem RepS.frzP {p : Addr} {ho0 : HO} (R : RepS K F0 H0 ((p, ho0) :: P) δ σ F H) (hP : p ∉ pk P) (ho : HO) : RepS K F0 H0 P δ σ (upd F p ho) (upd H p ho) := by
  obtain ⟨r1, r2, r3⟩ := R.rsv p ho0 (by simp)
  obtain ⟨w, h1, hw⟩ := R.own
  refine ⟨R.e1.trans (Ex.new r2), R.e2.mut r1, R.e3.both, fun a u q => ?_, R.tp.both, R.len, ⟨w, fun a i e => ?_, fun i s e => ?_⟩, R.low, fun q hq' hq => ?_⟩
  · by_cases z : a = p
    · subst z; exact .inr r1
    · rw [upd_ne z] at q; exact R.fr a u q
  · obtain ⟨a1, a2, a3, a4⟩ := h1 a i e
    have ne : a ≠ p := fun z => a4 (by simp [pk, z])
    exact ⟨a1, by rw [upd_ne ne]; exact a2, by rw [upd_ne ne]; exact a3, fun z => a4 (List.mem_cons_of_mem _ z)⟩
  · obtain ⟨v, ev, q⟩ := hw i s e
    refine ⟨v, ev, ?_⟩
    cases s with
    | fz d => exact Rep.mono (Ex.new r2) q
    | own o' =>
      obtain ⟨a, rfl, ew, q⟩ := q
      have ne : a ≠ p := fun z => (h1 a i ew).2.2.2 (by simp [pk, z])
      exact ⟨a, rfl, ew, q.mono (Ex.new r2) (by rw [upd_ne ne])⟩
  · obtain ⟨a1, a2, a3⟩ := R.rsv q hq' (by simp [hq])
    have ne : q ≠ p := fun z => by subst z; exact hP (mem_pk hq)
    exact ⟨a1, by rw [upd_ne ne]; exact a2, by rw [upd_ne ne]; exact a3⟩
/-- a reserved object is written -/
theorem RepS.wrP {p : Addr} {ho0 : HO} (R : RepS K F0 H0 ((p, ho0) :: P) δ σ F H) (hp : p ∉ pk P) (ho : HO) (no : ∀ vs, ho ≠ .tup vs := by exact fun _ z => nomatch z) : RepS K F0 H0 ((p, ho) :: P) δ σ F (upd H p ho) := by
  obtain ⟨r1, r2, r3⟩ := R.rsv p ho0 (by simp)
  obtain ⟨w, h1, hw⟩ := R.own
  refine ⟨R.e1, R.e2.mut r1, R.e3.mut r2, R.fr, R.tp.put no, R.len, ⟨w, fun a i e => ?_, fun i s e => ?_⟩, R.low, fun q ho' hq => ?_⟩
  · obtain ⟨a1, a2, a3, a4⟩ := h1 a i e
    have ne : a ≠ p := fun z => a4 (by simp [pk, z])
    exact ⟨a1, a2, by rw [upd_ne ne]; exact a3, a4⟩
  · obtain ⟨v, ev, q⟩ := hw i s e
    refine ⟨v, ev, ?_⟩
    cases s with
    | fz d => exact q
    | own o' =>
      obtain ⟨a, rfl, ew, q⟩ := q
      have ne : a ≠ p := fun z => (h1 a i ew).2.2.2 (by simp [pk, z])
      exact ⟨a, rfl, ew, q.mono (Ex.refl F) (by rw [upd_ne ne])⟩
  · rcases List.mem_cons.mp hq with e | hm
    · cases e; exact ⟨r1, r2, upd_same⟩
    · obtain ⟨a1, a2, a3⟩ := R.rsv q ho' (by simp [hm])
      exact ⟨a1, a2, by rw [upd_ne (show q ≠ p from fun z => by subst z; exact hp (mem_pk hm))]; exact a3⟩
/-- slots -/
theorem RepS.setF (R : RepS K F0 H0 P δ σ F H) (i : Nat) {v : V} {d : D} (r : Rep K F v d) : RepS K F0 H0 P (δ.set i (some (.fz d))) (σ.set i (some v)) F H := by
  obtain ⟨w, h1, hw⟩ := R.own
  refine ⟨R.e1, R.e2, R.e3, R.fr, R.tp, by simp [R.len], ⟨w, h1, fun j s e => ?_⟩, R.low, R.rsv⟩
  by_cases hj : i = j
  · subst hj
    have hi : i < δ.length := by
      have := (List.getElem?_eq_some_iff.mp e).1
      simpa using this
    rw [List.getElem?_set_self hi] at e
    cases e
    exact ⟨v, by rw [List.getElem?_set_self (by rw [← R.len]; exact hi)], r⟩
  · rw [List.getElem?_set_ne hj] at e
    obtain ⟨u, eu, q⟩ := hw j s e
    exact ⟨u, by rw [List.getElem?_set_ne hj]; exact eu, q⟩
theorem RepS.setO {p : Addr} {ho : HO} (R : RepS K F0 H0 ((p, ho) :: P) δ σ F H) (hP : p ∉ pk P) (i : Nat) {o : O} (r : OwnAt K F H p o) : RepS K F0 H0 P (δ.set i (some (.own o))) (σ.set i (some (.ref p))) F H := by
  obtain ⟨r1, r2, r3⟩ := R.rsv p ho (by simp)
  obtain ⟨w, h1, hw⟩ := R.own
  refine ⟨R.e1, R.e2, R.e3, R.fr, R.tp, by simp [R.len], ⟨fun a => if a = p then some i else w a, fun a j e => ?_, fun j s e => ?_⟩, R.low, fun q ho hq => R.rsv q ho (by simp [hq])⟩
  · by_cases z : a = p
    · subst z; exact ⟨r1, r2, by rw [r3]; exact (nomatch ·), hP⟩
    · replace e := (if_neg z).symm.trans e
      obtain ⟨a1, a2, a3, a4⟩ := h1 a j e
      exact ⟨a1, a2, a3, fun q => a4 (List.mem_cons_of_mem _ q)⟩
  · by_cases hj : i = j
    · subst hj
      have hi : i < δ.length := by
        have := (List.getElem?_eq_some_iff.mp e).1
        simpa using this
      rw [List.getElem?_set_self hi] at e
      cases e
      exact ⟨.ref p, by rw [List.getElem?_set_self (by rw [← R.len]; exact hi)], p, rfl, if_pos rfl, r⟩
    · rw [List.getElem?_set_ne hj] at e
      obtain ⟨u, eu, q⟩ := hw j s e
      refine ⟨u, by rw [List.getElem?_set_ne hj]; exact eu, ?_⟩
      cases s with
      | fz d => exact q
      | own o' =>
        obtain ⟨a, rfl, ew, q⟩ := q
        have ne : a ≠ p := fun z => (h1 a j ew).2.2.2 (by simp [pk, z])
        exact ⟨a, rfl, (if_neg ne).trans ew, q⟩
theorem RepS.unset (R : RepS K F0 H0 P δ σ F H) (i : Nat) (x : Option V) : RepS K F0 H0 P (δ.set i none) (σ.set i x) F H := by
  obtain ⟨w, h1, hw⟩ := R.own
  refine ⟨R.e1, R.e2, R.e3, R.fr, R.tp, by simp [R.len], ⟨w, h1, fun j s e => ?_⟩, R.low, R.rsv⟩
  by_cases hj : i = j
  · subst hj
    have hi : i < δ.length := by
      have := (List.getElem?_eq_some_iff.mp e).1
      simpa using this
    rw [List.getElem?_set_self hi] at e
    cases e
  · rw [List.getElem?_set_ne hj] at e
    obtain ⟨u, eu, q⟩ := hw j s e
    exact ⟨u, by rw [List.getElem?_set_ne hj]; exact eu, q⟩
/-- fewer slots known -/
theorem RepS.weak {δ' : Dl} (R : RepS K F0 H0 P δ σ F H) (hl : δ'.length = δ.length) (h : ∀ (i : Nat) (s : S), δ'[i]? = some (some s) → δ[i]? = some (some s)) : RepS K F0 H0 P δ' σ F H := by
  obtain ⟨w, h1, hw⟩ := R.own
  exact ⟨R.e1, R.e2, R.e3, R.fr, R.tp, hl.trans R.len, ⟨w, h1, fun i s e => hw i s (h i s e)⟩, R.low, R.rsv⟩
/-- an owned slot's object is written -/
theorem RepS.write (R : RepS K F0 H0 P δ σ F H) {i : Nat} {a : Addr} {o o' : O} {ho : HO} (e : δ[i]? = some (some (.own o))) (ea : σ[i]? = some (some (.ref a))) (n : OwnAt K F (upd H a ho) a o') :
    RepS K F0 H0 P (δ.set i (some (.own o'))) σ F (upd H a ho) := by
  obtain ⟨w, h1, hw⟩ := R.own
  obtain ⟨v, ev, b, rfl, ew, q⟩ := hw i _ e
  rw [ea] at ev; cases ev
  obtain ⟨a1, a2, a3, a4⟩ := h1 a i ew
  have no : ∀ vs, ho ≠ .tup vs := fun vs z => by
    subst z
    cases o' with
    | lst _ => obtain ⟨_, q, _⟩ := n; rw [upd_same] at q; cases q
    | dk _ => obtain ⟨_, q, _⟩ := n; rw [upd_same] at q; cases q
    | dt _ => obtain ⟨_, q, _⟩ := n; rw [upd_same] at q; cases q
  refine ⟨R.e1, R.e2.mut a1, R.e3.mut a2, R.fr, R.tp.put no, by simp [R.len], ⟨w, fun b j e => ?_, fun j s e => ?_⟩, R.low, fun p hp' hp => ?_⟩
  · obtain ⟨b1, b2, b3, b4⟩ := h1 b j e
    refine ⟨b1, b2, ?_, b4⟩
    by_cases z : b = a
    · subst z; rw [upd_same]; exact fun z => nomatch z
    · rw [upd_ne z]; exact b3
  · by_cases hj : i = j
    · subst hj
      have hi : i < δ.length := by
        have := (List.getElem?_eq_some_iff.mp e).1
        simpa using this
      rw [List.getElem?_set_self hi] at e
      cases e
      exact ⟨.ref a, ea, a, rfl, ew, n⟩
    · rw [List.getElem?_set_ne hj] at e
      obtain ⟨u, eu, q⟩ := hw j s e
      refine ⟨u, eu, ?_⟩
      cases s with
      | fz d => exact q
      | own o2 =>
        obtain ⟨b, rfl, ew2, q⟩ := q
        have ne : b ≠ a := fun z => by subst z; rw [ew] at ew2; cases ew2; exact hj rfl
        exact ⟨b, rfl, ew2, q.mono (Ex.refl F) (by rw [upd_ne ne])⟩
  · obtain ⟨b1, b2, b3⟩ := R.rsv p hp' hp
    exact ⟨b1, b2, by rw [upd_ne (show p ≠ a from fun z => by subst z; exact a4 (mem_pk hp))]; exact b3⟩
/-- an owned slot is frozen -/
theorem RepS.freeze (R : RepS K F0 H0 P δ σ F H) {i : Nat} {o : O} (e : δ[i]? = some (some (.own o))) :
    ∃ a ho, σ[i]? = some (some (.ref a)) ∧ H a = some ho ∧ Mut (some ho) ∧ ∀ od, Ex F (upd F a (.frz od ho)) ∧ Rep K (upd F a (.frz od ho)) (.ref a) o.d ∧ RepS K F0 H0 P (δ.set i (some (.fz o.d))) σ (upd F a (.frz od ho)) (upd H a (.frz od ho)) := by
  obtain ⟨w, h1, hw⟩ := R.own
  obtain ⟨v, ev, a, rfl, ew, q⟩ := hw i _ e
  obtain ⟨a1, a2, a3, a4⟩ := h1 a i ew
  obtain ⟨ho, hh, mu, rp⟩ := q.rep a2
  refine ⟨a, ho, ev, hh, mu, fun od => ⟨Ex.new a2, rp od, R.e1.trans (Ex.new a2), R.e2.mut a1, R.e3.both, fun b u q => ?_, R.tp.both, by simp [R.len], ⟨fun b => if b = a then none else w b, fun b j e => ?_, fun j s e => ?_⟩, R.low, fun p hp' hp => ?_⟩⟩
  · by_cases z : b = a
    · subst z; exact .inr a1
    · rw [upd_ne z] at q; exact R.fr b u q
  · by_cases z : b = a
    · replace e := (if_pos z).symm.trans e; cases e
    · replace e := (if_neg z).symm.trans e
      obtain ⟨b1, b2, b3, b4⟩ := h1 b j e
      exact ⟨b1, by rw [upd_ne z]; exact b2, by rw [upd_ne z]; exact b3, b4⟩
  · by_cases hj : i = j
    · subst hj
      have hi : i < δ.length := by
        have := (List.getElem?_eq_some_iff.mp e).1
        simpa using this
      rw [List.getElem?_set_self hi] at e
      cases e
      exact ⟨.ref a, ev, rp od⟩
    · rw [List.getElem?_set_ne hj] at e
      obtain ⟨u, eu, q⟩ := hw j s e
      refine ⟨u, eu, ?_⟩
      cases s with
      | fz d => exact Rep.mono (Ex.new a2) q
      | own o2 =>
        obtain ⟨b, rfl, ew2, q⟩ := q
        have ne : b ≠ a := fun z => by subst z; rw [ew] at ew2; cases ew2; exact hj rfl
        exact ⟨b, rfl, (if_neg ne).trans ew2, q.mono (Ex.new a2) (by rw [upd_ne ne])⟩
  · obtain ⟨b1, b2, b3⟩ := R.rsv p hp' hp
    have ne : p ≠ a := fun z => by subst z; exact a4 (mem_pk hp)
    exact ⟨b1, by rw [upd_ne ne]; exact b2, by rw [upd_ne ne]; exact b3⟩
end
end Mv

namespace Mv
open PySem PySem.Spec PyProof.Rows L2

abbrev DE := Dl → (Dl → D → Prop) → Prop
abbrev DOw := Dl → (Dl → O → Prop) → Prop
abbrev DT := Dl → (Dl → Bool → Prop) → Prop
abbrev DA := Dl → (Dl → List D → Prop) → Prop
structure DEnds where
  nx : Dl → Prop
  rt : S → Prop
  bk : Dl → Prop := fun _ => False
  ct : Dl → Prop := fun _ => False
abbrev DS := DEnds → Dl → Prop

def RetOk (K : PySem.W.Frag) (H0 F H : Hp) (v : V) : S → Prop
  | .fz d => Rep K F v d
  | .own o => ∃ a, v = .ref a ∧ H0 a = none ∧ F a = none ∧ OwnAt K F H a o
structure Grown (F0 H0 F H : Hp) : Prop where
  e1 : Ex F0 F
  e2 : Ex H0 H
  e3 : Ex F H
  fr : ∀ a o, F a = some o → F0 a = some o ∨ H0 a = none
  tp : Tp F H
theorem RepS.grown {K : PySem.W.Frag} {F0 H0 : Hp} {P : Pl} {δ : Dl} {σ : L2.St} {F H : Hp} (R : RepS K F0 H0 P δ σ F H) : Grown F0 H0 F H := ⟨R.e1, R.e2, R.e3, R.fr, R.tp⟩

def upE (K : PySem.W.Frag) (t : DE) : TE := fun σ H Q => ∃ F0 H0 P δ F Q', RepS K F0 H0 P δ σ F H ∧ t δ Q' ∧ ∀ δ' F' H' v d, RepS K F0 H0 P δ' σ F' H' → Ex F F' → Rep K F' v d → Q' δ' d → Q v H'
def upO (K : PySem.W.Frag) (t : DOw) : TE := fun σ H Q => ∃ F0 H0 P δ F Q', RepS K F0 H0 P δ σ F H ∧ t δ Q' ∧ ∀ δ' F' H' p ho o, RepS K F0 H0 ((p, ho) :: P) δ' σ F' H' → p ∉ pk P → Ex F F' → OwnAt K F' H' p o → Q' δ' o → Q (.ref p) H'
def upT (K : PySem.W.Frag) (t : DT) : TT := fun σ H Q => ∃ F0 H0 P δ F Q', RepS K F0 H0 P δ σ F H ∧ t δ Q' ∧ ∀ δ' F' H' b, RepS K F0 H0 P δ' σ F' H' → Ex F F' → Q' δ' b → Q b H'
def upA (K : PySem.W.Frag) (t : DA) : TA := fun σ H Q => ∃ F0 H0 P δ F Q', RepS K F0 H0 P δ σ F H ∧ t δ Q' ∧ ∀ δ' F' H' vs ds, RepS K F0 H0 P δ' σ F' H' → Ex F F' → RepL K F' vs ds → Q' δ' ds → Q vs H'
structure upSW (K : PySem.W.Frag) (t : DS) (D : Ends) (σ : L2.St) (H F0 H0 : Hp) (δ : Dl) (F : Hp) (D' : DEnds) : Prop where
  rep : RepS K F0 H0 [] δ σ F H
  t : t D' δ
  nx : ∀ δ' σ' F' H', RepS K F0 H0 [] δ' σ' F' H' → Ex F F' → D'.nx δ' → D.nx σ' H'
  bk : ∀ δ' σ' F' H', RepS K F0 H0 [] δ' σ' F' H' → Ex F F' → D'.bk δ' → D.bk σ' H'
  ct : ∀ δ' σ' F' H', RepS K F0 H0 [] δ' σ' F' H' → Ex F F' → D'.ct δ' → D.ct σ' H'
  rt : ∀ F' H' v r, Grown F0 H0 F' H' → RetOk K H0 F' H' v r → D'.rt r → D.rt v H'
theorem upSW.at {K : PySem.W.Frag} {t u : DS} {D : Ends} {σ σ' : L2.St} {H H' F0 H0 F F' : Hp} {δ δ' : Dl} {D' : DEnds} (W : upSW K t D σ H F0 H0 δ F D') (R : RepS K F0 H0 [] δ' σ' F' H') (e : Ex F F') (q : u D' δ') : upSW K u D σ' H' F0 H0 δ' F' D' :=
  ⟨R, q, fun a b c d r x y => W.nx a b c d r (e.trans x) y, fun a b c d r x y => W.bk a b c d r (e.trans x) y, fun a b c d r x y => W.ct a b c d r (e.trans x) y, W.rt⟩
def upS (K : PySem.W.Frag) (t : DS) : TS := fun D σ H => ∃ F0 H0 δ F D', upSW K t D σ H F0 H0 δ F D'

theorem pimp {X : Cx} {e : Expr} {t t' : TE} (h : PE X e t) (i : ∀ σ H Q, t' σ H Q → t σ H Q) : PE X e t' := ⟨fun pins s σ H Q I q => h.run pins s σ H Q I (i σ H Q q)⟩
theorem pimpT {X : Cx} {e : Expr} {t t' : TT} (h : PT X e t) (i : ∀ σ H Q, t' σ H Q → t σ H Q) : PT X e t' := ⟨fun pins s σ H Q I q => h.run pins s σ H Q I (i σ H Q q)⟩
theorem pimpW {X : Cx} {e : Expr} {t t' : TT} (h : PW X e t) (i : ∀ σ H Q, t' σ H Q → t σ H Q) : PW X e t' := ⟨fun w pins s σ H Q I q => h.run w pins s σ H Q I (i σ H Q q)⟩
theorem pimpA {X : Cx} {e : List Expr} {t t' : TA} (h : PA X e t) (i : ∀ σ H Q, t' σ H Q → t σ H Q) : PA X e t' := ⟨fun p pins s σ H Q I q => h.run p pins s σ H Q I (i σ H Q q)⟩
theorem pimpS {X : Cx} {e : Stmt} {t t' : TS} (h : PS X e t) (i : ∀ D σ H, t' D σ H → t D σ H) : PS X e t' := ⟨fun pins s σ H D I q => h.run pins s σ H D I (i D σ H q)⟩
theorem pimpSs {X : Cx} {e : List Stmt} {t t' : TS} (h : PSs X e t) (i : ∀ D σ H, t' D σ H → t D σ H) : PSs X e t' := ⟨fun pins s σ H D I q => h.run pins s σ H D I (i D σ H q)⟩

section
variable {X : Cx} {K : PySem.W.Frag} {e a b c : Expr} {ta tb tc : DE} {pos : Pos}

/-! ### names, constants -/
def dVar (i : Nat) : DE := fun δ Q => match δ[i]? with
  | some (some (.fz d)) => Q δ d
  | some (some (.own o)) => Q (δ.set i (some (.fz o.d))) o.d
  | _ => False
/-- behind an expression an object may be locked -/
def pLock (t : TE) : TE := fun σ H Q => t σ H fun v H' => Q v H' ∨ ∃ d u, H' d = some u ∧ Mut (some u) ∧ ∀ od, Q v (upd H' d (.frz od u))
theorem pe_plock {t : TE} (h : PE X e t) : PE X e (pLock t) := ⟨fun pins s σ H Q I q => thn (h.run pins s σ H _ I q) fun u s1 ⟨v, H1, I1, r1, q1⟩ => by
  rcases q1 with q1 | ⟨d, u', h1, mu, q1⟩
  · exact ⟨v, H1, I1, r1, q1⟩
  · obtain ⟨od, I2⟩ := I1.lock h1 mu
    exact ⟨v, _, I2, r1, q1 od⟩⟩
theorem df_var {i : Nat} (h : PE X e (tVar i)) : PE X e (upE K (dVar i)) := pimp (pe_plock h) fun σ H Q ⟨F0, H0, P, δ, F, Q', R, ht, k⟩ => by
  unfold dVar at ht
  split at ht
  · rename_i d e1
    obtain ⟨v, ev, r⟩ := R.fz e1
    exact ⟨v, ev, .inl (k δ F H v d R (Ex.refl F) r ht)⟩
  · rename_i o e1
    obtain ⟨a, ho, ea, hh, mu, q⟩ := R.freeze e1
    refine ⟨_, ea, .inr ⟨a, ho, hh, mu, fun od => ?_⟩⟩
    obtain ⟨ex, rp, R'⟩ := q od
    exact k _ _ _ _ _ R' ex rp ht
  · exact ht.elim
theorem pdv (i : Nat) {x : Str} {pos : Pos} (hN : X.N[i]? = some x := by rfl) (hv : Vis X.env.scope x := by first | exact Or.inl rfl | exact Or.inr (Or.inl rfl) | exact Or.inr (Or.inr rfl)) (hd : (x == ("__debug__" : Str)) = false := by decide)
    (hcd : (x == ("__classdict__" : Str)) = false := by decide) : PE X (.Name x pos) (upE K (dVar i)) := df_var (pv i hN hv hd hcd)
def dC (d : D) : DE := fun δ Q => Q δ d
theorem df_c {v : V} {d : D} (h : PE X e (tC v)) (r : ∀ F, Rep K F v d) : PE X e (upE K (dC d)) := pimp h fun σ H Q ⟨F0, H0, P, δ, F, Q', R, ht, k⟩ => k δ F H v d R (Ex.refl F) (r F) ht
theorem pd_int {i j pos} : PE X (.Constant (.int i) j pos) (upE K (dC (.int i))) := df_c pe_int fun _ => .int i
theorem pd_bl {b j pos} : PE X (.Constant (.bool b) j pos) (upE K (dC (.bl b))) := df_c pe_bl fun _ => .bl b
theorem pd_non {j pos} : PE X (.Constant .none j pos) (upE K (dC .non)) := df_c pe_non fun _ => .non
theorem pd_str {x j pos} : PE X (.Constant (.str x) j pos) (upE K (dC (.str x))) := df_c pe_str fun _ => .str x
/-- a global constant -/
theorem pd_gint {x : Str} {i : Int} {t : Tok} (hg : Gl X x) (hm : X.mg x = some (.int i t)) (hd : (x == ("__debug__" : Str)) = false := by decide) : PE X (.Name x pos) (upE K (dC (.int i))) := df_c (pe_glob hg hm (v := .int i) ⟨t, rfl⟩ hd) fun _ => .int i
theorem pd_gstr {x z : Str} {t : Tok} (hg : Gl X x) (hm : X.mg x = some (.str z t)) (hd : (x == ("__debug__" : Str)) = false := by decide) : PE X (.Name x pos) (upE K (dC (.str z))) := df_c (pe_glob hg hm (v := .str z) ⟨t, rfl⟩ hd) fun _ => .str z

/-! ### two operands, pure results -/
def d2 (g : D → D → (D → Prop) → Prop) (ta tb : DE) : DE := fun δ Q => ta δ fun δ1 x => tb δ1 fun δ2 y => g x y fun d => Q δ2 d
/-- what an operation on values does, by its D-level meaning g -/
def Op2 (K : PySem.W.Frag) (r : R2) (g : D → D → (D → Prop) → Prop) : Prop :=
  ∀ (x y : V) (F H : Hp) (dx dy : D) (Q : VK) (Q' : D → Prop), Rep K F x dx → Rep K F y dy → Ex F H → g dx dy Q' → (∀ v d, Rep K F v d → Q' d → Q v H) → r x y H Q
theorem up2 {r : R2} {g : D → D → (D → Prop) → Prop} (ho : Op2 K r g) {σ : L2.St} {H : Hp} {Q : VK} (h : upE K (d2 g ta tb) σ H Q) : tOp r (upE K ta) (upE K tb) σ H Q := by
  obtain ⟨F0, H0, P, δ, F, Q', R, ht, k⟩ := h
  refine ⟨F0, H0, P, δ, F, _, R, ht, fun δ1 F1 H1 x dx R1 e1 rx ht => ?_⟩
  refine ⟨F0, H0, P, δ1, F1, _, R1, ht, fun δ2 F2 H2 y dy R2 e2 ry ht => ?_⟩
  exact ho x y F2 H2 dx dy Q _ (rx.mono e2) ry R2.e3 ht fun v d rv q => k δ2 F2 H2 v d R2 (e1.trans e2) rv q
theorem df_op {op : Operator} {r : R2} {g : D → D → (D → Prop) → Prop} (hr : OpR X (binaryOp op) r) (ho : Op2 K r g) (ha : PE X a (upE K ta)) (hb : PE X b (upE K tb)) : PE X (.BinOp a op b pos) (upE K (d2 g ta tb)) :=
  pimp (pe_op hr ha hb) fun _ _ _ h => up2 ho h
def gAdd : D → D → (D → Prop) → Prop
  | .int i, .int j, Q => Q (.int (i + j))
  | .str x, .str y, Q => x.length + y.length ≤ sizeLine ∧ Q (.str (x ++ y))
  | _, _, _ => False
def gSub : D → D → (D → Prop) → Prop
  | .int i, .int j, Q => Q (.int (i - j))
  | _, _, _ => False
def CM (i j : Int) : Prop := CMul i j ∨ CMulW i j
def gMul : D → D → (D → Prop) → Prop
  | .int i, .int j, Q => CM i j ∧ Q (.int (i * j))
  | _, _, _ => False
def gDiv : D → D → (D → Prop) → Prop
  | .int i, .int j, Q => (0 < j ∧ j < 1073741824) ∧ Q (.int (i / j))
  | _, _, _ => False
def gMod : D → D → (D → Prop) → Prop
  | .int i, .int j, Q => 0 < j ∧ Q (.int (i % j))
  | _, _, _ => False
def CPw (i j : Int) : Prop := 0 ≤ j ∧ (Builtin.Int.intBits i : Int) * j ≤ 2 ^ 27
def gPow : D → D → (D → Prop) → Prop
  | .int i, .int j, Q => CPw i j ∧ Q (.int (i ^ j.toNat))
  | _, _, _ => False
theorem op_mulA : OpR X (binaryOp .Mult) (rI CM fun i j => .int (i * j)) := opI fun _ _ _ _ _ _ _ hc q => mul_int q (hc.elim CMul.ok CMulW.ok)
theorem op_powA : OpR X (binaryOp .Pow) (rI CPw fun i j => .int (i ^ j.toNat)) := opI fun _ _ _ _ _ _ _ hc q => pow_int hc.1 hc.2 q
theorem o2_add : Op2 K (fun x y H Q => rI0 (fun i j => .int (i + j)) x y H Q ∨ (∃ i j, x = .str i ∧ y = .str j ∧ i.length + j.length ≤ sizeLine ∧ Q (.str (i ++ j)) H)) gAdd := by
  intro x y F H dx dy Q Q' rx ry _ g k
  unfold gAdd at g
  split at g
  · cases rx; cases ry; exact .inl ⟨_, _, rfl, rfl, k _ _ (.int _) g⟩
  · cases rx; cases ry; exact .inr ⟨_, _, rfl, rfl, g.1, k _ _ (.str _) g.2⟩
  · exact g.elim
theorem o2_sub : Op2 K (rI0 (fun i j => .int (i - j))) gSub := by
  intro x y F H dx dy Q Q' rx ry _ g k
  unfold gSub at g
  split at g
  · cases rx; cases ry; exact ⟨_, _, rfl, rfl, k _ _ (.int _) g⟩
  · exact g.elim
theorem o2_mul : Op2 K (rI CM (fun i j => .int (i * j))) gMul := by
  intro x y F H dx dy Q Q' rx ry _ g k
  unfold gMul at g
  split at g
  · cases rx; cases ry; exact ⟨_, _, rfl, rfl, g.1, k _ _ (.int _) g.2⟩
  · exact g.elim
theorem o2_div : Op2 K (rI CDiv (fun i j => .int (i / j))) gDiv := by
  intro x y F H dx dy Q Q' rx ry _ g k
  unfold gDiv at g
  split at g
  · cases rx; cases ry; exact ⟨_, _, rfl, rfl, g.1, k _ _ (.int _) g.2⟩
  · exact g.elim
theorem o2_mod : Op2 K (rI (fun _ j => 0 < j) (fun i j => .int (i % j))) gMod := by
  intro x y F H dx dy Q Q' rx ry _ g k
  unfold gMod at g
  split at g
  · cases rx; cases ry; exact ⟨_, _, rfl, rfl, g.1, k _ _ (.int _) g.2⟩
  · exact g.elim
theorem o2_pow : Op2 K (rI CPw (fun i j => .int (i ^ j.toNat))) gPow := by
  intro x y F H dx dy Q Q' rx ry _ g k
  unfold gPow at g
  split at g
  · cases rx; cases ry; exact ⟨_, _, rfl, rfl, g.1, k _ _ (.int _) g.2⟩
  · exact g.elim
theorem pd_add (ha : PE X a (upE K ta)) (hb : PE X b (upE K tb)) : PE X (.BinOp a .Add b pos) (upE K (d2 gAdd ta tb)) := df_op (op_add.or op_add_str) o2_add ha hb
theorem pd_sub (ha : PE X a (upE K ta)) (hb : PE X b (upE K tb)) : PE X (.BinOp a .Sub b pos) (upE K (d2 gSub ta tb)) := df_op op_sub o2_sub ha hb
theorem pd_mul (ha : PE X a (upE K ta)) (hb : PE X b (upE K tb)) : PE X (.BinOp a .Mult b pos) (upE K (d2 gMul ta tb)) := df_op op_mulA o2_mul ha hb
theorem pd_div (ha : PE X a (upE K ta)) (hb : PE X b (upE K tb)) : PE X (.BinOp a .FloorDiv b pos) (upE K (d2 gDiv ta tb)) := df_op op_fdiv o2_div ha hb
theorem pd_mod (ha : PE X a (upE K ta)) (hb : PE X b (upE K tb)) : PE X (.BinOp a .Mod b pos) (upE K (d2 gMod ta tb)) := df_op op_mod o2_mod ha hb
theorem pd_pow (ha : PE X a (upE K ta)) (hb : PE X b (upE K tb)) : PE X (.BinOp a .Pow b pos) (upE K (d2 gPow ta tb)) := df_op op_powA o2_pow ha hb

/-! ### comparisons of plain values -/
def gLt : D → D → (D → Prop) → Prop
  | .int i, .int j, Q => Q (.bl (decide (i < j)))
  | .str i, .str j, Q => Q (.bl (decide (i.cps.toList < j.cps.toList)))
  | _, _, _ => False
def gLe : D → D → (D → Prop) → Prop
  | .int i, .int j, Q => Q (.bl (decide (i ≤ j)))
  | .str i, .str j, Q => Q (.bl (!decide (j.cps.toList < i.cps.toList)))
  | _, _, _ => False
def gGt : D → D → (D → Prop) → Prop
  | .int i, .int j, Q => Q (.bl (decide (j < i)))
  | .str i, .str j, Q => Q (.bl (decide (j.cps.toList < i.cps.toList)))
  | _, _, _ => False
def gGe : D → D → (D → Prop) → Prop
  | .int i, .int j, Q => Q (.bl (decide (j ≤ i)))
  | .str i, .str j, Q => Q (.bl (!decide (i.cps.toList < j.cps.toList)))
  | _, _, _ => False
/-- flat values that == compares -/
def eqF : D → D → Option Bool
  | .non, .non => some true | .non, .int _ => some false | .int _, .non => some false | .non, .bl _ => some false | .bl _, .non => some false | .non, .str _ => some false | .str _, .non => some false
  | .int i, .int j => some (decide (i = j)) | .bl i, .bl j => some (decide (i = j)) | .str i, .str j => some (decide (i = j))
  | .int _, .str _ => some false | .str _, .int _ => some false | .bl _, .str _ => some false | .str _, .bl _ => some false
  | _, _ => none
def gEq : D → D → (D → Prop) → Prop := fun x y Q => ∃ b, eqF x y = some b ∧ Q (.bl b)
def gNe : D → D → (D → Prop) → Prop := fun x y Q => ∃ b, eqF x y = some b ∧ Q (.bl (!b))
def D.isNon : D → Bool
  | .non => true
  | _ => false
def gIsN : D → D → (D → Prop) → Prop
  | x, .non, Q => Q (.bl x.isNon)
  | _, _, _ => False
def gNotN : D → D → (D → Prop) → Prop
  | x, .non, Q => Q (.bl (!x.isNon))
  | _, _, _ => False
theorem df_cmp {op : CmpOp} {r : R2} {g : D → D → (D → Prop) → Prop} (hr : OpR X (compareOp op) r) (ho : Op2 K r g) (ha : PE X a (upE K ta)) (hb : PE X b (upE K tb)) (hm : behindInMarks op b = false) : PE X (.Compare a [op] [b] pos) (upE K (d2 g ta tb)) :=
  pimp (pe_cmpR hr ha hb hm) fun _ _ _ h => up2 ho h
theorem o2_lt : Op2 K (fun x y H Q => rI0 (fun i j => .bl (decide (i < j))) x y H Q ∨ (∃ i j, x = .str i ∧ y = .str j ∧ Q (.bl (decide (i.cps.toList < j.cps.toList))) H)) gLt := by
  intro x y F H dx dy Q Q' rx ry _ g k
  unfold gLt at g
  split at g
  · cases rx; cases ry; exact .inl ⟨_, _, rfl, rfl, k _ _ (.bl _) g⟩
  · cases rx; cases ry; exact .inr ⟨_, _, rfl, rfl, k _ _ (.bl _) g⟩
  · exact g.elim
theorem o2_le : Op2 K (fun x y H Q => rI0 (fun i j => .bl (decide (i ≤ j))) x y H Q ∨ (∃ i j, x = .str i ∧ y = .str j ∧ Q (.bl (!decide (j.cps.toList < i.cps.toList))) H)) gLe := by
  intro x y F H dx dy Q Q' rx ry _ g k
  unfold gLe at g
  split at g
  · cases rx; cases ry; exact .inl ⟨_, _, rfl, rfl, k _ _ (.bl _) g⟩
  · cases rx; cases ry; exact .inr ⟨_, _, rfl, rfl, k _ _ (.bl _) g⟩
  · exact g.elim
theorem o2_gt : Op2 K (fun x y H Q => rI0 (fun i j => .bl (decide (j < i))) x y H Q ∨ (∃ i j, x = .str i ∧ y = .str j ∧ Q (.bl (decide (j.cps.toList < i.cps.toList))) H)) gGt := by
  intro x y F H dx dy Q Q' rx ry _ g k
  unfold gGt at g
  split at g
  · cases rx; cases ry; exact .inl ⟨_, _, rfl, rfl, k _ _ (.bl _) g⟩
  · cases rx; cases ry; exact .inr ⟨_, _, rfl, rfl, k _ _ (.bl _) g⟩
  · exact g.elim
theorem o2_ge : Op2 K (fun x y H Q => rI0 (fun i j => .bl (decide (j ≤ i))) x y H Q ∨ (∃ i j, x = .str i ∧ y = .str j ∧ Q (.bl (!decide (i.cps.toList < j.cps.toList))) H)) gGe := by
  intro x y F H dx dy Q Q' rx ry _ g k
  unfold gGe at g
  split at g
  · cases rx; cases ry; exact .inl ⟨_, _, rfl, rfl, k _ _ (.bl _) g⟩
  · cases rx; cases ry; exact .inr ⟨_, _, rfl, rfl, k _ _ (.bl _) g⟩
  · exact g.elim
theorem eqF_ok {F : Hp} {x y : V} {dx dy : D} {b : Bool} (rx : Rep K F x dx) (ry : Rep K F y dy) (h : eqF dx dy = some b) : scal x y = true ∧ decide (x = y) = b := by
  unfold eqF at h
  split at h <;> cases h <;> (cases rx; cases ry; exact ⟨rfl, by simp⟩)
theorem o2_eq : Op2 K rEq gEq := by
  intro x y F H dx dy Q Q' rx ry _ ⟨b, h, g⟩ k
  obtain ⟨e1, e2⟩ := eqF_ok rx ry h
  exact ⟨e1, by rw [e2]; exact k _ _ (.bl _) g⟩
theorem o2_ne : Op2 K rNe gNe := by
  intro x y F H dx dy Q Q' rx ry _ ⟨b, h, g⟩ k
  obtain ⟨e1, e2⟩ := eqF_ok rx ry h
  exact ⟨e1, by rw [e2]; exact k _ _ (.bl _) g⟩
theorem rep_non {F : Hp} {x : V} {d : D} (r : Rep K F x d) : decide (x = .non) = d.isNon := by
  cases r <;> simp [D.isNon]
theorem o2_isN : Op2 K (fun x y H Q => y = .non ∧ Q (.bl (decide (x = .non))) H) gIsN := by
  intro x y F H dx dy Q Q' rx ry _ g k
  unfold gIsN at g
  split at g
  · cases ry; exact ⟨rfl, by rw [rep_non rx]; exact k _ _ (.bl _) g⟩
  · exact g.elim
theorem o2_notN : Op2 K (fun x y H Q => y = .non ∧ Q (.bl (!decide (x = .non))) H) gNotN := by
  intro x y F H dx dy Q Q' rx ry _ g k
  unfold gNotN at g
  split at g
  · cases ry
    exact ⟨rfl, by rw [rep_non rx]; exact k _ _ (.bl _) g⟩
  · exact g.elim
theorem pd_lt (ha : PE X a (upE K ta)) (hb : PE X b (upE K tb)) : PE X (.Compare a [.Lt] [b] pos) (upE K (d2 gLt ta tb)) := df_cmp (op_lt.or op_lt_str) o2_lt ha hb (nomark _)
theorem pd_le (ha : PE X a (upE K ta)) (hb : PE X b (upE K tb)) : PE X (.Compare a [.LtE] [b] pos) (upE K (d2 gLe ta tb)) := df_cmp (op_le.or op_le_str) o2_le ha hb (nomark _)
theorem pd_gt (ha : PE X a (upE K ta)) (hb : PE X b (upE K tb)) : PE X (.Compare a [.Gt] [b] pos) (upE K (d2 gGt ta tb)) := df_cmp (op_gt.or op_gt_str) o2_gt ha hb (nomark _)
theorem pd_ge (ha : PE X a (upE K ta)) (hb : PE X b (upE K tb)) : PE X (.Compare a [.GtE] [b] pos) (upE K (d2 gGe ta tb)) := df_cmp (op_ge.or op_ge_str) o2_ge ha hb (nomark _)
theorem pd_eq (ha : PE X a (upE K ta)) (hb : PE X b (upE K tb)) : PE X (.Compare a [.Eq] [b] pos) (upE K (d2 gEq ta tb)) := df_cmp op_eq o2_eq ha hb (nomark _)
theorem pd_ne (ha : PE X a (upE K ta)) (hb : PE X b (upE K tb)) : PE X (.Compare a [.NotEq] [b] pos) (upE K (d2 gNe ta tb)) := df_cmp op_ne o2_ne ha hb (nomark _)
theorem pd_isN (ha : PE X a (upE K ta)) (hb : PE X b (upE K tb)) : PE X (.Compare a [.Is] [b] pos) (upE K (d2 gIsN ta tb)) := df_cmp op_isN o2_isN ha hb (nomark _)
theorem pd_notN (ha : PE X a (upE K ta)) (hb : PE X b (upE K tb)) : PE X (.Compare a [.IsNot] [b] pos) (upE K (d2 gNotN ta tb)) := df_cmp op_notN o2_notN ha hb (nomark _)
/-- a <= b <= c -/
def dChain (g g' : D → D → (D → Prop) → Prop) (ta tb tc : DE) : DE := fun δ Q => ta δ fun δ1 x => tb δ1 fun δ2 y => g x y fun z => ∃ k, z = .bl k ∧ (if k = true then tc δ2 fun δ3 u => g' y u fun d => Q δ3 d else Q δ2 (.bl false))
theorem df_chain {op op' : CmpOp} {r r' : R2} {g g' : D → D → (D → Prop) → Prop} (hr : OpR X (compareOp op) r) (ho : Op2 K r g) (hr' : OpR X (compareOp op') r') (ho' : Op2 K r' g') (ha : PE X a (upE K ta)) (hb : PE X b (upE K tb)) (hc : PE X c (upE K tc)) (hm : lastMarks [op, op'] [b, c] = false) : PE X (.Compare a [op, op'] [b, c] pos) (upE K (dChain g g' ta tb tc)) :=
  pimp (pe_chain hr hr' ha hb hc hm) fun σ H Q ⟨F0, H0, P, δ, F, Q', R, ht, k⟩ => by
    refine ⟨F0, H0, P, δ, F, _, R, ht, fun δ1 F1 H1 x dx R1 e1 rx ht => ?_⟩
    refine ⟨F0, H0, P, δ1, F1, _, R1, ht, fun δ2 F2 H2 y dy R2 e2 ry ht => ?_⟩
    refine ho x y F2 H2 dx dy _ _ (rx.mono e2) ry R2.e3 ht fun v d rv ⟨q, e, ht⟩ => ?_
    subst e
    cases rv
    refine ⟨q, rfl, ?_⟩
    cases q with
    | true =>
      rw [if_pos rfl] at ht ⊢
      refine ⟨F0, H0, P, δ2, F2, _, R2, ht, fun δ3 F3 H3 u du R3 e3 ru ht => ?_⟩
      exact ho' y u F3 H3 dy du Q _ (ry.mono e3) ru R3.e3 ht fun v d rv q => k δ3 F3 H3 v d R3 ((e1.trans e2).trans e3) rv q
    | false =>
      rw [if_neg (by decide)] at ht ⊢
      exact k δ2 F2 H2 _ _ R2 (e1.trans e2) (.bl false) ht
theorem pd_lele (ha : PE X a (upE K ta)) (hb : PE X b (upE K tb)) (hc : PE X c (upE K tc)) (hm : lastMarks [.LtE, .LtE] [b, c] = false := by with_unfolding_all rfl) : PE X (.Compare a [.LtE, .LtE] [b, c] pos) (upE K (dChain gLe gLe ta tb tc)) := df_chain (op_le.or op_le_str) o2_le (op_le.or op_le_str) o2_le ha hb hc hm

/-! ### unary -/
def dNeg (ta : DE) : DE := fun δ Q => ta δ fun δ1 x => ∃ i, x = .int i ∧ Q δ1 (.int (-i))
theorem pd_neg (ha : PE X a (upE K ta)) : PE X (.UnaryOp .USub a pos) (upE K (dNeg ta)) := pimp (pe_un un_neg ha) fun σ H Q ⟨F0, H0, P, δ, F, Q', R, ht, k⟩ => by
  refine ⟨F0, H0, P, δ, F, _, R, ht, fun δ1 F1 H1 x dx R1 e1 rx ⟨i, e, ht⟩ => ?_⟩
  subst e
  cases rx
  exact ⟨i, rfl, k δ1 F1 H1 _ _ R1 e1 (.int _) ht⟩
/-! ### tests -/
variable {tA tB : DT} {rest : List Expr}
def dTst (ta : DE) : DT := fun δ Q => ta δ fun δ1 x => ∃ k, x = .bl k ∧ Q δ1 k
theorem qt (h : PE X e (upE K ta)) (he : ∀ whole, isTrue e X.env whole = (do let v ← whole; standAt e.pos; holding [v] (truthy v)) := by intro _; rfl) : PT X e (upT K (dTst ta)) := pimpT (pt_val h he) fun σ H Q ⟨F0, H0, P, δ, F, Q', R, ht, k⟩ => by
  refine ⟨F0, H0, P, δ, F, _, R, ht, fun δ1 F1 H1 x dx R1 e1 rx ⟨b, e, ht⟩ => ?_⟩
  subst e
  cases rx
  exact ⟨b, rfl, k δ1 F1 H1 _ R1 e1 ht⟩
/-- a comparison as a test -/
theorem qt_cmpR {op : CmpOp} {r : R2} {g : D → D → (D → Prop) → Prop} (hr : OpR X (compareOp op) r) (ho : Op2 K r g) (ha : PE X a (upE K ta)) (hb : PE X b (upE K tb)) (hm : behindInMarks op b = false) : PT X (.Compare a [op] [b] pos) (upT K (dTst (d2 g ta tb))) :=
  pimpT (pt_cmpR hr ha hb hm) fun σ H Q ⟨F0, H0, P, δ, F, Q', R, ht, k⟩ => by
    refine ⟨F0, H0, P, δ, F, _, R, ht, fun δ1 F1 H1 x dx R1 e1 rx ht => ?_⟩
    refine ⟨F0, H0, P, δ1, F1, _, R1, ht, fun δ2 F2 H2 y dy R2 e2 ry ht => ?_⟩
    refine ho x y F2 H2 dx dy _ _ (rx.mono e2) ry R2.e3 ht fun v d rv ⟨q, e, ht⟩ => ?_
    subst e
    cases rv
    exact ⟨q, rfl, k δ2 F2 H2 _ R2 (e1.trans e2) ht⟩
theorem qt_chainR {op op' : CmpOp} {r r' : R2} {g g' : D → D → (D → Prop) → Prop} (hr : OpR X (compareOp op) r) (ho : Op2 K r g) (hr' : OpR X (compareOp op') r') (ho' : Op2 K r' g') (ha : PE X a (upE K ta)) (hb : PE X b (upE K tb)) (hc : PE X c (upE K tc)) (hm : lastMarks [op, op'] [b, c] = false) : PT X (.Compare a [op, op'] [b, c] pos) (upT K (dTst (dChain g g' ta tb tc))) :=
  pimpT (pt_chain hr hr' ha hb hc hm) fun σ H Q ⟨F0, H0, P, δ, F, Q', R, ht, k⟩ => by
    refine ⟨F0, H0, P, δ, F, _, R, ht, fun δ1 F1 H1 x dx R1 e1 rx ht => ?_⟩
    refine ⟨F0, H0, P, δ1, F1, _, R1, ht, fun δ2 F2 H2 y dy R2 e2 ry ht => ?_⟩
    refine ho x y F2 H2 dx dy _ _ (rx.mono e2) ry R2.e3 ht fun v d rv ⟨q, e, ht⟩ => ?_
    subst e
    cases rv
    refine ⟨q, rfl, ?_⟩
    cases q with
    | true =>
      rw [if_pos rfl] at ht ⊢
      refine ⟨F0, H0, P, δ2, F2, _, R2, ht, fun δ3 F3 H3 u du R3 e3 ru ht => ?_⟩
      refine ho' y u F3 H3 dy du _ _ (ry.mono e3) ru R3.e3 ht fun v d rv ⟨q, e, ht⟩ => ?_
      subst e
      cases rv
      exact ⟨q, rfl, k δ3 F3 H3 _ R3 ((e1.trans e2).trans e3) ht⟩
    | false =>
      rw [if_neg (by decide)] at ht ⊢
      obtain ⟨q, e, ht⟩ := ht
      cases e
      exact ⟨_, rfl, k δ2 F2 H2 _ R2 (e1.trans e2) ht⟩
theorem qt_lt (ha : PE X a (upE K ta)) (hb : PE X b (upE K tb)) : PT X (.Compare a [.Lt] [b] pos) (upT K (dTst (d2 gLt ta tb))) := qt_cmpR (op_lt.or op_lt_str) o2_lt ha hb (nomark _)
theorem qt_le (ha : PE X a (upE K ta)) (hb : PE X b (upE K tb)) : PT X (.Compare a [.LtE] [b] pos) (upT K (dTst (d2 gLe ta tb))) := qt_cmpR (op_le.or op_le_str) o2_le ha hb (nomark _)
theorem qt_gt (ha : PE X a (upE K ta)) (hb : PE X b (upE K tb)) : PT X (.Compare a [.Gt] [b] pos) (upT K (dTst (d2 gGt ta tb))) := qt_cmpR (op_gt.or op_gt_str) o2_gt ha hb (nomark _)
theorem qt_ge (ha : PE X a (upE K ta)) (hb : PE X b (upE K tb)) : PT X (.Compare a [.GtE] [b] pos) (upT K (dTst (d2 gGe ta tb))) := qt_cmpR (op_ge.or op_ge_str) o2_ge ha hb (nomark _)
theorem qt_eq (ha : PE X a (upE K ta)) (hb : PE X b (upE K tb)) : PT X (.Compare a [.Eq] [b] pos) (upT K (dTst (d2 gEq ta tb))) := qt_cmpR op_eq o2_eq ha hb (nomark _)
theorem qt_ne (ha : PE X a (upE K ta)) (hb : PE X b (upE K tb)) : PT X (.Compare a [.NotEq] [b] pos) (upT K (dTst (d2 gNe ta tb))) := qt_cmpR op_ne o2_ne ha hb (nomark _)
theorem qt_isN (ha : PE X a (upE K ta)) (hb : PE X b (upE K tb)) : PT X (.Compare a [.Is] [b] pos) (upT K (dTst (d2 gIsN ta tb))) := qt_cmpR op_isN o2_isN ha hb (nomark _)
theorem qt_notN (ha : PE X a (upE K ta)) (hb : PE X b (upE K tb)) : PT X (.Compare a [.IsNot] [b] pos) (upT K (dTst (d2 gNotN ta tb))) := qt_cmpR op_notN o2_notN ha hb (nomark _)
theorem qt_lele (ha : PE X a (upE K ta)) (hb : PE X b (upE K tb)) (hc : PE X c (upE K tc)) (hm : lastMarks [.LtE, .LtE] [b, c] = false := by with_unfolding_all rfl) : PT X (.Compare a [.LtE, .LtE] [b, c] pos) (upT K (dTst (dChain gLe gLe ta tb tc))) := qt_chainR (op_le.or op_le_str) o2_le (op_le.or op_le_str) o2_le ha hb hc hm
def dAnd (t u : DT) : DT := fun δ Q => t δ fun δ1 c => if c = true then u δ1 Q else Q δ1 false
def dOr (t u : DT) : DT := fun δ Q => t δ fun δ1 c => if c = true then Q δ1 true else u δ1 Q
def dNot (t : DT) : DT := fun δ Q => t δ fun δ1 c => Q δ1 (!c)
theorem qw_and1 (ha : PT X a (upT K tA)) : PW X (.BoolOp .And [a] pos) (upT K tA) := pw_and1 ha
theorem qw_or1 (ha : PT X a (upT K tA)) : PW X (.BoolOp .Or [a] pos) (upT K tA) := pw_or1 ha
theorem qw_and (ha : PT X a (upT K tA)) (hb : PW X (.BoolOp .And (b :: rest) pos) (upT K tB)) : PW X (.BoolOp .And (a :: b :: rest) pos) (upT K (dAnd tA tB)) := pimpW (pw_and ha hb) fun σ H Q ⟨F0, H0, P, δ, F, Q', R, ht, k⟩ => by
  refine ⟨F0, H0, P, δ, F, _, R, ht, fun δ1 F1 H1 c R1 e1 ht => ?_⟩
  cases c with
  | true =>
    rw [if_pos rfl] at ht ⊢
    exact ⟨F0, H0, P, δ1, F1, _, R1, ht, fun δ2 F2 H2 b R2 e2 q => k δ2 F2 H2 b R2 (e1.trans e2) q⟩
  | false =>
    rw [if_neg (by decide)] at ht ⊢
    exact k δ1 F1 H1 _ R1 e1 ht
theorem qw_or (ha : PT X a (upT K tA)) (hb : PW X (.BoolOp .Or (b :: rest) pos) (upT K tB)) : PW X (.BoolOp .Or (a :: b :: rest) pos) (upT K (dOr tA tB)) := pimpW (pw_or ha hb) fun σ H Q ⟨F0, H0, P, δ, F, Q', R, ht, k⟩ => by
  refine ⟨F0, H0, P, δ, F, _, R, ht, fun δ1 F1 H1 c R1 e1 ht => ?_⟩
  cases c with
  | false =>
    rw [if_neg (by decide)] at ht ⊢
    exact ⟨F0, H0, P, δ1, F1, _, R1, ht, fun δ2 F2 H2 b R2 e2 q => k δ2 F2 H2 b R2 (e1.trans e2) q⟩
  | true =>
    rw [if_pos rfl] at ht ⊢
    exact k δ1 F1 H1 _ R1 e1 ht
theorem qt_not (ha : PT X a (upT K tA)) : PT X (.UnaryOp .Not a pos) (upT K (dNot tA)) := pimpT (pt_not ha) fun σ H Q ⟨F0, H0, P, δ, F, Q', R, ht, k⟩ =>
  ⟨F0, H0, P, δ, F, _, R, ht, fun δ1 F1 H1 c R1 e1 ht => k δ1 F1 H1 _ R1 e1 ht⟩
/-- the same as values -/
def dAndV (ta tb : DE) : DE := fun δ Q => ta δ fun δ1 x => ∃ c, x = .bl c ∧ if c = true then tb δ1 Q else Q δ1 (.bl false)
def dOrV (ta tb : DE) : DE := fun δ Q => ta δ fun δ1 x => ∃ c, x = .bl c ∧ if c = true then Q δ1 (.bl true) else tb δ1 Q
def dNotV (ta : DE) : DE := fun δ Q => ta δ fun δ1 x => ∃ c, x = .bl c ∧ Q δ1 (.bl (!c))
theorem pd_one {op : BoolOp} (ha : PE X a (upE K ta)) : PE X (.BoolOp op [a] pos) (upE K ta) := pe_one ha
theorem pd_and (ha : PE X a (upE K ta)) (hb : PE X (.BoolOp .And (b :: rest) pos) (upE K tb)) : PE X (.BoolOp .And (a :: b :: rest) pos) (upE K (dAndV ta tb)) := pimp (pe_and ha hb) fun σ H Q ⟨F0, H0, P, δ, F, Q', R, ht, k⟩ => by
  refine ⟨F0, H0, P, δ, F, _, R, ht, fun δ1 F1 H1 x dx R1 e1 rx ⟨c, e, ht⟩ => ?_⟩
  subst e
  cases rx
  refine ⟨c, rfl, ?_⟩
  cases c with
  | true =>
    rw [if_pos rfl] at ht ⊢
    exact ⟨F0, H0, P, δ1, F1, _, R1, ht, fun δ2 F2 H2 v d R2 e2 r q => k δ2 F2 H2 v d R2 (e1.trans e2) r q⟩
  | false =>
    rw [if_neg (by decide)] at ht ⊢
    exact k δ1 F1 H1 _ _ R1 e1 (.bl _) ht
theorem pd_or (ha : PE X a (upE K ta)) (hb : PE X (.BoolOp .Or (b :: rest) pos) (upE K tb)) : PE X (.BoolOp .Or (a :: b :: rest) pos) (upE K (dOrV ta tb)) := pimp (pe_or ha hb) fun σ H Q ⟨F0, H0, P, δ, F, Q', R, ht, k⟩ => by
  refine ⟨F0, H0, P, δ, F, _, R, ht, fun δ1 F1 H1 x dx R1 e1 rx ⟨c, e, ht⟩ => ?_⟩
  subst e
  cases rx
  refine ⟨c, rfl, ?_⟩
  cases c with
  | false =>
    rw [if_neg (by decide)] at ht ⊢
    exact ⟨F0, H0, P, δ1, F1, _, R1, ht, fun δ2 F2 H2 v d R2 e2 r q => k δ2 F2 H2 v d R2 (e1.trans e2) r q⟩
  | true =>
    rw [if_pos rfl] at ht ⊢
    exact k δ1 F1 H1 _ _ R1 e1 (.bl _) ht
theorem pd_not (ha : PE X a (upE K ta)) : PE X (.UnaryOp .Not a pos) (upE K (dNotV ta)) := pimp (pe_not ha) fun σ H Q ⟨F0, H0, P, δ, F, Q', R, ht, k⟩ => by
  refine ⟨F0, H0, P, δ, F, _, R, ht, fun δ1 F1 H1 x dx R1 e1 rx ⟨c, e, ht⟩ => ?_⟩
  subst e
  cases rx
  exact ⟨c, rfl, k δ1 F1 H1 _ _ R1 e1 (.bl _) ht⟩
def dIf (t : DT) (ta tb : DE) : DE := fun δ Q => t δ fun δ1 c => if c = true then ta δ1 Q else tb δ1 Q
theorem pd_if {c : Expr} (hc : PT X c (upT K tA)) (ha : PE X a (upE K ta)) (hb : PE X b (upE K tb)) : PE X (.IfExp c a b pos) (upE K (dIf tA ta tb)) := pimp (pe_ifExp hc ha hb) fun σ H Q ⟨F0, H0, P, δ, F, Q', R, ht, k⟩ => by
  refine ⟨F0, H0, P, δ, F, _, R, ht, fun δ1 F1 H1 c R1 e1 ht => ?_⟩
  cases c with
  | false =>
    rw [if_neg (by decide)] at ht ⊢
    exact ⟨F0, H0, P, δ1, F1, _, R1, ht, fun δ2 F2 H2 v d R2 e2 r q => k δ2 F2 H2 v d R2 (e1.trans e2) r q⟩
  | true =>
    rw [if_pos rfl] at ht ⊢
    exact ⟨F0, H0, P, δ1, F1, _, R1, ht, fun δ2 F2 H2 v d R2 e2 r q => k δ2 F2 H2 v d R2 (e1.trans e2) r q⟩
end
end Mv

namespace Mv
open PySem PySem.Spec PyProof.Rows L2

/-! dicts at the D-level -/
section
variable {κ α : Type} [DecidableEq κ]
def valG (kvs : List (κ × α)) (k : κ) : Option α := (kvs.find? fun kv => decide (kv.1 = k)).map (·.2)
def putG (kvs : List (κ × α)) (k : κ) (v : α) : List (κ × α) :=
  if (kvs.any fun kv => decide (kv.1 = k)) = true then kvs.map fun kv => if kv.1 = k then (kv.1, v) else kv else kvs ++ [(k, v)]
def dropG (kvs : List (κ × α)) (k : κ) : List (κ × α) := kvs.filter fun kv => decide (kv.1 ≠ k)
end
def keyD : Key → D
  | .inl i => .int i
  | .inr s => .str s
def dkey : D → Option Key
  | .int i => some (.inl i)
  | .str s => some (.inr s)
  | _ => none
def dkeys : List D → Option (List Key)
  | [] => some []
  | d :: ds => match dkey d, dkeys ds with
    | some k, some ks => some (k :: ks)
    | _, _ => none
def tkey : D → Option (List Key)
  | .tup ds => dkeys ds
  | _ => none
theorem dkeys_map : ∀ ks : List Key, dkeys (ks.map keyD) = some ks
  | [] => rfl
  | k :: ks => by
    have h := dkeys_map ks
    cases k <;> simp [dkeys, dkey, keyD, h]
section
variable {K : PySem.W.Frag} {F : Hp}
theorem rep_key {v : V} {d : D} {k : Key} (r : Rep K F v d) (h : dkey d = some k) : v = kV k := by
  cases r <;> simp [dkey] at h <;> subst h <;> rfl
theorem rep_keys : ∀ {vs : List V} {ds : List D} {ks : List Key}, RepL K F vs ds → dkeys ds = some ks → vs = ks.map kV
  | _, _, ks, .nil, h => by simp [dkeys] at h; subst h; rfl
  | _, _, ks, .cons (d := d) (ds := ds) r t, h => by
    unfold dkeys at h
    split at h
    · rename_i k ks' e1 e2
      cases h
      rw [rep_key r e1, rep_keys t e2]; rfl
    · cases h
theorem key_rep : ∀ k : Key, Rep K F (kV k) (keyD k)
  | .inl i => .int i
  | .inr s => .str s
theorem keys_rep : ∀ ks : List Key, RepL K F (ks.map kV) (ks.map keyD)
  | [] => .nil
  | k :: ks => .cons (key_rep k) (keys_rep ks)
theorem dkey_eq {d : D} {k : Key} (h : dkey d = some k) : d = keyD k := by
  cases d <;> simp [dkey] at h <;> subst h <;> rfl
/-- a list of pairs, represented: keys alike -/
inductive RepG (K : PySem.W.Frag) (F : Hp) {κ : Type} : List (κ × V) → List (κ × D) → Prop
  | nil : RepG K F [] []
  | cons {k : κ} {v : V} {vs : List (κ × V)} {d : D} {ds : List (κ × D)} : Rep K F v d → RepG K F vs ds → RepG K F ((k, v) :: vs) ((k, d) :: ds)
theorem RepK.g : ∀ {ws : List (Key × V)} {kvs : List (Key × D)}, RepK K F ws kvs → RepG K F ws kvs
  | _, _, .nil => .nil
  | _, _, .cons r t => .cons r (RepK.g t)
theorem RepT.g : ∀ {ws : List (List Key × V)} {kvs : List (List Key × D)}, RepT K F ws kvs → RepG K F ws kvs
  | _, _, .nil => .nil
  | _, _, .cons r t => .cons r (RepT.g t)
theorem RepG.k : ∀ {ws : List (Key × V)} {kvs : List (Key × D)}, RepG K F ws kvs → RepK K F ws kvs
  | _, _, .nil => .nil
  | _, _, .cons r t => .cons r (RepG.k t)
theorem RepG.t : ∀ {ws : List (List Key × V)} {kvs : List (List Key × D)}, RepG K F ws kvs → RepT K F ws kvs
  | _, _, .nil => .nil
  | _, _, .cons r t => .cons r (RepG.t t)
variable {κ : Type} [DecidableEq κ]
theorem RepG.length {ws : List (κ × V)} {kvs : List (κ × D)} (h : RepG K F ws kvs) : ws.length = kvs.length := by
  induction h with
  | nil => rfl
  | cons _ _ ih => simp [ih]
theorem RepG.keys {ws : List (κ × V)} {kvs : List (κ × D)} (h : RepG K F ws kvs) : ws.map (·.1) = kvs.map (·.1) := by
  induction h with
  | nil => rfl
  | cons _ _ ih => simp [ih]
theorem RepG.val {ws : List (κ × V)} {kvs : List (κ × D)} (h : RepG K F ws kvs) (k : κ) : (∃ v d, valV ws k = some v ∧ valG kvs k = some d ∧ Rep K F v d) ∨ (valV ws k = none ∧ valG kvs k = none) := by
  induction h with
  | nil => exact .inr ⟨rfl, rfl⟩
  | @cons k' v vs d ds r t ih =>
    by_cases e : k' = k
    · exact .inl ⟨v, d, by simp [valV, e], by simp [valG, e], r⟩
    · have e1 : valV ((k', v) :: vs) k = valV vs k := by simp [valV, e]
      have e2 : valG ((k', d) :: ds) k = valG ds k := by simp [valG, e]
      rw [e1, e2]; exact ih
theorem RepG.any {ws : List (κ × V)} {kvs : List (κ × D)} (h : RepG K F ws kvs) (k : κ) : (ws.any fun kv => decide (kv.1 = k)) = (kvs.any fun kv => decide (kv.1 = k)) := by
  induction h with
  | nil => rfl
  | cons _ _ ih => simp [ih]
theorem RepG.app {ws us : List (κ × V)} {kvs es : List (κ × D)} (h : RepG K F ws kvs) (g : RepG K F us es) : RepG K F (ws ++ us) (kvs ++ es) := by
  induction h with
  | nil => exact g
  | cons r _ ih => exact .cons r ih
theorem RepG.put {ws : List (κ × V)} {kvs : List (κ × D)} (h : RepG K F ws kvs) (k : κ) {v : V} {d : D} (r : Rep K F v d) : RepG K F (putK ws k v) (putG kvs k d) := by
  unfold putK putG
  rw [h.any k]
  split
  · rename_i hx
    clear hx
    induction h with
    | nil => exact .nil
    | @cons k' v' vs d' ds r' t ih =>
      show RepG K F ((if k' = k then (k', v) else (k', v')) :: _) ((if k' = k then (k', d) else (k', d')) :: _)
      split
      · exact .cons r ih
      · exact .cons r' ih
  · exact h.app (.cons r .nil)
theorem RepG.drop {ws : List (κ × V)} {kvs : List (κ × D)} (h : RepG K F ws kvs) (k : κ) : RepG K F (dropK ws k) (dropG kvs k) := by
  unfold dropK dropG
  induction h with
  | nil => exact .nil
  | @cons k' v vs d ds r t ih =>
    by_cases e : k' = k
    · simpa [e] using ih
    · simp only [List.filter_cons, ne_eq, e, not_false_eq_true, decide_true, if_true]
      exact .cons r ih
theorem RepG.get {ws : List (κ × V)} {kvs : List (κ × D)} (h : RepG K F ws kvs) : ∀ {i : Nat} {k : κ} {d : D}, kvs[i]? = some (k, d) → ∃ v, ws[i]? = some (k, v) ∧ Rep K F v d := by
  induction h with
  | nil => intro i k d e; simp at e
  | cons r t ih =>
    intro i k d e
    cases i with
    | zero => simp at e; obtain ⟨rfl, rfl⟩ := e; exact ⟨_, rfl, r⟩
    | succ i => obtain ⟨v, q, r⟩ := ih (i := i) (by simpa using e); exact ⟨v, by simpa using q, r⟩
end

section
variable {X : Cx} {K : PySem.W.Frag} {e a b c : Expr} {es : List Expr} {ta tb tc te tk tv : DE} {tA tB : DT} {st : Stmt} {rest body : List Stmt} {t u : DS} {ts : DA} {pos : Pos}

/-! ### arguments, displays -/
def dNil : DA := fun δ Q => Q δ []
def dCons (te : DE) (ts : DA) : DA := fun δ Q => te δ fun δ1 d => ts δ1 fun δ2 ds => Q δ2 (d :: ds)
theorem pdn : PA X [] (upA K dNil) := pimpA pa_nil fun σ H Q ⟨F0, H0, P, δ, F, Q', R, ht, k⟩ => k δ F H _ _ R (Ex.refl F) .nil ht
theorem pdc (he : PE X e (upE K te)) (hr : PA X es (upA K ts)) (hs : starEach (e :: es) X.env = (false, eval e X.env) :: starEach es X.env := by rfl) : PA X (e :: es) (upA K (dCons te ts)) := pimpA (pa_cons he hr hs) fun σ H Q ⟨F0, H0, P, δ, F, Q', R, ht, k⟩ => by
  refine ⟨F0, H0, P, δ, F, _, R, ht, fun δ1 F1 H1 x dx R1 e1 rx ht => ?_⟩
  refine ⟨F0, H0, P, δ1, F1, _, R1, ht, fun δ2 F2 H2 vs ds R2 e2 rs ht => ?_⟩
  exact k δ2 F2 H2 _ _ R2 (e1.trans e2) (.cons (rx.mono e2) rs) ht
def dTup (ts : DA) : DE := fun δ Q => ts δ fun δ1 ds => ds.length ≤ sizeLine ∧ Q δ1 (.tup ds)
theorem pd_tup {x1} (h : PA X es (upA K ts)) : PE X (.Tuple es x1 pos) (upE K (dTup ts)) := pimp (pe_tup h) fun σ H Q ⟨F0, H0, P, δ, F, Q', R, ht, k⟩ => by
  refine ⟨F0, H0, P, δ, F, _, R, ht, fun δ1 F1 H1 vs ds R1 e1 rs ⟨hl, ht⟩ => ⟨by rw [rs.length]; exact hl, fun p hp => ?_⟩⟩
  have ex : Ex F1 (upd F1 p (.tup vs)) := Ex.new (R1.e3.nn hp)
  exact k δ1 _ _ _ _ (R1.newF hp) (e1.trans ex) (.tup upd_same (rs.mono ex)) ht
/-- a list display, a new list -/
def dLst (ts : DA) : DOw := fun δ Q => ts δ fun δ1 ds => ds.length ≤ sizeLine ∧ Q δ1 (.lst ds)
theorem RepS.fresh {F0 H0 : Hp} {P : Pl} {δ : Dl} {σ : L2.St} {F H : Hp} (R : RepS K F0 H0 P δ σ F H) {p : Addr} (h : H p = none) : p ∉ pk P := fun hp => (R.rsv' hp).2.2 h
theorem po_lst (h : PA X es (upA K ts)) : PE X (.List es pos) (upO K (dLst ts)) := pimp (pe_lst h) fun σ H Q ⟨F0, H0, P, δ, F, Q', R, ht, k⟩ => by
  refine ⟨F0, H0, P, δ, F, _, R, ht, fun δ1 F1 H1 vs ds R1 e1 rs ⟨hl, ht⟩ => ⟨by rw [rs.length]; exact hl, fun p hp => ?_⟩⟩
  exact k δ1 F1 _ p _ _ (R1.newP hp) (R1.fresh hp) e1 (show OwnAt K F1 _ p (.lst ds) from ⟨vs, upd_same, rs⟩) ht
def dNewK : DOw := fun δ Q => Q δ (.dk [])
def dNewT : DOw := fun δ Q => Q δ (.dt [])
theorem po_newK : PE X (.Dict [] [] pos) (upO K dNewK) := pimp pe_dnewK fun σ H Q ⟨F0, H0, P, δ, F, Q', R, ht, k⟩ => fun p hp => k δ F _ p _ _ (R.newP hp) (R.fresh hp) (Ex.refl F) (show OwnAt K F _ p (.dk []) from ⟨[], upd_same, .nil⟩) ht
theorem po_newT : PE X (.Dict [] [] pos) (upO K dNewT) := pimp pe_dnewT fun σ H Q ⟨F0, H0, P, δ, F, Q', R, ht, k⟩ => fun p hp => k δ F _ p _ _ (R.newP hp) (R.fresh hp) (Ex.refl F) (show OwnAt K F _ p (.dt []) from ⟨[], upd_same, .nil⟩) ht
/-- a new thing, frozen at once -/
def dFrz (t : DOw) : DE := fun δ Q => t δ fun δ1 o => Q δ1 o.d
theorem pfz {to : DOw} (h : PE X e (upO K to)) : PE X e (upE K (dFrz to)) := pimp (pe_plock h) fun σ H Q ⟨F0, H0, P, δ, F, Q', R, ht, k⟩ => by
  refine ⟨F0, H0, P, δ, F, _, R, ht, fun δ1 F1 H1 p hp0 o R1 hP e1 q ht => ?_⟩
  obtain ⟨ho, hh, mu, rp⟩ := q.rep (R1.rsv p hp0 (by simp)).2.1
  exact .inr ⟨p, ho, hh, mu, fun od => k δ1 _ _ _ _ (R1.frzP hP _) (e1.trans (Ex.new (R1.rsv p hp0 (by simp)).2.1)) (rp od) ht⟩

/-! ### blocks -/
def dNext : DS := fun D δ => D.nx δ
def dSeq (t u : DS) : DS := fun D δ => t { D with nx := u D } δ
theorem qs_nil : PSs X [] (upS K dNext) := pimpSs pss_nil fun D σ H ⟨F0, H0, δ, F, D', W⟩ => W.nx δ σ F H W.rep (Ex.refl F) W.t
theorem qs_cons (h1 : PS X st (upS K t)) (h2 : PSs X rest (upS K u)) : PSs X (st :: rest) (upS K (dSeq t u)) := pimpSs (pss_cons h1 h2) fun D σ H ⟨F0, H0, δ, F, D', W⟩ =>
  ⟨F0, H0, δ, F, { D' with nx := u D' }, ⟨W.rep, W.t, fun δ' σ' F' H' R ex q => ⟨F0, H0, δ', F', D', ⟨R, q, fun a b c d r x y => W.nx a b c d r (ex.trans x) y, fun a b c d r x y => W.bk a b c d r (ex.trans x) y, fun a b c d r x y => W.ct a b c d r (ex.trans x) y, W.rt⟩⟩, W.bk, W.ct, W.rt⟩⟩
theorem qs_one (h1 : PS X st (upS K t)) : PSs X [st] (upS K t) := pss_one h1
theorem ss_pass : PS X (.Pass pos) (upS K dNext) := pimpS ps_pass fun D σ H ⟨F0, H0, δ, F, D', W⟩ => W.nx δ σ F H W.rep (Ex.refl F) W.t
def dBreak : DS := fun D δ => D.bk δ
def dCont : DS := fun D δ => D.ct δ
theorem ss_break : PS X (.Break pos) (upS K dBreak) := pimpS ps_break fun D σ H ⟨F0, H0, δ, F, D', W⟩ => W.bk δ σ F H W.rep (Ex.refl F) W.t
theorem ss_cont : PS X (.Continue pos) (upS K dCont) := pimpS ps_continue fun D σ H ⟨F0, H0, δ, F, D', W⟩ => W.ct δ σ F H W.rep (Ex.refl F) W.t
theorem ss_doc {x j pos pos'} : PS X (.Expr (.Constant (.str x) j pos) pos') (upS K dNext) := pimpS ps_doc fun D σ H ⟨F0, H0, δ, F, D', W⟩ => W.nx δ σ F H W.rep (Ex.refl F) W.t
def dDrop (te : DE) : DS := fun D δ => te δ fun δ1 _ => D.nx δ1
theorem ss_expr (he : PE X e (upE K te)) (hs : swapsWith e none pos.line X.env = pure false := by rfl) : PS X (.Expr e pos) (upS K (dDrop te)) := pimpS (ps_expr he hs) fun D σ H ⟨F0, H0, δ, F, D', W⟩ =>
  ⟨F0, H0, [], δ, F, _, W.rep, W.t, fun δ1 F1 H1 x dx R1 e1 rx ht => W.nx δ1 σ F1 H1 R1 e1 ht⟩
def dRet (te : DE) : DS := fun D δ => te δ fun _ d => D.rt (.fz d)
theorem ss_ret (he : PE X e (upE K te)) : PS X (.Return (some e) pos) (upS K (dRet te)) := pimpS (ps_ret he) fun D σ H ⟨F0, H0, δ, F, D', W⟩ =>
  ⟨F0, H0, [], δ, F, _, W.rep, W.t, fun δ1 F1 H1 x dx R1 e1 rx ht => W.rt F1 H1 x (.fz dx) R1.grown rx ht⟩
def dRetO (to : DOw) : DS := fun D δ => to δ fun _ o => D.rt (.own o)
theorem ss_retO {to : DOw} (he : PE X e (upO K to)) : PS X (.Return (some e) pos) (upS K (dRetO to)) := pimpS (ps_ret he) fun D σ H ⟨F0, H0, δ, F, D', W⟩ =>
  ⟨F0, H0, [], δ, F, _, W.rep, W.t, fun δ1 F1 H1 p hp0 o R1 hP e1 q ht => by
    have r := R1.rsv p hp0 (by simp)
    exact W.rt F1 H1 _ (.own o) R1.grown ⟨p, rfl, r.1, r.2.1, q⟩ ht⟩
/-- return of a name: an owned thing goes with it -/
def dRetV (i : Nat) : DS := fun D δ => match δ[i]? with
  | some (some s) => D.rt s
  | _ => False
theorem ss_retV {i : Nat} (h : PE X e (tVar i)) : PS X (.Return (some e) pos) (upS K (dRetV i)) := pimpS (ps_ret h) fun D σ H ⟨F0, H0, δ, F, D', W⟩ => by
  have ht := W.t
  unfold dRetV at ht
  split at ht
  · rename_i s e1
    cases s with
    | fz d =>
      obtain ⟨v, ev, r⟩ := W.rep.fz e1
      exact ⟨v, ev, W.rt F H v (.fz d) W.rep.grown r ht⟩
    | own o =>
      obtain ⟨a, ev, q, n1, n2⟩ := W.rep.ownd e1
      exact ⟨_, ev, W.rt F H _ (.own o) W.rep.grown ⟨a, rfl, n2, n1, q⟩ ht⟩
  · exact ht.elim
def dRetN : DS := fun D _ => D.rt (.fz .non)
theorem ss_retN : PS X (.Return none pos) (upS K dRetN) := pimpS ps_retN fun D σ H ⟨F0, H0, δ, F, D', W⟩ => W.rt F H .non (.fz .non) W.rep.grown .non W.t
def dIfS (c : DT) (t u : DS) : DS := fun D δ => c δ fun δ1 b => if b = true then t D δ1 else u D δ1
theorem ss_if {a b : List Stmt} (hc : PT X c (upT K tA)) (ha : PSs X a (upS K t)) (hb : PSs X b (upS K u)) : PS X (.If c a b pos) (upS K (dIfS tA t u)) := pimpS (ps_if hc ha hb) fun D σ H ⟨F0, H0, δ, F, D', W⟩ => by
  refine ⟨F0, H0, [], δ, F, _, W.rep, W.t, fun δ1 F1 H1 q R1 e1 ht => ?_⟩
  cases q with
  | true =>
    rw [if_pos rfl] at ht ⊢
    exact ⟨F0, H0, δ1, F1, D', W.at R1 e1 ht⟩
  | false =>
    rw [if_neg (by decide)] at ht ⊢
    exact ⟨F0, H0, δ1, F1, D', W.at R1 e1 ht⟩

/-! ### targets -/
abbrev DG := D → Dl → (Dl → Prop) → Prop
abbrev DGs := List D → Dl → (Dl → Prop) → Prop
def upG (K : PySem.W.Frag) (g : DG) : TG := fun v σ H Q => ∃ F0 H0 P δ F d Q', RepS K F0 H0 P δ σ F H ∧ Rep K F v d ∧ g d δ Q' ∧ ∀ δ' σ' F' H', RepS K F0 H0 P δ' σ' F' H' → Ex F F' → Q' δ' → Q σ' H'
def upGs (K : PySem.W.Frag) (g : DGs) : TGs := fun vs σ H Q => ∃ F0 H0 P δ F ds Q', RepS K F0 H0 P δ σ F H ∧ RepL K F vs ds ∧ g ds δ Q' ∧ ∀ δ' σ' F' H', RepS K F0 H0 P δ' σ' F' H' → Ex F F' → Q' δ' → Q σ' H'
theorem gimp {tg : Expr} {g g' : TG} (h : PG X tg g) (i : ∀ v σ H Q, g' v σ H Q → g v σ H Q) : PG X tg g' := ⟨fun pins s σ H v u Q I r q => h.run pins s σ H v u Q I r (i v σ H Q q)⟩
theorem gimps {tg : List Expr} {g g' : TGs} (h : PGs X tg g) (i : ∀ v σ H Q, g' v σ H Q → g v σ H Q) : PGs X tg g' := ⟨fun pins s σ H v u Q I r q => h.run pins s σ H v u Q I r (i v σ H Q q)⟩
def gN (i : Nat) : DG := fun d δ Q => Q (δ.set i (some (.fz d)))
theorem ug_name {i : Nat} {tg : Expr} (h : PG X tg (gName i)) : PG X tg (upG K (gN i)) := gimp h fun v σ H Q ⟨F0, H0, P, δ, F, d, Q', R, r, g, k⟩ => k _ _ F H (R.setF i r) (Ex.refl F) g
def gsNil : DGs := fun ds δ Q => ds = [] ∧ Q δ
def gsCons (t : DG) (u : DGs) : DGs := fun ds δ Q => ∃ d r, ds = d :: r ∧ t d δ fun δ' => u r δ' Q
theorem ugs_nil : PGs X [] (upGs K gsNil) := gimps pgs_nil fun v σ H Q ⟨F0, H0, P, δ, F, d, Q', R, r, ⟨e, g⟩, k⟩ => by
  subst e
  cases r
  exact ⟨rfl, k _ _ F H R (Ex.refl F) g⟩
theorem ugs_cons {tg : Expr} {tgs : List Expr} {g : DG} {gs : DGs} (h1 : PG X tg (upG K g)) (h2 : PGs X tgs (upGs K gs)) (hs : (assignEach (tg :: tgs) X.env).map (·.2) = assign tg X.env :: (assignEach tgs X.env).map (·.2) := by rfl) : PGs X (tg :: tgs) (upGs K (gsCons g gs)) :=
  gimps (pgs_cons h1 h2 hs) fun v σ H Q ⟨F0, H0, P, δ, F, ds, Q', R, r, ⟨d, dr, e, g⟩, k⟩ => by
    subst e
    cases r with
    | cons r rr => exact ⟨_, _, rfl, F0, H0, P, δ, F, d, _, R, r, g, fun δ1 σ1 F1 H1 R1 e1 g1 => ⟨F0, H0, P, δ1, F1, dr, Q', R1, rr.mono e1, g1, fun δ2 σ2 F2 H2 R2 e2 q => k δ2 σ2 F2 H2 R2 (e1.trans e2) q⟩⟩
def gTp (n : Nat) (g : DGs) : DG := fun d δ Q => ∃ ds, d = .tup ds ∧ ds.length = n ∧ g ds δ Q
theorem ug_tup {tgs : List Expr} {kk : Nat} {gs : DGs} {n : Nat} (hc : X.calm = true) (h : PGs X tgs (upGs K gs)) (hK : X.K = K := by rfl)
    (hn : (assignEach tgs X.env).length = n := by rfl) (hst : (assignEach tgs X.env).findIdx? (·.1) = none := by rfl) : PG X (.Tuple tgs kk pos) (upG K (gTp n gs)) :=
  gimp (pg_tup hc h hn hst) fun v σ H Q ⟨F0, H0, P, δ, F, d, Q', R, r, ⟨ds, e, hl, g⟩, k⟩ => by
    subst e
    cases r with
    | tup h1 rs => exact ⟨_, _, rfl, .inl (.inl (R.e3 _ _ h1)), by rw [rs.length]; exact hl, F0, H0, P, δ, F, ds, Q', R, rs, g, k⟩
/-- name = e -/
def dAsg (te : DE) (g : DG) : DS := fun D δ => te δ fun δ1 d => g d δ1 D.nx
def dAsgO (i : Nat) (to : DOw) : DS := fun D δ => to δ fun δ1 o => D.nx (δ1.set i (some (.own o)))
theorem ss_asg {tg : Expr} {g : DG} (he : PE X e (upE K te)) (hg : PG X tg (upG K g)) (hs : swapsWithSole [tg] e pos.line X.env = pure false := by rfl) (hw : swappedStores [tg] e X.env = pure none := by rfl)
    (h1 : (assignEach [tg] X.env).map (·.2) = [assign tg X.env] := by rfl) : PS X (.Assign [tg] e pos) (upS K (dAsg te g)) := pimpS (ps_asg he hg hs hw h1) fun D σ H ⟨F0, H0, δ, F, D', W⟩ =>
  ⟨F0, H0, [], δ, F, _, W.rep, W.t, fun δ1 F1 H1 x dx R1 e1 rx ht => ⟨F0, H0, [], δ1, F1, dx, _, R1, rx, ht, fun δ2 σ2 F2 H2 R2 e2 q => W.nx δ2 σ2 F2 H2 R2 (e1.trans e2) q⟩⟩
theorem ss_set {i : Nat} {x : Str} {e : Expr} {te : DE} {pos' : Pos} (hN : X.N.Nodup) (hi : X.N[i]? = some x) (hx : Loc X.env.scope x) (he : PE X e (upE K te)) (hs : swapsWith e (some (.Name x pos')) pos.line X.env = pure false := by rfl) (hf : X.fn x = true ∨ X.env.scope.names.lookup x = some .local := by first | exact .inl rfl | exact .inr rfl | assumption) :
    PS X (.Assign [.Name x pos'] e pos) (upS K (dAsg te (gN i))) := pimpS (ps_set hN hi hx he hs hf) fun D σ H ⟨F0, H0, δ, F, D', W⟩ =>
  ⟨F0, H0, [], δ, F, _, W.rep, W.t, fun δ1 F1 H1 x dx R1 e1 rx ht => W.nx _ _ F1 H1 (R1.setF i rx) e1 ht⟩
theorem ss_setO {i : Nat} {x : Str} {e : Expr} {to : DOw} {pos' : Pos} (hN : X.N.Nodup) (hi : X.N[i]? = some x) (hx : Loc X.env.scope x) (he : PE X e (upO K to)) (hs : swapsWith e (some (.Name x pos')) pos.line X.env = pure false := by rfl) (hf : X.fn x = true ∨ X.env.scope.names.lookup x = some .local := by first | exact .inl rfl | exact .inr rfl | assumption) :
    PS X (.Assign [.Name x pos'] e pos) (upS K (dAsgO i to)) := pimpS (ps_set hN hi hx he hs hf) fun D σ H ⟨F0, H0, δ, F, D', W⟩ =>
  ⟨F0, H0, [], δ, F, _, W.rep, W.t, fun δ1 F1 H1 p hp0 o R1 hP e1 q ht => W.nx _ _ F1 H1 (R1.setO hP i q) e1 ht⟩

/-! ### methods of an owned list -/
def dApp (i : Nat) (te : DE) : DS := fun D δ => match δ[i]? with
  | some (some (.own (.lst _))) => te δ fun δ1 d => match δ1[i]? with
    | some (some (.own (.lst ds))) => ds.length < sizeLine ∧ D.nx (δ1.set i (some (.own (.lst (ds ++ [d])))))
    | _ => False
  | _ => False
theorem ss_app {o : Expr} {apos pos' : Pos} {i : Nat} (h : PE X (.Call (.Attribute o "append" apos) [e] [] pos) (tBM X.K "list" rAppend (tVar i) (tCons (upE K te) tNil))) (hs : swapsWith (.Call (.Attribute o "append" apos) [e] [] pos) none pos'.line X.env = pure false := by rfl) :
    PS X (.Expr (.Call (.Attribute o "append" apos) [e] [] pos) pos') (upS K (dApp i te)) := pimpS (ps_expr h hs) fun D σ H ⟨F0, H0, δ, F, D', W⟩ => by
  have ht := W.t
  unfold dApp at ht
  split at ht
  · rename_i ds0 e1
    obtain ⟨a, ea, ⟨vs, hv, rs⟩, n1, n2⟩ := W.rep.ownd e1
    refine ⟨_, ea, .inl ⟨rfl, vs, .inl (.inl hv)⟩, F0, H0, [], δ, F, _, W.rep, ht, fun δ1 F1 H1 x dx R1 ex1 rx ht => ?_⟩
    split at ht
    · rename_i ds e2
      obtain ⟨b, eb, ⟨ws, hw, rw⟩, n3, n4⟩ := R1.ownd e2
      rw [ea] at eb; cases eb
      refine ⟨a, ws, x, rfl, rfl, hw, by rw [rw.length]; exact ht.1, ?_⟩
      exact W.nx _ _ F1 _ (R1.write e2 ea (o' := .lst (ds ++ [dx])) (show OwnAt K F1 _ a (.lst (ds ++ [dx])) from ⟨_, upd_same, rw.app (.cons rx .nil)⟩)) ex1 ht.2
    · exact ht.elim
  · exact ht.elim
/-! ### loops -/
abbrev DI := Dl → (Dl → List D → Prop) → Prop
inductive YldD (K : PySem.W.Frag) (F H : Hp) : V → Hp → D → Prop
  | plain {x : V} {d : D} : Rep K F x d → YldD K F H x H d
  | pair {T : Addr} {vs : List V} {es : List D} : H T = none → RepL K F vs es → YldD K F H (.ref T) (upd H T (.tup vs)) (.tup es)
structure WalkD (K : PySem.W.Frag) (F : Hp) (J : It) (ds : List D) : Prop where
  go : ∀ i H, i < ds.length → Ex F H → J.go i H
  stop : ∀ H, Ex F H → J.stop ds.length H
  yld : ∀ i d F2 H x H', ds[i]? = some d → Ex F F2 → Ex F2 H → Tp F2 H → J.yld i H x H' → YldD K F2 H x H' d
def upI (K : PySem.W.Frag) (wi : DI) : TI := fun σ H R => ∃ F0 H0 P δ F Q', RepS K F0 H0 P δ σ F H ∧ wi δ Q' ∧ ∀ δ' F' H' J ds, RepS K F0 H0 P δ' σ F' H' → Ex F F' → WalkD K F' J ds → Q' δ' ds → R J H'
theorem iimp {tg it : Expr} {w w' : TI} (h : PI X tg it w) (i : ∀ σ H R, w' σ H R → w σ H R) : PI X tg it w' := ⟨fun pins s σ H R I q => h.run pins s σ H R I (i σ H R q)⟩
/-- a yielded thing in the state -/
theorem YldD.rep {F0 H0 : Hp} {P : Pl} {δ : Dl} {σ : L2.St} {F H : Hp} {x : V} {H' : Hp} {d : D} (y : YldD K F H x H' d) (R : RepS K F0 H0 P δ σ F H) : ∃ F', RepS K F0 H0 P δ σ F' H' ∧ Ex F F' ∧ Rep K F' x d := by
  cases y with
  | plain r => exact ⟨F, R, Ex.refl F, r⟩
  | @pair T vs es hT rs =>
    have e : Ex F (upd F T (.tup vs)) := Ex.new (R.e3.nn hT)
    exact ⟨_, R.newF hT, e, .tup upd_same (rs.mono e)⟩
def dFor (wi : DI) (g : DG) (tb : DS) : DS := fun D δ => wi δ fun δ1 ds => ∃ I : Nat → Dl → Prop, I 0 δ1 ∧
  (∀ i d δ2, ds[i]? = some d → I i δ2 → g d δ2 fun δ3 => tb { D with nx := I (i + 1), ct := I (i + 1), bk := D.nx } δ3) ∧ ∀ δ2, I ds.length δ2 → D.nx δ2
theorem ss_for {tg iter : Expr} {wi : DI} {g : DG} {tb : DS} (hp : PassesOwn (model X.prog X.w) X.A X.env X.xe) (hc : X.calm = true) (hi : PI X tg iter (upI K wi)) (hg : PG X tg (upG K g)) (hb : PSs X body (upS K tb))
    (hs : ∀ x, foldedSetIterable iter X.env x = pure x := by intro _; rfl) : PS X (.For tg iter body [] pos) (upS K (dFor wi g tb)) := pimpS (ps_for hp hc hi hg hb hs) fun D σ H ⟨F0, H0, δ, F, D', W⟩ => by
  refine ⟨F0, H0, [], δ, F, _, W.rep, W.t, fun δ1 F1 H1 J ds R1 e1 wk ⟨I, i0, is, id⟩ => ?_⟩
  refine ⟨fun i m σ2 H2 => m = ds.length - i ∧ i ≤ ds.length ∧ ∃ δ2 F2, RepS K F0 H0 [] δ2 σ2 F2 H2 ∧ Ex F1 F2 ∧ I i δ2, ⟨_, rfl, Nat.zero_le _, δ1, F1, R1, Ex.refl F1, i0⟩, ?_⟩
  rintro i m σ2 H2 ⟨rfl, hi, δ2, F2, R2, e2, q2⟩
  by_cases hlt : i < ds.length
  · have hd : ds[i]? = some ds[i] := List.getElem?_eq_getElem hlt
    refine .inr ⟨wk.go i H2 hlt (e2.trans R2.e3), fun σ3 H3 => ∃ δ3 F3, RepS K F0 H0 [] δ3 σ3 F3 H3 ∧ Ex F1 F3 ∧ I (i + 1) δ3, fun σ3 H3 ⟨δ3, F3, R3, e3, q3⟩ => ⟨_, by omega, rfl, hlt, δ3, F3, R3, e3, q3⟩, fun x H3 y => ?_⟩
    obtain ⟨F3, R3, e3, rx⟩ := (wk.yld i _ F2 H2 x H3 hd e2 R2.e3 R2.tp y).rep R2
    refine ⟨F0, H0, [], δ2, F3, _, _, R3, rx, is i _ δ2 hd q2, fun δ4 σ4 F4 H4 R4 e4 q4 => ?_⟩
    exact ⟨F0, H0, δ4, F4, _, ⟨R4, q4, fun δ5 σ5 F5 H5 R5 e5 q5 => ⟨δ5, F5, R5, ((e2.trans e3).trans e4).trans e5, q5⟩, fun δ5 σ5 F5 H5 R5 e5 q5 => W.nx δ5 σ5 F5 H5 R5 ((((e1.trans e2).trans e3).trans e4).trans e5) q5, fun δ5 σ5 F5 H5 R5 e5 q5 => ⟨δ5, F5, R5, ((e2.trans e3).trans e4).trans e5, q5⟩, W.rt⟩⟩
  · have e : i = ds.length := by omega
    subst e
    exact .inl ⟨wk.stop H2 (e2.trans R2.e3), W.nx δ2 σ2 F2 H2 R2 (e1.trans e2) (id δ2 q2)⟩
end
end Mv

namespace Mv
open PySem PySem.Spec PyProof.Rows L2

/-! ### a container as it stands: frozen, or owned by a slot -/
abbrev Vw := Sum Nat D
abbrev DV := Dl → (Dl → Vw → Prop) → Prop
def vwD (δ : Dl) : Vw → Option D
  | .inr d => some d
  | .inl i => match δ[i]? with
    | some (some (.own o)) => some o.d
    | _ => none
def VwOk (K : PySem.W.Frag) (σ : L2.St) (F : Hp) (v : V) : Vw → Prop
  | .inr d => Rep K F v d
  | .inl i => σ[i]? = some (some v)
def upV (K : PySem.W.Frag) (t : DV) : TE := fun σ H Q => ∃ F0 H0 P δ F Q', RepS K F0 H0 P δ σ F H ∧ t δ Q' ∧ ∀ δ' F' H' v x, RepS K F0 H0 P δ' σ F' H' → Ex F F' → VwOk K σ F' v x → Q' δ' x → Q v H'
/-- what a value shows at the heap H: its own object read at H, its parts frozen -/
inductive View (K : PySem.W.Frag) (F H : Hp) : V → D → Prop
  | flat {v d} : Rep K F v d → Ex F H → View K F H v d
  | lst {a vs ds} : H a = some (.lst vs) → RepL K F vs ds → View K F H (.ref a) (.lst ds)
  | dk {a ws kvs} : H a = some (.dK ws) → RepK K F ws kvs → View K F H (.ref a) (.dk kvs)
  | dt {a ws kvs} : H a = some (.dT ws) → RepT K F ws kvs → View K F H (.ref a) (.dt kvs)
theorem OwnAt.view {K : PySem.W.Frag} {F H : Hp} {a : Addr} {o : O} (h : OwnAt K F H a o) : View K F H (.ref a) o.d := by
  cases o with
  | lst ds => obtain ⟨vs, h1, h2⟩ := h; exact .lst h1 h2
  | dk ds => obtain ⟨vs, h1, h2⟩ := h; exact .dk h1 h2
  | dt ds => obtain ⟨vs, h1, h2⟩ := h; exact .dt h1 h2
section
variable {K : PySem.W.Frag} {F0 H0 F H F1 : Hp} {P : Pl} {δ : Dl} {σ : L2.St} {v : V} {x : Vw} {d : D}
theorem RepS.view (R : RepS K F0 H0 P δ σ F H) (ok : VwOk K σ F1 v x) (e : Ex F1 F) (h : vwD δ x = some d) : View K F H v d := by
  cases x with
  | inr d' => cases h; exact .flat (Rep.mono e ok) R.e3
  | inl i =>
    unfold vwD at h
    simp only at h
    split at h
    · rename_i o eo
      cases h
      obtain ⟨a, ea, q, _⟩ := R.ownd eo
      have ok' : σ[i]? = some (some v) := ok
      rw [ok'] at ea; cases ea
      exact q.view
    · cases h
theorem View.lst' {ds : List D} (h : View K F H v (.lst ds)) : ∃ a vs, v = .ref a ∧ Rd H a (.lst vs) ∧ RepL K F vs ds := by
  cases h with
  | flat r e => cases r with | lst h r => exact ⟨_, _, rfl, .inr ⟨_, e _ _ h⟩, r⟩
  | lst h r => exact ⟨_, _, rfl, .inl h, r⟩
theorem View.scr' {ns : List Int} (h : View K F H v (.scr ns)) : ∃ a, v = .ref a ∧ SqL K H a (ns.map V.int) := by
  cases h with
  | flat r e => cases r with | scr h => exact ⟨_, rfl, e.sql h⟩
theorem View.tup' {ds : List D} (h : View K F H v (.tup ds)) : ∃ a vs, v = .ref a ∧ H a = some (.tup vs) ∧ RepL K F vs ds := by
  cases h with
  | flat r e => cases r with | tup h r => exact ⟨_, _, rfl, e _ _ h, r⟩
theorem View.dk' {kvs : List (Key × D)} (h : View K F H v (.dk kvs)) : ∃ a ws, v = .ref a ∧ Rd H a (.dK ws) ∧ RepG K F ws kvs := by
  cases h with
  | flat r e => cases r with | dk h r => exact ⟨_, _, rfl, .inr ⟨_, e _ _ h⟩, r.g⟩
  | dk h r => exact ⟨_, _, rfl, .inl h, r.g⟩
theorem View.dt' {kvs : List (List Key × D)} (h : View K F H v (.dt kvs)) : ∃ a ws, v = .ref a ∧ Rd H a (.dT ws) ∧ RepG K F ws kvs := by
  cases h with
  | flat r e => cases r with | dt h r => exact ⟨_, _, rfl, .inr ⟨_, e _ _ h⟩, r.g⟩
  | dt h r => exact ⟨_, _, rfl, .inl h, r.g⟩
theorem View.str' {z : Str} (h : View K F H v (.str z)) : v = .str z := by
  cases h with
  | flat r e => cases r; rfl
theorem rep_tkey {F : Hp} {v : V} {d : D} {k : List Key} (r : Rep K F v d) (h : tkey d = some k) : ∃ b, v = .ref b ∧ F b = some (.tup (k.map kV)) := by
  cases r with
  | tup h1 rs => exact ⟨_, rfl, by rw [h1, rep_keys rs h]⟩
  | _ => simp [tkey] at h
/-- what a dict holds at a key -/
inductive DLook : D → D → Option D → Prop
  | k {kvs kd k} : dkey kd = some k → DLook (.dk kvs) kd (valG kvs k)
  | t {kvs kd k} : tkey kd = some k → DLook (.dt kvs) kd (valG kvs k)
theorem View.dget {kd : D} {r : Option D} {y : V} (h : View K F H v d) (ry : Rep K F y kd) (e : Ex F H) (l : DLook d kd r) : ∃ a o, v = .ref a ∧ DGet H a y o ∧ (∀ x, r = some x → ∃ u, o = some u ∧ Rep K F u x) ∧ (r = none → o = none) := by
  cases l with
  | @k kvs _ k hk =>
    obtain ⟨a, ws, rfl, hd, rg⟩ := h.dk'
    refine ⟨a, _, rfl, .inl ⟨ws, k, hd, rep_key ry hk, rfl⟩, fun x hx => ?_, fun hx => ?_⟩
    · rcases rg.val k with ⟨u, d', e1, e2, r⟩ | ⟨e1, e2⟩
      · rw [hx] at e2; cases e2; exact ⟨u, e1, r⟩
      · rw [hx] at e2; cases e2
    · rcases rg.val k with ⟨u, d', e1, e2, r⟩ | ⟨e1, e2⟩
      · rw [hx] at e2; cases e2
      · exact e1
  | @t kvs _ k hk =>
    obtain ⟨a, ws, rfl, hd, rg⟩ := h.dt'
    obtain ⟨b, rfl, hb⟩ := rep_tkey ry hk
    refine ⟨a, _, rfl, .inr ⟨ws, k, b, hd, rfl, e _ _ hb, rfl⟩, fun x hx => ?_, fun hx => ?_⟩
    · rcases rg.val k with ⟨u, d', e1, e2, r⟩ | ⟨e1, e2⟩
      · rw [hx] at e2; cases e2; exact ⟨u, e1, r⟩
      · rw [hx] at e2; cases e2
    · rcases rg.val k with ⟨u, d', e1, e2, r⟩ | ⟨e1, e2⟩
      · rw [hx] at e2; cases e2
      · exact e1
end

section
variable {X : Cx} {K : PySem.W.Frag} {e a b c o : Expr} {es : List Expr} {ta tb tc te tk tv : DE} {tw : DV} {st : Stmt} {rest body : List Stmt} {t u : DS} {ts : DA} {pos p apos cpos : Pos}

/-- a name as a container -/
def dVV (i : Nat) : DV := fun δ Q => match δ[i]? with
  | some (some (.fz d)) => Q δ (.inr d)
  | some (some (.own _)) => Q δ (.inl i)
  | _ => False
theorem vf_var {i : Nat} (h : PE X e (tVar i)) : PE X e (upV K (dVV i)) := pimp h fun σ H Q ⟨F0, H0, P, δ, F, Q', R, ht, k⟩ => by
  unfold dVV at ht
  split at ht
  · rename_i d e1
    obtain ⟨v, ev, r⟩ := R.fz e1
    exact ⟨v, ev, k δ F H v (.inr d) R (Ex.refl F) r ht⟩
  · rename_i o e1
    obtain ⟨a, ea, _⟩ := R.ownd e1
    exact ⟨_, ea, k δ F H _ (.inl i) R (Ex.refl F) ea ht⟩
  · exact ht.elim
theorem vdv (i : Nat) {x : Str} {pos : Pos} (hN : X.N[i]? = some x := by rfl) (hv : Vis X.env.scope x := by first | exact Or.inl rfl | exact Or.inr (Or.inl rfl) | exact Or.inr (Or.inr rfl)) (hd : (x == ("__debug__" : Str)) = false := by decide)
    (hcd : (x == ("__classdict__" : Str)) = false := by decide) : PE X (.Name x pos) (upV K (dVV i)) := vf_var (pv i hN hv hd hcd)
def dVF (te : DE) : DV := fun δ Q => te δ fun δ1 d => Q δ1 (.inr d)
theorem vf (h : PE X e (upE K te)) : PE X e (upV K (dVF te)) := pimp h fun σ H Q ⟨F0, H0, P, δ, F, Q', R, ht, k⟩ =>
  ⟨F0, H0, P, δ, F, _, R, ht, fun δ1 F1 H1 v d R1 e1 r q => k δ1 F1 H1 v (.inr d) R1 e1 r q⟩

/-- container, then a frozen operand, then what g does -/
def d2V (g : D → D → (D → Prop) → Prop) (tw : DV) (tb : DE) : DE := fun δ Q => tw δ fun δ1 x => tb δ1 fun δ2 y => ∃ d, vwD δ2 x = some d ∧ g d y fun r => Q δ2 r
def Op2V (K : PySem.W.Frag) (r : R2) (g : D → D → (D → Prop) → Prop) : Prop :=
  ∀ (x y : V) (F H : Hp) (dx dy : D) (Q : VK) (Q' : D → Prop), View K F H x dx → Rep K F y dy → Ex F H → g dx dy Q' → (∀ v d, Rep K F v d → Q' d → Q v H) → r x y H Q
theorem up2V {r : R2} {g : D → D → (D → Prop) → Prop} (ho : Op2V K r g) {σ : L2.St} {H : Hp} {Q : VK} (h : upE K (d2V g tw tb) σ H Q) : tOp r (upV K tw) (upE K tb) σ H Q := by
  obtain ⟨F0, H0, P, δ, F, Q', R, ht, k⟩ := h
  refine ⟨F0, H0, P, δ, F, _, R, ht, fun δ1 F1 H1 x vx R1 e1 rx ht => ?_⟩
  refine ⟨F0, H0, P, δ1, F1, _, R1, ht, fun δ2 F2 H2 y dy R2 e2 ry ⟨d, hd, ht⟩ => ?_⟩
  exact ho x y F2 H2 d dy Q _ (R2.view rx e2 hd) ry R2.e3 ht fun v d rv q => k δ2 F2 H2 v d R2 (e1.trans e2) rv q
/-- frozen operand, then the container -/
def d2W (g : D → D → (D → Prop) → Prop) (ta : DE) (tw : DV) : DE := fun δ Q => ta δ fun δ1 y => tw δ1 fun δ2 x => ∃ d, vwD δ2 x = some d ∧ g y d fun r => Q δ2 r
def Op2W (K : PySem.W.Frag) (r : R2) (g : D → D → (D → Prop) → Prop) : Prop :=
  ∀ (x y : V) (F H : Hp) (dx dy : D) (Q : VK) (Q' : D → Prop), Rep K F x dx → View K F H y dy → Ex F H → g dx dy Q' → (∀ v d, Rep K F v d → Q' d → Q v H) → r x y H Q
theorem up2W {r : R2} {g : D → D → (D → Prop) → Prop} (ho : Op2W K r g) {σ : L2.St} {H : Hp} {Q : VK} (h : upE K (d2W g ta tw) σ H Q) : tOp r (upE K ta) (upV K tw) σ H Q := by
  obtain ⟨F0, H0, P, δ, F, Q', R, ht, k⟩ := h
  refine ⟨F0, H0, P, δ, F, _, R, ht, fun δ1 F1 H1 x dx R1 e1 rx ht => ?_⟩
  refine ⟨F0, H0, P, δ1, F1, _, R1, ht, fun δ2 F2 H2 y vy R2 e2 ry ⟨d, hd, ht⟩ => ?_⟩
  exact ho x y F2 H2 dx d Q _ (rx.mono e2) (R2.view ry (Ex.refl F2) hd) R2.e3 ht fun v d rv q => k δ2 F2 H2 v d R2 (e1.trans e2) rv q

/-! ### x[i] -/
def gIx : D → D → (D → Prop) → Prop
  | .scr ns, .int i, Q => ∃ z, atI ns i = some z ∧ Q (.int z)
  | .lst ds, .int i, Q => ∃ d, atI ds i = some d ∧ Q d
  | .tup ds, .int i, Q => ∃ d, atI ds i = some d ∧ Q d
  | .str z, .int i, Q => ∃ c, z.length ≤ sizeLine ∧ atI z.cps.toList i = some c ∧ Q (.str ⟨#[c]⟩)
  | .dk kvs, kd, Q => ∃ k d, dkey kd = some k ∧ valG kvs k = some d ∧ Q d
  | .dt kvs, kd, Q => ∃ k d, tkey kd = some k ∧ valG kvs k = some d ∧ Q d
  | _, _, _ => False
def rIxD : R2 := fun x y H Q => ∃ a v, x = .ref a ∧ DGet H a y (some v) ∧ Q v H
theorem ix_dict (hu : X.A.units + 1 < cLine) : IxR X rIxD := by
  intro value slice pins s σ H x y v u Q I rx ry ⟨a, z, e, g, q⟩ hs
  subst e
  cases rx
  exact tail_any (dict_typeIs I g) PySem.F.slot_dict_getitem.lookup (d_getItem hu I g ry fun w' s3 I3 rw' => ⟨z, H, I3, rw', q⟩) hs
theorem atI_rep {F : Hp} {vs : List V} {ds : List D} {i : Int} {d : D} (r : RepL K F vs ds) (h : atI ds i = some d) : ∃ v, atI vs i = some v ∧ Rep K F v d := by
  unfold atI at h ⊢
  rw [r.length]
  cases e : ixN ds.length i with
  | none => rw [e] at h; cases h
  | some j => rw [e] at h; exact r.get h
theorem o2_ix : Op2V K (fun x y H Q => (rIxL K x y H Q ∨ rIxT K x y H Q ∨ rIxS x y H Q) ∨ rIxD x y H Q) gIx := by
  intro x y F H dx dy Q Q' rx ry ex g k
  unfold gIx at g
  split at g
  · obtain ⟨z, hz, g⟩ := g
    cases ry
    obtain ⟨a, rfl, hs⟩ := rx.scr'
    have hv : ∀ (ns : List Int) (i : Int), atI ns i = some z → atI (ns.map V.int) i = some (V.int z) := fun ns i h => by
      unfold atI at h ⊢
      rw [List.length_map]
      cases e : ixN ns.length i with
      | none => rw [e] at h; cases h
      | some j =>
        rw [e] at h
        have h' : ns[j]? = some z := h
        show (ns.map V.int)[j]? = _
        rw [List.getElem?_map, h']; rfl
    exact .inl (.inl ⟨_, _, _, _, rfl, rfl, hs, hv _ _ hz, k _ _ (.int _) g⟩)
  · obtain ⟨d, hd, g⟩ := g
    cases ry
    obtain ⟨a, vs, rfl, hs, rs⟩ := rx.lst'
    obtain ⟨v, hv, rv⟩ := atI_rep rs hd
    exact .inl (.inl ⟨_, _, _, _, rfl, rfl, .inl hs, hv, k _ _ rv g⟩)
  · obtain ⟨d, hd, g⟩ := g
    cases ry
    obtain ⟨a, vs, rfl, hs, rs⟩ := rx.tup'
    obtain ⟨v, hv, rv⟩ := atI_rep rs hd
    exact .inl (.inr (.inl ⟨_, _, _, _, rfl, rfl, .inl (.inl hs), hv, k _ _ rv g⟩))
  · obtain ⟨c, hl, hc, g⟩ := g
    cases ry
    cases rx.str'
    exact .inl (.inr (.inr ⟨_, _, _, rfl, rfl, hl, hc, k _ _ (.str _) g⟩))
  · obtain ⟨kk, d, hk, hd, g⟩ := g
    obtain ⟨a, o, rfl, dg, h1, _⟩ := rx.dget ry ex (.k hk)
    obtain ⟨u, rfl, ru⟩ := h1 d hd
    exact .inr ⟨_, _, rfl, dg, k _ _ ru g⟩
  · obtain ⟨kk, d, hk, hd, g⟩ := g
    obtain ⟨a, o, rfl, dg, h1, _⟩ := rx.dget ry ex (.t hk)
    obtain ⟨u, rfl, ru⟩ := h1 d hd
    exact .inr ⟨_, _, rfl, dg, k _ _ ru g⟩
  · exact g.elim
theorem pd_ix (hu : X.A.units + 1 < cLine) (ha : PE X a (upV K tw)) (hb : PE X b (upE K tb)) (hs : PlainIx b := by exact fun _ _ => rfl) (hK : X.K = K := by rfl) : PE X (.Subscript a b pos) (upE K (d2V gIx tw tb)) := by
  subst hK
  have h : IxR X (fun x y H Q => (rIxL X.K x y H Q ∨ rIxT X.K x y H Q ∨ rIxS x y H Q) ∨ rIxD x y H Q) := ix_seq.or (ix_dict hu)
  exact pimp (pe_ix h ha hb hs) fun _ _ _ q => up2V o2_ix q

/-! ### x in c -/
def flatD : D → Option V
  | .non => some .non | .bl b => some (.bl b) | .int i => some (.int i) | .str s => some (.str s)
  | _ => none
def flatL : List D → Option (List V)
  | [] => some []
  | d :: ds => match flatD d, flatL ds with
    | some v, some vs => some (v :: vs)
    | _, _ => none
theorem flat_rep {F : Hp} {v u : V} {d : D} (r : Rep K F v d) (h : flatD d = some u) : v = u ∧ flatV v = true := by
  cases r <;> simp [flatD] at h <;> subst h <;> exact ⟨rfl, rfl⟩
theorem flatL_rep {F : Hp} : ∀ {vs : List V} {ds : List D} {us : List V}, RepL K F vs ds → flatL ds = some us → vs = us ∧ vs.all flatV = true
  | _, _, us, .nil, h => by simp [flatL] at h; subst h; exact ⟨rfl, rfl⟩
  | _, _, us, .cons r t, h => by
    unfold flatL at h
    split at h
    · rename_i v vs e1 e2
      cases h
      obtain ⟨h1, h2⟩ := flat_rep r e1
      obtain ⟨h3, h4⟩ := flatL_rep t e2
      subst h1 h3
      exact ⟨rfl, by simp [h2, h4]⟩
    · cases h
def gInB (neg : Bool) : D → D → (D → Prop) → Prop
  | kd, .lst ds, Q => ∃ v vs, flatD kd = some v ∧ flatL ds = some vs ∧ Q (.bl (if neg then !inV v vs else inV v vs))
  | kd, .tup ds, Q => ∃ v vs, flatD kd = some v ∧ flatL ds = some vs ∧ Q (.bl (if neg then !inV v vs else inV v vs))
  | .str x, .str z, Q => ∃ c, x = ⟨#[c]⟩ ∧ Q (.bl (if neg then !decide (c ∈ z.cps.toList) else decide (c ∈ z.cps.toList)))
  | kd, .dk kvs, Q => ∃ k, dkey kd = some k ∧ Q (.bl (if neg then !(valG kvs k).isSome else (valG kvs k).isSome))
  | kd, .dt kvs, Q => ∃ k, tkey kd = some k ∧ Q (.bl (if neg then !(valG kvs k).isSome else (valG kvs k).isSome))
  | _, _, _ => False
def rDIn (neg : Bool) : R2 := fun y x H Q => ∃ a o, x = .ref a ∧ DGet H a y o ∧ Q (.bl (if neg then !o.isSome else o.isSome)) H
def rSgn (neg : Bool) : R2 := fun x y H Q => ∃ (c : Nat) (z : Str), x = .str ⟨#[c]⟩ ∧ y = .str z ∧ Q (.bl (if neg then !decide (c ∈ z.cps.toList) else decide (c ∈ z.cps.toList))) H
theorem op_dict_in (hu : X.A.units + 1 < cLine) : OpR X (compareOp .In) (rDIn false) := by
  intro pins s σ H x y v u Q I rx ry ⟨a, o, e, g, q⟩
  subst e
  cases ry
  exact d_in hu I g rx fun s3 I3 => ⟨.bl _, H, I3, rfl, q⟩
theorem op_dict_nin (hu : X.A.units + 1 < cLine) : OpR X (compareOp .NotIn) (rDIn true) := by
  intro pins s σ H x y v u Q I rx ry ⟨a, o, e, g, q⟩
  subst e
  cases ry
  exact d_notIn hu I g rx fun s3 I3 => ⟨.bl _, H, I3, rfl, q⟩
theorem o2_in (neg : Bool) : Op2W K (fun x y H Q => rIn K neg x y H Q ∨ rSgn neg x y H Q ∨ rDIn neg x y H Q) (gInB neg) := by
  intro x y F H dx dy Q Q' rx ry ex g k
  unfold gInB at g
  split at g
  · obtain ⟨v, vs, h1, h2, g⟩ := g
    obtain ⟨a, ws, rfl, hs, rs⟩ := ry.lst'
    obtain ⟨e1, f1⟩ := flat_rep rx h1
    obtain ⟨e2, f2⟩ := flatL_rep rs h2
    subst e1 e2
    exact .inl ⟨_, _, rfl, .inl (.inl hs), f1, f2, k _ _ (.bl _) g⟩
  · obtain ⟨v, vs, h1, h2, g⟩ := g
    obtain ⟨a, ws, rfl, hs, rs⟩ := ry.tup'
    obtain ⟨e1, f1⟩ := flat_rep rx h1
    obtain ⟨e2, f2⟩ := flatL_rep rs h2
    subst e1 e2
    exact .inl ⟨_, _, rfl, .inr (.inl (.inl hs)), f1, f2, k _ _ (.bl _) g⟩
  · obtain ⟨c, h1, g⟩ := g
    subst h1
    cases rx
    cases ry.str'
    exact .inr (.inl ⟨c, _, rfl, rfl, k _ _ (.bl _) g⟩)
  · obtain ⟨kk, h1, g⟩ := g
    rename_i kvs
    obtain ⟨a, o, rfl, dg, q1, q2⟩ := ry.dget rx ex (.k h1)
    refine .inr (.inr ⟨a, o, rfl, dg, ?_⟩)
    have e : o.isSome = (valG kvs kk).isSome := by
      cases hv : valG kvs kk with
      | none => rw [q2 hv]; rfl
      | some z => obtain ⟨u, rfl, _⟩ := q1 z hv; rfl
    rw [e]
    exact k _ _ (.bl _) g
  · obtain ⟨kk, h1, g⟩ := g
    rename_i kvs
    obtain ⟨a, o, rfl, dg, q1, q2⟩ := ry.dget rx ex (.t h1)
    refine .inr (.inr ⟨a, o, rfl, dg, ?_⟩)
    have e : o.isSome = (valG kvs kk).isSome := by
      cases hv : valG kvs kk with
      | none => rw [q2 hv]; rfl
      | some z => obtain ⟨u, rfl, _⟩ := q1 z hv; rfl
    rw [e]
    exact k _ _ (.bl _) g
  · exact g.elim
theorem op_inA (hu : X.A.units + 1 < cLine) : OpR X (compareOp .In) (fun x y H Q => rIn X.K false x y H Q ∨ rSgn false x y H Q ∨ rDIn false x y H Q) :=
  op_in_seq.or (OpR.or (r := rSgn false) op_in_sign (op_dict_in hu))
theorem op_ninA (hu : X.A.units + 1 < cLine) : OpR X (compareOp .NotIn) (fun x y H Q => rIn X.K true x y H Q ∨ rSgn true x y H Q ∨ rDIn true x y H Q) :=
  op_notIn_seq.or (OpR.or (r := rSgn true) op_notIn_sign (op_dict_nin hu))
theorem pd_in (hu : X.A.units + 1 < cLine) (ha : PE X a (upE K ta)) (hb : PE X b (upV K tw)) (hm : behindInMarks .In b = false := by rfl) (hK : X.K = K := by rfl) : PE X (.Compare a [.In] [b] pos) (upE K (d2W (gInB false) ta tw)) := by
  subst hK
  exact pimp (pe_cmpR (op_inA hu) ha hb hm) fun _ _ _ q => up2W (o2_in false) q
theorem pd_nin (hu : X.A.units + 1 < cLine) (ha : PE X a (upE K ta)) (hb : PE X b (upV K tw)) (hm : behindInMarks .NotIn b = false := by rfl) (hK : X.K = K := by rfl) : PE X (.Compare a [.NotIn] [b] pos) (upE K (d2W (gInB true) ta tw)) := by
  subst hK
  exact pimp (pe_cmpR (op_ninA hu) ha hb hm) fun _ _ _ q => up2W (o2_in true) q
theorem qt_w {op : CmpOp} {r : R2} {g : D → D → (D → Prop) → Prop} (hr : OpR X (compareOp op) r) (ho : Op2W K r g) (ha : PE X a (upE K ta)) (hb : PE X b (upV K tw)) (hm : behindInMarks op b = false) : PT X (.Compare a [op] [b] pos) (upT K (dTst (d2W g ta tw))) :=
  pimpT (pt_cmpR hr ha hb hm) fun σ H Q ⟨F0, H0, P, δ, F, Q', R, ht, k⟩ => by
    refine ⟨F0, H0, P, δ, F, _, R, ht, fun δ1 F1 H1 x dx R1 e1 rx ht => ?_⟩
    refine ⟨F0, H0, P, δ1, F1, _, R1, ht, fun δ2 F2 H2 y vy R2 e2 ry ⟨d, hd, ht⟩ => ?_⟩
    refine ho x y F2 H2 dx d _ _ (rx.mono e2) (R2.view ry (Ex.refl F2) hd) R2.e3 ht fun v d rv ⟨q, e, ht⟩ => ?_
    subst e
    cases rv
    exact ⟨q, rfl, k δ2 F2 H2 _ R2 (e1.trans e2) ht⟩
theorem qt_in (hu : X.A.units + 1 < cLine) (ha : PE X a (upE K ta)) (hb : PE X b (upV K tw)) (hm : behindInMarks .In b = false := by rfl) (hK : X.K = K := by rfl) : PT X (.Compare a [.In] [b] pos) (upT K (dTst (d2W (gInB false) ta tw))) := by
  subst hK
  exact qt_w (op_inA hu) (o2_in false) ha hb hm
theorem qt_nin (hu : X.A.units + 1 < cLine) (ha : PE X a (upE K ta)) (hb : PE X b (upV K tw)) (hm : behindInMarks .NotIn b = false := by rfl) (hK : X.K = K := by rfl) : PT X (.Compare a [.NotIn] [b] pos) (upT K (dTst (d2W (gInB true) ta tw))) := by
  subst hK
  exact qt_w (op_ninA hu) (o2_in true) ha hb hm

/-! ### built-ins of one container -/
def d1V (g : D → (D → Prop) → Prop) (tw : DV) : DE := fun δ Q => tw δ fun δ1 x => ∃ d, vwD δ1 x = some d ∧ g d fun r => Q δ1 r
def d1VO (g : D → (O → Prop) → Prop) (tw : DV) : DOw := fun δ Q => tw δ fun δ1 x => ∃ d, vwD δ1 x = some d ∧ g d fun r => Q δ1 r
def dSz : D → Option Nat
  | .lst ds => some ds.length | .tup ds => some ds.length | .str z => some z.length | .dk kvs => some kvs.length | _ => none
def gLen : D → (D → Prop) → Prop := fun d Q => match d with
  | .lst ds => Q (.int ds.length)
  | .scr ns => Q (.int ns.length)
  | .tup ds => Q (.int ds.length)
  | .str z => z.length ≤ sizeLine ∧ Q (.int z.length)
  | .dk kvs => Q (.int kvs.length)
  | _ => False
theorem call_lenD' : CallR X (.builtin "len") (fun xs H Q => ∃ a kvs, xs = [V.ref a] ∧ Rd H a (.dK kvs) ∧ Q (.int kvs.length) H) := by
  intro pins s σ H xs us Q I r h
  obtain ⟨a, kvs, rfl, ha, q⟩ := h
  obtain ⟨u, rfl, ru⟩ := vals1 r
  cases ru
  exact d_len I ha fun t s' I' => ⟨.int kvs.length, H, I', ⟨t, rfl⟩, q⟩
theorem pd_len (hg : Gl X "len") (hm : X.mg "len" = none) (ha : PE X a (upV K tw)) (hK : X.K = K := by rfl) (hs : starEach [a] X.env = (false, eval a X.env) :: starEach [] X.env := by rfl) (hpl : (backTo pos (starEach [] X.env)).any (·.1) = false := by rfl) :
    PE X (.Call (.Name "len" p) [a] [] pos) (upE K (d1V gLen tw)) := by
  subst hK
  refine pimp (pe_callB ((call_len_seq).or (call_len_str.or call_lenD')) hg hm PySem.boot_len (pa_cons ha pa_nil hs) (by decide) (by decide) hs hpl) fun σ H Q ⟨F0, H0, P, δ, F, Q', R, ht, k⟩ => ?_
  refine ⟨F0, H0, P, δ, F, _, R, ht, fun δ1 F1 H1 v x R1 e1 ok ⟨d, hd, g⟩ => ?_⟩
  have vw := R1.view ok (Ex.refl F1) hd
  unfold gLen at g
  split at g
  · obtain ⟨a, vs, rfl, hs, rs⟩ := vw.lst'
    exact .inl ⟨a, vs, rfl, .inl (.inl hs), k _ _ _ _ _ R1 e1 (by rw [rs.length]; exact .int _) g⟩
  · obtain ⟨a, rfl, hs⟩ := vw.scr'
    exact .inl ⟨a, _, rfl, .inl hs, k _ _ _ _ _ R1 e1 (by rw [List.length_map]; exact .int _) g⟩
  · obtain ⟨a, vs, rfl, hs, rs⟩ := vw.tup'
    exact .inl ⟨a, vs, rfl, .inr (.inl (.inl hs)), k _ _ _ _ _ R1 e1 (by rw [rs.length]; exact .int _) g⟩
  · cases vw.str'
    exact .inr (.inl ⟨_, rfl, g.1, k _ _ _ _ _ R1 e1 (.int _) g.2⟩)
  · obtain ⟨a, ws, rfl, hs, rs⟩ := vw.dk'
    exact .inr (.inr ⟨a, ws, rfl, hs, k _ _ _ _ _ R1 e1 (by rw [rs.length]; exact .int _) g⟩)
  · exact g.elim
/-- list(x), tuple(x) of a list or a tuple -/
def gSeqO : D → (O → Prop) → Prop
  | .lst ds, Q => Q (.lst ds)
  | .tup ds, Q => Q (.lst ds)
  | _, _ => False
theorem po_list (hg : Gl X "list") (hm : X.mg "list" = none) (ha : PE X a (upV K tw)) (hK : X.K = K := by rfl) (hs : starEach [a] X.env = (false, eval a X.env) :: starEach [] X.env := by rfl) (hpl : (backTo pos (starEach [] X.env)).any (·.1) = false := by rfl) :
    PE X (.Call (.Name "list" p) [a] [] pos) (upO K (d1VO gSeqO tw)) := by
  subst hK
  refine pimp (pe_callTy call_list_of hg hm (by decide +kernel) (pa_cons ha pa_nil hs) (by decide) (by decide) hs hpl) fun σ H Q ⟨F0, H0, P, δ, F, Q', R, ht, k⟩ => ?_
  refine ⟨F0, H0, P, δ, F, _, R, ht, fun δ1 F1 H1 v x R1 e1 ok ⟨d, hd, g⟩ => ?_⟩
  have vw := R1.view ok (Ex.refl F1) hd
  unfold gSeqO at g
  split at g
  · obtain ⟨a, vs, rfl, hs, rs⟩ := vw.lst'
    exact ⟨a, vs, rfl, .inl (.inl hs), fun l hl => k _ F1 _ l _ _ (R1.newP hl) (R1.fresh hl) e1 (show OwnAt X.K F1 _ l (.lst _) from ⟨vs, upd_same, rs⟩) g⟩
  · obtain ⟨a, vs, rfl, hs, rs⟩ := vw.tup'
    exact ⟨a, vs, rfl, .inr (.inl (.inl hs)), fun l hl => k _ F1 _ l _ _ (R1.newP hl) (R1.fresh hl) e1 (show OwnAt X.K F1 _ l (.lst _) from ⟨vs, upd_same, rs⟩) g⟩
  · exact g.elim
def gTupF : D → (D → Prop) → Prop
  | .lst ds, Q => Q (.tup ds)
  | .tup ds, Q => Q (.tup ds)
  | _, _ => False
theorem pd_tuple (hg : Gl X "tuple") (hm : X.mg "tuple" = none) (ha : PE X a (upV K tw)) (hK : X.K = K := by rfl) (hs : starEach [a] X.env = (false, eval a X.env) :: starEach [] X.env := by rfl) (hpl : (backTo pos (starEach [] X.env)).any (·.1) = false := by rfl) :
    PE X (.Call (.Name "tuple" p) [a] [] pos) (upE K (d1V gTupF tw)) := by
  subst hK
  refine pimp (pe_callTy call_tuple_of hg hm (by decide +kernel) (pa_cons ha pa_nil hs) (by decide) (by decide) hs hpl) fun σ H Q ⟨F0, H0, P, δ, F, Q', R, ht, k⟩ => ?_
  refine ⟨F0, H0, P, δ, F, _, R, ht, fun δ1 F1 H1 v x R1 e1 ok ⟨d, hd, g⟩ => ?_⟩
  have vw := R1.view ok (Ex.refl F1) hd
  unfold gTupF at g
  split at g
  · obtain ⟨a, vs, rfl, hs, rs⟩ := vw.lst'
    refine ⟨a, vs, rfl, .inl ⟨.inl hs, fun l hl => ?_⟩⟩
    have ex : Ex F1 (upd F1 l (.tup vs)) := Ex.new (R1.e3.nn hl)
    exact k _ _ _ _ _ (R1.newF hl) (e1.trans ex) (.tup upd_same (rs.mono ex)) g
  · obtain ⟨a, vs, rfl, hs, rs⟩ := vw.tup'
    cases vw with
    | flat r e => exact ⟨a, vs, rfl, .inr ⟨.inl (.inl hs), k _ _ _ _ _ R1 e1 r g⟩⟩
  · exact g.elim
/-! ### slices -/
abbrev DP := Dl → (Dl → Option Int → Prop) → Prop
def upP (K : PySem.W.Frag) (t : DP) : TO := fun σ H Q => ∃ F0 H0 P δ F Q', RepS K F0 H0 P δ σ F H ∧ t δ Q' ∧ ∀ δ' F' H' o, RepS K F0 H0 P δ' σ F' H' → Ex F F' → Q' δ' o → Q o H'
theorem oimp {e : Option Expr} {t t' : TO} (h : PO X e t) (i : ∀ σ H Q, t' σ H Q → t σ H Q) : PO X e t' := ⟨fun pins s σ H Q I q => h.run pins s σ H Q I (i σ H Q q)⟩
def dNoP : DP := fun δ Q => Q δ none
def dPart (te : DE) : DP := fun δ Q => te δ fun δ1 d => ∃ i, d = .int i ∧ Q δ1 (some i)
theorem pp_none : PO X none (upP K dNoP) := oimp po_none fun σ H Q ⟨F0, H0, P, δ, F, Q', R, ht, k⟩ => k δ F H none R (Ex.refl F) ht
theorem pp_some (h : PE X e (upE K te)) : PO X (some e) (upP K (dPart te)) := oimp (po_some h) fun σ H Q ⟨F0, H0, P, δ, F, Q', R, ht, k⟩ =>
  ⟨F0, H0, P, δ, F, _, R, ht, fun δ1 F1 H1 v d R1 e1 r ⟨i, e, q⟩ => by subst e; cases r; exact ⟨i, rfl, k δ1 F1 H1 _ R1 e1 q⟩⟩
def cutG {α : Type} (xs : List α) (lo hi : Option Int) : List α := (xs.drop (HT.sIx xs.length 0 lo)).take (HT.sIx xs.length xs.length hi - HT.sIx xs.length 0 lo)
theorem cut_rep {F : Hp} {vs : List V} {ds : List D} (r : RepL K F vs ds) (lo hi : Option Int) : RepL K F (cutV vs lo hi) (cutG ds lo hi) := by
  unfold cutV cutG
  rw [r.length]
  exact (r.drop _).take _
/-- xs[lo:hi] of a list: a new list -/
def dSlL (tw : DV) (tl th : DP) : DOw := fun δ Q => tw δ fun δ1 x => tl δ1 fun δ2 lo => th δ2 fun δ3 hi => ∃ ds, vwD δ3 x = some (.lst ds) ∧ Q δ3 (.lst (cutG ds lo hi))
theorem po_slice {lo hi : Option Expr} {tl th : DP} {p2 : Pos} (ha : PE X a (upV K tw)) (hl : PO X lo (upP K tl)) (hh : PO X hi (upP K th)) (hK : X.K = K := by rfl) : PE X (.Subscript a (.Slice lo hi none p2) pos) (upO K (dSlL tw tl th)) := by
  subst hK
  refine pimp (pe_slice sl_list ha hl hh) fun σ H Q ⟨F0, H0, P, δ, F, Q', R, ht, k⟩ => ?_
  refine ⟨F0, H0, P, δ, F, _, R, ht, fun δ1 F1 H1 v x R1 e1 ok ht => ?_⟩
  refine ⟨F0, H0, P, δ1, F1, _, R1, ht, fun δ2 F2 H2 l R2 e2 ht => ?_⟩
  refine ⟨F0, H0, P, δ2, F2, _, R2, ht, fun δ3 F3 H3 h R3 e3 ⟨ds, hd, g⟩ => ?_⟩
  obtain ⟨a, vs, rfl, hs, rs⟩ := (R3.view ok (e2.trans e3) hd).lst'
  exact ⟨a, vs, rfl, .inl hs, fun q hq => k _ F3 _ q _ _ (R3.newP hq) (R3.fresh hq) ((e1.trans e2).trans e3) (show OwnAt X.K F3 _ q (.lst _) from ⟨_, upd_same, cut_rep rs _ _⟩) g⟩
/-- the same of a tuple -/
def dSlT (tw : DV) (tl th : DP) : DE := fun δ Q => tw δ fun δ1 x => tl δ1 fun δ2 lo => th δ2 fun δ3 hi => ∃ ds, vwD δ3 x = some (.tup ds) ∧ Q δ3 (.tup (cutG ds lo hi))
end
end Mv

namespace Mv
open PySem PySem.Spec PyProof.Rows L2
section
variable {K : PySem.W.Frag} {F0 H0 F H F' H' : Hp} {P : Pl} {δ : Dl} {σ : L2.St} {p : Addr}
/-- growth with a new reserved object -/
theorem RepS.growP (R : RepS K F0 H0 P δ σ F H) (G : Grown F H F' H') {ho : HO} (h1 : H p = none) (h2 : H' p = some ho) (h3 : F' p = none) : RepS K F0 H0 ((p, ho) :: P) δ σ F' H' ∧ p ∉ pk P := by
  have R1 := R.grow G.e1 G.e2 G.e3 G.fr G.tp
  have hP := R.fresh h1
  refine ⟨?_, hP⟩
  obtain ⟨w, a1, hw⟩ := R.own
  have keep : ∀ a, F a = none → H a ≠ none → F' a = none := fun a h1 h2 => by
    cases q : F' a with
    | none => rfl
    | some o =>
      rcases G.fr a o q with z | z
      · rw [h1] at z; cases z
      · exact absurd z h2
  refine ⟨R1.e1, R1.e2, R1.e3, R1.fr, R1.tp, R1.len, ⟨w, fun a i e => ?_, fun i s e => ?_⟩, R.low, fun q ho' hq => ?_⟩
  · obtain ⟨b1, b2, b3, b4⟩ := a1 a i e
    have ne : a ≠ p := fun z => b3 (z ▸ h1)
    exact ⟨b1, keep a b2 b3, G.e2.sm b3, by simpa [pk, ne] using b4⟩
  · obtain ⟨v, ev, q⟩ := hw i s e
    refine ⟨v, ev, ?_⟩
    cases s with
    | fz d => exact Rep.mono G.e1 q
    | own o =>
      obtain ⟨a, rfl, ew, q⟩ := q
      obtain ⟨ho, hh, _⟩ := q.there
      exact ⟨a, rfl, ew, q.mono G.e1 (by rw [hh, G.e2 _ _ hh])⟩
  · rcases List.mem_cons.mp hq with e | hq
    · cases e; exact ⟨R.e2.nn h1, h3, h2⟩
    · exact R1.rsv q ho' hq
end
/-! ### defs -/
abbrev DSp := List D → (S → Prop) → Prop
/-- the promise of a def, from its D-level meaning -/
def spD (K : PySem.W.Frag) (n : Nat) (sp : DSp) : Sp := fun vs H Q _ => ∃ F ds Q', Ex F H ∧ Tp F H ∧ Low F ∧ RepL K F vs ds ∧ ds.length = n ∧ sp ds Q' ∧ ∀ F' H' v r, Grown F H F' H' → RetOk K H F' H' v r → Q' r → Q v H'
def startD (n : Nat) (ds : List D) : Dl := ds.map (fun d => some (S.fz d)) ++ List.replicate (n - ds.length) none
section
variable {P : Program} {w : World} {K : PySem.W.Frag} {mg : Str → Option Value} {base : Heap}
theorem start_rep {N : List Str} {vs : List V} {ds : List D} {F H : Hp} (e : Ex F H) (tp : Tp F H) (lo : Low F) (r : RepL K F vs ds) : RepS K F H [] (startD N.length ds) (L2.start N vs) F H := by
  refine ⟨Ex.refl F, Ex.refl H, e, fun a o h => .inl h, tp, ?_, ⟨fun _ => none, ⟨fun _ _ h => (nomatch h), fun i s h => ?_⟩⟩, lo, fun _ _ h => nomatch h⟩
  · simp [startD, L2.start, r.length]
  · unfold startD at h
    unfold L2.start
    by_cases hi : i < ds.length
    · rw [List.getElem?_append_left (by simpa using hi), List.getElem?_map] at h
      cases hd : ds[i]? with
      | none => rw [hd] at h; simp at h
      | some d =>
        rw [hd] at h
        simp at h
        subst h
        obtain ⟨v, hv, rv⟩ := r.get hd
        refine ⟨v, ?_, rv⟩
        rw [List.getElem?_append_left (by simp [r.length]; exact hi), List.getElem?_map, hv]; rfl
    · rw [List.getElem?_append_right (by simpa using hi)] at h
      have := List.mem_of_getElem? h
      simp at this
/-- THE RULE for a def -/
theorem okD {x qual : Str} {st : Stmt} {f : Addr} {fd : FuncData} {N ps : List Str} {k : Nat} {sp : DSp} (Fn : Fun K x qual st f fd) (S' : FnScope N ps (defScope st))
    (hbody : ∀ (cdv : Value) (A : Around) (outer : List Env) (s : Shared) (H : Hp) (E : XK), Room k (A.deeper (envOfC qual (defScope st) s.heap.objs.size f cdv)) →
      ∃ t, PSs (cxOf CX0 P w K mg base N qual (defScope st) f cdv A outer s H E).nox (defBody st) (upS K t) ∧ ∀ ds Q', ds.length = ps.length → sp ds Q' → t { nx := fun _ => Q' (.fz .non), rt := Q' } (startD N.length ds)) : FnOk P w K mg base CX0 (k + 1) f fd ps (spD K ps.length sp) := by
  refine Fn.ok S' (fun vs H Q E h => ?_) (fun cdv A outer s H vs Q E hr h => ?_)
  · obtain ⟨F, ds, Q', _, _, _, r, l, _⟩ := h
    rw [r.length, l]
  · obtain ⟨F, ds, Q', e, tp, lo, r, l, hs, k'⟩ := h
    obtain ⟨t, ht, hq⟩ := hbody cdv A outer s H E hr
    refine ⟨_, ht, F, H, startD N.length ds, F, _, ⟨start_rep e tp lo r, hq ds Q' l hs, fun δ' σ' F' H' R _ q => ?_, fun _ _ _ _ _ _ q => q.elim, fun _ _ _ _ _ _ q => q.elim, fun F' H' v r G ok q => k' F' H' v r G ok q⟩⟩
    exact k' F' H' .non (.fz .non) R.grown .non q
end

section
variable {X : Cx} {K : PySem.W.Frag} {e a b c o : Expr} {es : List Expr} {ta tb tc te tk tv : DE} {tw : DV} {st : Stmt} {rest body : List Stmt} {t u : DS} {ts : DA} {tA : DT} {pos p apos cpos : Pos}
/-! ### calls of defs -/
def dCall (n : Nat) (sp : DSp) (ts : DA) : DE := fun δ Q => ts δ fun δ1 ds => ds.length = n ∧ sp ds fun r => Q δ1 r.d
def dCallO (n : Nat) (sp : DSp) (ts : DA) : DOw := fun δ Q => ts δ fun δ1 ds => ds.length = n ∧ sp ds fun r => ∃ o, r = .own o ∧ Q δ1 o
theorem pcall {n : Nat} {sp : DSp} {E : XK} (h : PE X e (tCall (spD K n sp) [] E (upA K ts))) : PE X e (upE K (dCall n sp ts)) := pimp (pe_plock h) fun σ H Q ⟨F0, H0, P, δ, F, Q', R, ht, k⟩ => by
  refine ⟨F0, H0, P, δ, F, _, R, ht, fun δ1 F1 H1 vs ds R1 e1 rs ⟨hn, ht⟩ => ?_⟩
  show spD K n sp (vs ++ []) H1 _ E
  rw [List.append_nil]
  refine ⟨F1, ds, _, R1.e3, R1.tp, R1.low.mono R1.e1, rs, hn, ht, fun F2 H2 v r G ok q => ?_⟩
  cases r with
  | fz d => exact .inl (k δ1 F2 H2 v d (R1.grow G.e1 G.e2 G.e3 G.fr G.tp) (e1.trans G.e1) ok q)
  | own o =>
    obtain ⟨a, rfl, h1, h3, oa⟩ := ok
    obtain ⟨ho, hh, mu, rp⟩ := oa.rep h3
    obtain ⟨R2, hP⟩ := R1.growP G h1 hh h3
    exact .inr ⟨a, ho, hh, mu, fun od => k δ1 _ _ _ _ (R2.frzP hP _) ((e1.trans G.e1).trans (Ex.new h3)) (rp od) q⟩
theorem pcallO {n : Nat} {sp : DSp} {E : XK} (h : PE X e (tCall (spD K n sp) [] E (upA K ts))) : PE X e (upO K (dCallO n sp ts)) := pimp h fun σ H Q ⟨F0, H0, P, δ, F, Q', R, ht, k⟩ => by
  refine ⟨F0, H0, P, δ, F, _, R, ht, fun δ1 F1 H1 vs ds R1 e1 rs ⟨hn, ht⟩ => ?_⟩
  show spD K n sp (vs ++ []) H1 _ E
  rw [List.append_nil]
  refine ⟨F1, ds, _, R1.e3, R1.tp, R1.low.mono R1.e1, rs, hn, ht, fun F2 H2 v r G ok ⟨o, er, q⟩ => ?_⟩
  subst er
  obtain ⟨a, rfl, h1, h3, oa⟩ := ok
  obtain ⟨ho, hh, mu, rp⟩ := oa.rep h3
  obtain ⟨R2, hP⟩ := R1.growP G h1 hh h3
  exact k δ1 F2 H2 a ho o R2 hP (e1.trans G.e1) oa q
/-! ### while -/
def dWhile (c : DT) (tb : DS) : DS := fun D δ => ∃ W : Nat → Dl → Prop, (∃ m, W m δ) ∧ ∀ m δ1, W m δ1 → c δ1 fun δ2 b => if b = true then tb { D with nx := fun δ' => ∃ m', m' < m ∧ W m' δ', ct := fun δ' => ∃ m', m' < m ∧ W m' δ', bk := D.nx } δ2 else D.nx δ2
theorem ss_while {tb : DS} (hp : PassesOwn (model X.prog X.w) X.A X.env X.xe) (hc : PT X c (upT K tA)) (hb : PSs X body (upS K tb)) : PS X (.While c body [] pos) (upS K (dWhile tA tb)) := pimpS (ps_while hp hc hb) fun D σ H ⟨F0, H0, δ, F, D', W⟩ => by
  obtain ⟨Wd, ⟨m0, w0⟩, turn⟩ := W.t
  refine ⟨fun m σ2 H2 => ∃ δ2 F2, RepS K F0 H0 [] δ2 σ2 F2 H2 ∧ Ex F F2 ∧ Wd m δ2, ⟨m0, δ, F, W.rep, Ex.refl F, w0⟩, ?_⟩
  rintro m σ2 H2 ⟨δ2, F2, R2, e2, w2⟩
  refine ⟨F0, H0, [], δ2, F2, _, R2, turn m δ2 w2, fun δ3 F3 H3 b R3 e3 ht => ?_⟩
  cases b with
  | true =>
    rw [if_pos rfl] at ht ⊢
    refine ⟨fun σ4 H4 => ∃ m', m' < m ∧ ∃ δ4 F4, RepS K F0 H0 [] δ4 σ4 F4 H4 ∧ Ex F F4 ∧ Wd m' δ4, fun σ4 H4 q => q, F0, H0, δ3, F3, _, ⟨R3, ht, fun δ5 σ5 F5 H5 R5 e5 ⟨m', hm, q⟩ => ⟨m', hm, δ5, F5, R5, (e2.trans e3).trans e5, q⟩, fun δ5 σ5 F5 H5 R5 e5 q => W.nx δ5 σ5 F5 H5 R5 ((e2.trans e3).trans e5) q, fun δ5 σ5 F5 H5 R5 e5 ⟨m', hm, q⟩ => ⟨m', hm, δ5, F5, R5, (e2.trans e3).trans e5, q⟩, W.rt⟩⟩
  | false =>
    rw [if_neg (by decide)] at ht ⊢
    exact W.nx δ3 σ2 F3 H3 R3 (e2.trans e3) ht
/-! ### what is walked -/
def gIL : D → (List D → Prop) → Prop
  | .lst ds, Q => Q ds
  | .scr ns, Q => Q (ns.map D.int)
  | _, _ => False
def dIL (te : DE) : DI := fun δ Q => te δ fun δ1 d => gIL d (Q δ1)
def dIT (te : DE) : DI := fun δ Q => te δ fun δ1 d => ∃ ds, d = .tup ds ∧ Q δ1 ds
theorem walk_sq {K : PySem.W.Frag} {F : Hp} {a : Addr} {vs : List V} {ds : List D} (hs : SqL K F a vs) (rs : RepL K F vs ds) : WalkD K F (Itl K a) ds := by
  refine ⟨fun i H hi ex => ?_, fun H ex => ⟨vs, ex.sql hs, by rw [rs.length]; exact Nat.le_refl _⟩, fun i d F2 H x H' hd x1 x2 _ ⟨eH, hx⟩ => ?_⟩
  · obtain ⟨v, hv, _⟩ := rs.get (List.getElem?_eq_getElem hi)
    exact ⟨vs, v, ex.sql hs, hv⟩
  · subst eH
    obtain ⟨v, hv, rv⟩ := rs.get hd
    have := hx vs ((x1.trans x2).sql hs)
    rw [hv] at this; cases this
    exact .plain (rv.mono x1)
theorem ip_list {tg : Expr} (hl : PE X e (upE K te)) (hK : X.K = K := by rfl) : PI X tg e (upI K (dIL te)) := by
  subst hK
  refine iimp (pi_list hl) fun σ H R ⟨F0, H0, P, δ, F, Q', Rp, ht, k⟩ => ?_
  refine ⟨F0, H0, P, δ, F, _, Rp, ht, fun δ1 F1 H1 v d R1 e1 r q => ?_⟩
  unfold gIL at q
  split at q
  · cases r with
    | @lst a od vs _ hs rs =>
      have hs : SqL X.K F1 a vs := .inl (.inr ⟨_, hs⟩)
      exact ⟨a, rfl, ⟨vs, R1.e3.sql hs⟩, k δ1 F1 H1 _ _ R1 e1 (walk_sq hs rs) q⟩
  · cases r with
    | @scr a ns hs => exact ⟨a, rfl, ⟨_, R1.e3.sql hs⟩, k δ1 F1 H1 _ _ R1 e1 (walk_sq hs (RepL.ints _)) q⟩
  · exact q.elim
theorem ip_tup {tg : Expr} (hl : PE X e (upE K te)) (hK : X.K = K := by rfl) : PI X tg e (upI K (dIT te)) := by
  subst hK
  refine iimp (pi_tup hl) fun σ H R ⟨F0, H0, P, δ, F, Q', Rp, ht, k⟩ => ?_
  refine ⟨F0, H0, P, δ, F, _, Rp, ht, fun δ1 F1 H1 v d R1 e1 r ⟨ds, ed, q⟩ => ?_⟩
  subst ed
  cases r with
  | @tup a vs _ hs rs =>
    have sq : ∀ {H}, Ex F1 H → SqT X.K H a vs := fun ex => .inl (.inl (ex _ _ hs))
    refine ⟨a, rfl, ⟨vs, sq R1.e3⟩, k δ1 F1 H1 _ ds R1 e1 ?_ q⟩
    refine ⟨fun i H hi ex => ?_, fun H ex => ⟨vs, sq ex, by rw [rs.length]; exact Nat.le_refl _⟩, fun i d F2 H x H' hd x1 x2 _ ⟨eH, hx⟩ => ?_⟩
    · obtain ⟨v, hv, _⟩ := rs.get (List.getElem?_eq_getElem hi)
      exact ⟨vs, v, sq ex, hv⟩
    · subst eH
      obtain ⟨v, hv, rv⟩ := rs.get hd
      have := hx vs (sq (x1.trans x2))
      rw [hv] at this; cases this
      exact .plain (rv.mono x1)
def rngD (lo hi : Int) : List D := (List.range (hi - lo).toNat).map fun (i : Nat) => D.int (lo + (i : Int))
theorem walk_rng {F : Hp} {lo : Int} {n : Nat} : WalkD K F (Itr lo n) ((List.range n).map fun (i : Nat) => D.int (lo + (i : Int))) where
  go := fun i H hi _ => by show i < n; simpa using hi
  stop := fun H _ => by show n ≤ _; simp
  yld := fun i d F2 H x H' hd _ _ _ ⟨eH, ex⟩ => by
    subst eH ex
    simp only [List.getElem?_map] at hd
    by_cases h : i < n
    · rw [List.getElem?_range h] at hd
      simp at hd; subst hd
      exact .plain (.int _)
    · rw [List.getElem?_eq_none (by simpa using h)] at hd
      simp at hd
def dIR1 (ts : DA) : DI := fun δ Q => ts δ fun δ1 ds => ∃ n : Int, ds = [.int n] ∧ (-(2 ^ 62) ≤ n ∧ n < 2 ^ 62) ∧ Q δ1 (rngD 0 n)
def dIR2 (ts : DA) : DI := fun δ Q => ts δ fun δ1 ds => ∃ lo n : Int, ds = [.int lo, .int n] ∧ (-(2 ^ 62) ≤ lo ∧ lo < 2 ^ 62 ∧ -(2 ^ 62) ≤ n ∧ n < 2 ^ 62) ∧ Q δ1 (rngD lo n)
theorem ip_rng1 {tg : Expr} (hg : Gl X "range") (hm : X.mg "range" = none) (ha : PA X [a] (upA K ts)) (hs : starEach [a] X.env = [(false, eval a X.env)] := by rfl) : PI X tg (.Call (.Name "range" p) [a] [] pos) (upI K (dIR1 ts)) := by
  refine iimp (pi_range1 hg hm ha hs) fun σ H R ⟨F0, H0, P, δ, F, Q', Rp, ht, k⟩ => ?_
  refine ⟨F0, H0, P, δ, F, _, Rp, ht, fun δ1 F1 H1 vs ds R1 e1 rs ⟨n, ed, hn, q⟩ => ?_⟩
  subst ed
  cases rs with
  | cons r t =>
    cases t
    cases r
    have e : rngD 0 n = (List.range n.toNat).map fun (i : Nat) => D.int (0 + (i : Int)) := by simp [rngD]
    exact ⟨n, rfl, hn.1, hn.2, k δ1 F1 H1 _ _ R1 e1 (by rw [e]; exact walk_rng) q⟩
theorem ip_rng2 {tg : Expr} (hg : Gl X "range") (hm : X.mg "range" = none) (ha : PA X [a, b] (upA K ts)) (hs : starEach [a, b] X.env = [(false, eval a X.env), (false, eval b X.env)] := by rfl) (hs2 : starEach [b] X.env = [(false, eval b X.env)] := by rfl) : PI X tg (.Call (.Name "range" p) [a, b] [] pos) (upI K (dIR2 ts)) := by
  refine iimp (pi_range2 hg hm ha hs hs2) fun σ H R ⟨F0, H0, P, δ, F, Q', Rp, ht, k⟩ => ?_
  refine ⟨F0, H0, P, δ, F, _, Rp, ht, fun δ1 F1 H1 vs ds R1 e1 rs ⟨lo, n, ed, hn, q⟩ => ?_⟩
  subst ed
  cases rs with
  | cons r t =>
    cases t with
    | cons r2 t =>
      cases t
      cases r; cases r2
      exact ⟨lo, n, rfl, hn, k δ1 F1 H1 _ _ R1 e1 walk_rng q⟩
/-- the signs of a text -/
def dIS (te : DE) : DI := fun δ Q => te δ fun δ1 d => ∃ z, d = .str z ∧ Q δ1 (z.cps.toList.map fun c => D.str ⟨#[c]⟩)
theorem ip_str {tg : Expr} (hl : PE X e (upE K te)) : PI X tg e (upI K (dIS te)) := by
  refine iimp (pi_str hl) fun σ H R ⟨F0, H0, P, δ, F, Q', Rp, ht, k⟩ => ?_
  refine ⟨F0, H0, P, δ, F, _, Rp, ht, fun δ1 F1 H1 v d R1 e1 r ⟨z, ed, q⟩ => ?_⟩
  subst ed
  cases r
  refine ⟨z, rfl, k δ1 F1 H1 _ _ R1 e1 ?_ q⟩
  refine ⟨fun i H hi _ => by show i < z.cps.size; simpa using hi, fun H _ => by show z.cps.size ≤ _; simp, fun i d F2 H x H' hd _ _ _ ⟨eH, c, hc, ex⟩ => ?_⟩
  subst eH ex
  simp only [List.getElem?_map, Array.getElem?_toList, hc] at hd
  simp at hd; subst hd
  exact .plain (.str _)
/-- a dict's keys -/
def dIKs (te : DE) : DI := fun δ Q => te δ fun δ1 d => match d with
  | .dk kvs => Q δ1 (kvs.map fun kv => keyD kv.1)
  | .dt kvs => Q δ1 (kvs.map fun kv => D.tup (kv.1.map keyD))
  | _ => False
theorem ip_keys {tg : Expr} (hl : PE X e (upE K te)) : PI X tg e (upI K (dIKs te)) := by
  refine iimp (pi_keys hl) fun σ H R ⟨F0, H0, P, δ, F, Q', Rp, ht, k⟩ => ?_
  refine ⟨F0, H0, P, δ, F, _, Rp, ht, fun δ1 F1 H1 v d R1 e1 r q => ?_⟩
  cases r <;> try exact q.elim
  · rename_i a od ws kvs h rg
    · skip
      have rg := rg.g
      refine ⟨a, od, rfl, .inl ⟨ws, R1.e3 _ _ h, k δ1 F1 H1 _ _ R1 e1 ⟨fun i H hi ex => ⟨ex _ _ h, by rw [rg.length]; simpa using hi⟩, fun H ex => ⟨ex _ _ h, by rw [rg.length]; simp⟩, fun i d F2 H x H' hd _ _ _ ⟨eH, kk, vv, hk, ex⟩ => ?_⟩ q⟩⟩
      subst eH ex
      have hks := rg.keys
      have : (ws.map (·.1))[i]? = some kk := by rw [List.getElem?_map, hk]; rfl
      rw [hks, List.getElem?_map] at this
      rw [List.getElem?_map] at hd
      cases hz : kvs[i]? with
      | none => rw [hz] at hd; simp at hd
      | some z =>
        rw [hz] at hd this
        simp at hd this
        subst this hd
        exact .plain (key_rep _)
  · rename_i a od ws kvs h rg
    · skip
      have rg := rg.g
      refine ⟨a, od, rfl, .inr ⟨ws, R1.e3 _ _ h, k δ1 F1 H1 _ _ R1 e1 ⟨fun i H hi ex => ⟨ex _ _ h, by rw [rg.length]; simpa using hi⟩, fun H ex => ⟨ex _ _ h, by rw [rg.length]; simp⟩, fun i d F2 H x H' hd _ _ tp ⟨eH, kk, vv, q, hk, ex, hq⟩ => ?_⟩ q⟩⟩
      subst eH ex
      have hks := rg.keys
      have : (ws.map (·.1))[i]? = some kk := by rw [List.getElem?_map, hk]; rfl
      rw [hks, List.getElem?_map] at this
      rw [List.getElem?_map] at hd
      cases hz : kvs[i]? with
      | none => rw [hz] at hd; simp at hd
      | some z =>
        rw [hz] at hd this
        simp at hd this
        subst this hd
        exact .plain (.tup (tp _ _ hq) (keys_rep _))
/-- d.items() -/
def dIIt (te : DE) : DI := fun δ Q => te δ fun δ1 d => ∃ kvs, d = .dk kvs ∧ Q δ1 (kvs.map fun kv => D.tup [keyD kv.1, kv.2])
theorem ip_items {elts : List Expr} {kk : Nat} {tpos : Pos} (hl : PE X e (upE K te)) (hbase : attributeBase e "items" X.env (eval e X.env) = eval e X.env := by rfl) (hline : (apos.endLine == cpos.line) = true := by rfl) :
    PI X (.Tuple elts kk tpos) (.Call (.Attribute e "items" apos) [] [] cpos) (upI K (dIIt te)) := by
  refine iimp (pi_items hl hbase hline) fun σ H R ⟨F0, H0, P, δ, F, Q', Rp, ht, k⟩ => ?_
  refine ⟨F0, H0, P, δ, F, _, Rp, ht, fun δ1 F1 H1 v d R1 e1 r ⟨kvs, ed, q⟩ => ?_⟩
  subst ed
  cases r with
  | @dk a od ws _ h rg =>
    have rg := rg.g
    refine ⟨a, od, ws, rfl, R1.e3 _ _ h, k δ1 F1 H1 _ _ R1 e1 ⟨fun i H hi ex => ⟨ex _ _ h, by rw [rg.length]; simpa using hi⟩, fun H ex => ⟨ex _ _ h, by rw [rg.length]; simp⟩, fun i d F2 H x H' hd x1 _ _ ⟨T, kk, vv, hk, ex, hT, eH⟩ => ?_⟩ q⟩
    subst eH ex
    rw [List.getElem?_map] at hd
    cases hz : kvs[i]? with
    | none => rw [hz] at hd; simp at hd
    | some z =>
      obtain ⟨zk, zd⟩ := z
      rw [hz] at hd
      simp at hd
      subst hd
      obtain ⟨v, hv, rv⟩ := rg.get hz
      rw [hk] at hv; cases hv
      exact .pair hT (.cons (key_rep _) (.cons (rv.mono x1) .nil))
/-- enumerate(list) -/
def dIEn (ts : DA) : DI := fun δ Q => ts δ fun δ1 ds => ∃ xs, ds = [.lst xs] ∧ Q δ1 ((List.range xs.length).zip xs |>.map fun ix => D.tup [.int (ix.1 : Nat), ix.2])
theorem ip_enum {elts : List Expr} {kk : Nat} {tpos : Pos} (hg : Gl X "enumerate") (hm : X.mg "enumerate" = none) (ha : PA X [e] (upA K ts)) (hs : starEach [e] X.env = [(false, eval e X.env)] := by rfl) (hK : X.K = K := by rfl) :
    PI X (.Tuple elts kk tpos) (.Call (.Name "enumerate" p) [e] [] pos) (upI K (dIEn ts)) := by
  subst hK
  refine iimp (pi_enum hg hm ha hs) fun σ H R ⟨F0, H0, P, δ, F, Q', Rp, ht, k⟩ => ?_
  refine ⟨F0, H0, P, δ, F, _, Rp, ht, fun δ1 F1 H1 vs ds R1 e1 rs ⟨xs, ed, q⟩ => ?_⟩
  subst ed
  cases rs with
  | cons r t =>
    cases t
    cases r with
    | @lst a od vs _ hs rs =>
      have hs : SqL X.K F1 a vs := .inl (.inr ⟨_, hs⟩)
      refine ⟨a, vs, rfl, R1.e3.sql hs, k δ1 F1 H1 _ _ R1 e1 ⟨fun i H hi ex => ?_, fun H ex => ⟨vs, ex.sql hs, by rw [rs.length]; simp⟩, fun i d F2 H x H' hd x1 x2 _ ⟨T, y, ex, hT, eH, hx⟩ => ?_⟩ q⟩
      · have hi : i < xs.length := by simpa using hi
        obtain ⟨v, hv, _⟩ := rs.get (List.getElem?_eq_getElem hi)
        exact ⟨vs, v, ex.sql hs, hv⟩
      · subst eH ex
        have e := hx vs ((x1.trans x2).sql hs)
        obtain ⟨z, hz, rz⟩ := rs.getV e
        have hi : i < xs.length := (List.getElem?_eq_some_iff.mp hz).1
        have : ((List.range xs.length).zip xs)[i]? = some (i, z) := by
          rw [List.getElem?_zip_eq_some]
          exact ⟨List.getElem?_range hi, hz⟩
        rw [List.getElem?_map, this] at hd
        simp at hd
        subst hd
        exact .pair hT (.cons (.int _) (.cons (rz.mono x1) .nil))

/-! ### methods of dicts and lists -/
/-- d.get(k), d.get(k, x) -/
def dGet1 (tw : DV) (tk : DE) : DE := fun δ Q => tw δ fun δ1 x => (∃ d, vwD δ1 x = some d ∧ ((∃ kvs, d = .dk kvs) ∨ ∃ kvs, d = .dt kvs)) ∧ tk δ1 fun δ2 kd => ∃ d r, vwD δ2 x = some d ∧ DLook d kd r ∧ Q δ2 (r.getD .non)
def dGet2 (tw : DV) (tk tx : DE) : DE := fun δ Q => tw δ fun δ1 x => (∃ d, vwD δ1 x = some d ∧ ((∃ kvs, d = .dk kvs) ∨ ∃ kvs, d = .dt kvs)) ∧ tk δ1 fun δ2 kd => tx δ2 fun δ3 xd => ∃ d r, vwD δ3 x = some d ∧ DLook d kd r ∧ Q δ3 (r.getD xd)
theorem View.isD {F H : Hp} {v : V} {d : D} (h : View K F H v d) (q : (∃ kvs, d = .dk kvs) ∨ ∃ kvs, d = .dt kvs) : ∃ a, v = .ref a ∧ IsD H a := by
  rcases q with ⟨kvs, rfl⟩ | ⟨kvs, rfl⟩
  · obtain ⟨a, ws, rfl, hd, _⟩ := h.dk'
    exact ⟨a, rfl, .inl ⟨ws, hd⟩⟩
  · obtain ⟨a, ws, rfl, hd, _⟩ := h.dt'
    exact ⟨a, rfl, .inr ⟨ws, hd⟩⟩
theorem pd_get1 (hu : X.A.units + 1 < cLine) (ho : PE X o (upV K tw)) (he : PE X e (upE K tk)) (m : M1 X o "get" apos e cpos := by exact ⟨rfl, rfl, rfl, rfl⟩) : PE X (.Call (.Attribute o "get" apos) [e] [] cpos) (upE K (dGet1 tw tk)) := by
  refine pimp (pe_dget1 hu ho he m) fun σ H Q ⟨F0, H0, P, δ, F, Q', R, ht, k⟩ => ?_
  refine ⟨F0, H0, P, δ, F, _, R, ht, fun δ1 F1 H1 v x R1 e1 ok ⟨⟨d, hd, q⟩, ht⟩ => ?_⟩
  obtain ⟨a, rfl, isd⟩ := (R1.view ok (Ex.refl F1) hd).isD q
  refine ⟨a, rfl, isd, F0, H0, P, δ1, F1, _, R1, ht, fun δ2 F2 H2 y yd R2 e2 ry ⟨d, r, hd, lk, q⟩ => ?_⟩
  obtain ⟨b, o', eb, dg, q1, q2⟩ := (R2.view ok e2 hd).dget ry R2.e3 lk
  cases eb
  refine ⟨o', dg, ?_⟩
  cases r with
  | none => rw [q2 rfl]; exact k δ2 F2 H2 _ _ R2 (e1.trans e2) .non q
  | some z => obtain ⟨u, rfl, ru⟩ := q1 z rfl; exact k δ2 F2 H2 _ _ R2 (e1.trans e2) ru q
theorem pd_get2 {f : Expr} {tx : DE} (hu : X.A.units + 1 < cLine) (ho : PE X o (upV K tw)) (he : PE X e (upE K tk)) (hf : PE X f (upE K tx)) (m : M2 X o "get" apos e f cpos := by exact ⟨rfl, rfl, rfl, rfl⟩) : PE X (.Call (.Attribute o "get" apos) [e, f] [] cpos) (upE K (dGet2 tw tk tx)) := by
  refine pimp (pe_dget2 hu ho he hf m) fun σ H Q ⟨F0, H0, P, δ, F, Q', R, ht, k⟩ => ?_
  refine ⟨F0, H0, P, δ, F, _, R, ht, fun δ1 F1 H1 v x R1 e1 ok ⟨⟨d, hd, q⟩, ht⟩ => ?_⟩
  obtain ⟨a, rfl, isd⟩ := (R1.view ok (Ex.refl F1) hd).isD q
  refine ⟨a, rfl, isd, F0, H0, P, δ1, F1, _, R1, ht, fun δ2 F2 H2 y yd R2 e2 ry ht => ?_⟩
  refine ⟨F0, H0, P, δ2, F2, _, R2, ht, fun δ3 F3 H3 z zd R3 e3 rz ⟨d, r, hd, lk, q⟩ => ?_⟩
  obtain ⟨b, o', eb, dg, q1, q2⟩ := (R3.view ok (e2.trans e3) hd).dget (ry.mono e3) R3.e3 lk
  cases eb
  refine ⟨o', dg, ?_⟩
  cases r with
  | none => rw [q2 rfl]; exact k δ3 F3 H3 _ _ R3 ((e1.trans e2).trans e3) rz q
  | some x => obtain ⟨u, rfl, ru⟩ := q1 x rfl; exact k δ3 F3 H3 _ _ R3 ((e1.trans e2).trans e3) ru q
/-- xs.pop(i) of an owned list -/
def dPopAt (i : Nat) (tk : DE) : DE := fun δ Q => match δ[i]? with
  | some (some (.own (.lst _))) => tk δ fun δ1 kd => match δ1[i]? with
    | some (some (.own (.lst ds))) => ∃ (z : Int) (k : Nat) (d : D), kd = .int z ∧ -(2 ^ 63) ≤ z ∧ z < 2 ^ 63 ∧ seqIndex? z ds.length = some k ∧ ds[k]? = some d ∧ Q (δ1.set i (some (.own (.lst (ds.eraseIdx k))))) d
    | _ => False
  | _ => False
theorem pd_popAt {i : Nat} (h : PE X (.Call (.Attribute o "pop" apos) [e] [] pos) (tBM X.K "list" rPopAt (tVar i) (tCons (upE K tk) tNil))) : PE X (.Call (.Attribute o "pop" apos) [e] [] pos) (upE K (dPopAt i tk)) := pimp h fun σ H Q ⟨F0, H0, P, δ, F, Q', R, ht, k⟩ => by
  unfold dPopAt at ht
  split at ht
  · rename_i ds0 e1
    obtain ⟨a, ea, ⟨vs, hv, rs⟩, n1, n2⟩ := R.ownd e1
    refine ⟨_, ea, .inl ⟨rfl, vs, .inl (.inl hv)⟩, F0, H0, P, δ, F, _, R, ht, fun δ1 F1 H1 x dx R1 ex1 rx ht => ?_⟩
    split at ht
    · rename_i ds e2
      obtain ⟨z, kk, d, ez, z1, z2, hk, hd, q⟩ := ht
      subst ez
      cases rx
      obtain ⟨b, eb, ⟨ws, hw, rw⟩, n3, n4⟩ := R1.ownd e2
      rw [ea] at eb; cases eb
      obtain ⟨v, hv2, rv⟩ := rw.get hd
      refine ⟨a, ws, z, kk, v, rfl, rfl, hw, z1, z2, by rw [rw.length]; exact hk, hv2, ?_⟩
      exact k _ F1 _ v d (R1.write e2 ea (o' := .lst (ds.eraseIdx kk)) (show OwnAt K F1 _ a (.lst _) from ⟨_, upd_same, rw.eraseIdx kk⟩)) ex1 rv q
    · exact ht.elim
  · exact ht.elim
/-- x[i] = e of an owned list or dict -/
def gSet (i : Nat) (tk : DE) : DG := fun d δ Q => (∃ o, δ[i]? = some (some (.own o))) ∧ tk δ fun δ1 kd => match δ1[i]? with
  | some (some (.own (.lst ds))) => ∃ (z : Int) (k : Nat), kd = .int z ∧ ixN ds.length z = some k ∧ Q (δ1.set i (some (.own (.lst (ds.set k d)))))
  | some (some (.own (.dk kvs))) => ∃ k, dkey kd = some k ∧ kvs.length < sizeLine ∧ Q (δ1.set i (some (.own (.dk (putG kvs k d)))))
  | some (some (.own (.dt kvs))) => ∃ k, tkey kd = some k ∧ kvs.length < sizeLine ∧ Q (δ1.set i (some (.own (.dt (putG kvs k d)))))
  | _ => False
def rSetD : V → V → V → Hp → (Hp → Prop) → Prop := fun o i v H Q => ∃ a H', o = .ref a ∧ DPut H a i v H' ∧ Q H'
theorem set_dict (hu : X.A.units + 1 < cLine) : PSet X rSetD := by
  intro pins s σ H o i v ov iv u Q I ro ri rv ⟨a, H', e, g, q⟩
  subst e
  cases ro
  exact d_setItem hu I g ri rv fun s4 I4 => ⟨H', I4, q⟩
theorem PSet.or' {r r' : TSet} (h : PSet X r) (h' : PSet X r') : PSet X (fun o i v H Q => r o i v H Q ∨ r' o i v H Q) := by
  intro pins s σ H o i v ov iv u Q I ro ri rv q
  rcases q with q | q
  · exact h pins s σ H o i v ov iv u Q I ro ri rv q
  · exact h' pins s σ H o i v ov iv u Q I ro ri rv q
theorem ug_set {i : Nat} (hu : X.A.units + 1 < cLine) (ho : PE X o (tVar i)) (hi : PE X e (upE K tk)) (ha : ∀ v, assign (.Subscript o e pos) X.env v = (do
      let ov ← holding [v] (eval o X.env)
      let iv ← holding [v, ov] (eval e X.env)
      standAt pos
      holding [v, ov, iv] (setItem ov iv v)
      release [v, ov, iv] []) := by intro _; rfl) : PG X (.Subscript o e pos) (upG K (gSet i tk)) := by
  refine gimp (pg_sub ho hi (PSet.or' set_list (set_dict hu)) ha) fun v σ H Q ⟨F0, H0, P, δ, F, d, Q', R, r, ⟨⟨o0, eo⟩, g⟩, k⟩ => ?_
  obtain ⟨a, ea, _⟩ := R.ownd eo
  refine ⟨_, ea, F0, H0, P, δ, F, _, R, g, fun δ1 F1 H1 y yd R1 e1 ry g => ?_⟩
  split at g
  · rename_i ds e2
    obtain ⟨z, kk, ez, hk, q⟩ := g
    subst ez
    cases ry
    obtain ⟨b, eb, ⟨ws, hw, rw⟩, _⟩ := R1.ownd e2
    rw [ea] at eb; cases eb
    exact .inl ⟨a, ws, z, kk, rfl, rfl, hw, by rw [rw.length]; exact hk, k _ _ F1 _ (R1.write e2 ea (o' := .lst (ds.set kk d)) (show OwnAt K F1 _ a (.lst _) from ⟨_, upd_same, rw.set (r.mono e1) kk⟩)) e1 q⟩
  · rename_i kvs e2
    obtain ⟨kk, hk, hl, q⟩ := g
    obtain ⟨b, eb, ⟨ws, hw, rw⟩, _⟩ := R1.ownd e2
    rw [ea] at eb; cases eb
    exact .inr ⟨a, _, rfl, .inl ⟨ws, kk, hw, rep_key ry hk, by rw [rw.g.length]; exact hl, rfl⟩, k _ _ F1 _ (R1.write e2 ea (o' := .dk (putG kvs kk d)) (show OwnAt K F1 _ a (.dk _) from ⟨_, upd_same, (rw.g.put kk (r.mono e1)).k⟩)) e1 q⟩
  · rename_i kvs e2
    obtain ⟨kk, hk, hl, q⟩ := g
    obtain ⟨b, eb, ⟨ws, hw, rw⟩, _⟩ := R1.ownd e2
    rw [ea] at eb; cases eb
    obtain ⟨c, rfl, hc⟩ := rep_tkey ry hk
    exact .inr ⟨a, _, rfl, .inr ⟨ws, kk, c, hw, rfl, R1.e3 _ _ hc, by rw [rw.g.length]; exact hl, rfl⟩, k _ _ F1 _ (R1.write e2 ea (o' := .dt (putG kvs kk d)) (show OwnAt K F1 _ a (.dt _) from ⟨_, upd_same, (rw.g.put kk (r.mono e1)).t⟩)) e1 q⟩
  · exact g.elim
end
end Mv

namespace Mv
open PySem PySem.Spec PyProof.Rows L2

/-! ### comprehensions -/
def wipeD (δ : Dl) : List Nat → Dl
  | [] => δ
  | v :: vs => (wipeD δ vs).set v none
/-- behind a comprehension: its own slots as they were before, if frozen -/
def restD (δ0 : Dl) (δ : Dl) : List Nat → Dl
  | [] => δ
  | v :: vs => match δ0[v]? with
    | some (some (.fz d)) => (restD δ0 δ vs).set v (some (.fz d))
    | _ => (restD δ0 δ vs).set v none
section
variable {K : PySem.W.Frag} {F0 H0 F H F' H' : Hp} {P : Pl} {δ δ0 : Dl} {σ : L2.St}
theorem RepS.wipe (R : RepS K F0 H0 P δ σ F H) : ∀ vs : List Nat, RepS K F0 H0 P (wipeD δ vs) (wipe σ vs) F H
  | [] => R
  | v :: vs => (RepS.wipe R vs).unset v none
theorem wipeD_length : ∀ vs : List Nat, (wipeD δ vs).length = δ.length
  | [] => rfl
  | v :: vs => by unfold wipeD; rw [List.length_set, wipeD_length vs]
theorem wipeD_none : ∀ {vs : List Nat} {i : Nat} {s : S}, (wipeD δ vs)[i]? = some (some s) → i ∉ vs ∧ δ[i]? = some (some s)
  | [], i, s, h => ⟨by simp, h⟩
  | v :: vs, i, s, h => by
    unfold wipeD at h
    by_cases e : v = i
    · subst e
      by_cases hl : v < (wipeD δ vs).length
      · rw [List.getElem?_set_self hl] at h; cases h
      · rw [List.getElem?_eq_none (by simpa using hl)] at h; cases h
    · rw [List.getElem?_set_ne e] at h
      obtain ⟨h1, h2⟩ := wipeD_none h
      exact ⟨by simp [h1, Ne.symm e], h2⟩
theorem wipe_not : ∀ {vs : List Nat} {i : Nat}, i ∉ vs → (L2.wipe σ vs)[i]? = σ[i]?
  | [], _, _ => rfl
  | v :: vs, i, h => by
    unfold L2.wipe
    rw [List.getElem?_set_ne (by intro z; subst z; simp at h)]
    exact wipe_not (by intro z; exact h (by simp [z]))
/-- a state whose own slots are forgotten, over the slots as they were -/
theorem RepS.unwipe {vs : List Nat} (R : RepS K F0 H0 P (wipeD δ vs) (L2.wipe σ vs) F H) : RepS K F0 H0 P (wipeD δ vs) σ F H := by
  obtain ⟨w, h1, hw⟩ := R.own
  refine ⟨R.e1, R.e2, R.e3, R.fr, R.tp, by rw [R.len, L2.wipe_length], ⟨w, h1, fun i s e => ?_⟩, R.low, R.rsv⟩
  obtain ⟨v, ev, q⟩ := hw i s e
  rw [wipe_not (wipeD_none e).1] at ev
  exact ⟨v, ev, q⟩
theorem RepS.rest2 {P0 : Pl} {F1 H1 : Hp} (R0 : RepS K F0 H0 P0 δ0 σ F1 H1) (ex : Ex F1 F) : ∀ {vs : List Nat} {δ : Dl}, RepS K F0 H0 P δ σ F H → RepS K F0 H0 P (restD δ0 δ vs) σ F H
  | [], δ, R => R
  | v :: vs, δ, R => by
    have ih := RepS.rest2 R0 ex (vs := vs) R
    unfold restD
    split
    · rename_i d e
      obtain ⟨u, eu, r⟩ := R0.fz e
      have := ih.setF v (r.mono ex)
      have es : σ.set v (some u) = σ := by
        apply List.ext_getElem?
        intro i
        by_cases hi : v = i
        · subst hi
          have := (List.getElem?_eq_some_iff.mp eu).1
          rw [List.getElem?_set_self this, eu]
        · rw [List.getElem?_set_ne hi]
      rw [es] at this
      exact this
    · have hl : (restD δ0 δ vs).length = (restD δ0 δ vs).length := rfl
      refine ih.weak (by simp) fun i s e => ?_
      by_cases hi : v = i
      · subst hi
        by_cases hl : v < (restD δ0 δ vs).length
        · rw [List.getElem?_set_self hl] at e; cases e
        · rw [List.getElem?_eq_none (by simpa using hl)] at e; cases e
      · rw [List.getElem?_set_ne hi] at e; exact e
theorem RepS.mapP {Q : Pl} (R : RepS K F0 H0 P δ σ F H) (h : Q = P) : RepS K F0 H0 Q δ σ F H := h ▸ R
end

section
variable {X : Cx} {K : PySem.W.Frag} {e a b c o : Expr} {es : List Expr} {ta tb tc te tk tv : DE} {tw : DV} {st : Stmt} {rest body : List Stmt} {t u : DS} {ts : DA} {tA tB : DT} {pos p apos cpos : Pos}
def dYes : DT := fun δ Q => Q δ true
theorem tests_nil : PTs X [] (upT K dYes) := ⟨fun pins s σ H Q I h => pts_nil.run pins s σ H Q I (by
  obtain ⟨F0, H0, P, δ, F, Q', R, ht, k⟩ := h
  exact k δ F H true R (Ex.refl F) ht)⟩
theorem tests_one (h : PT X c (upT K tA)) : PTs X [c] (upT K tA) := pts_one h
/-- [elt for target in walked if test] -/
def dLc (wi : DI) (g : DG) (tt : DT) (te : DE) (vs : List Nat) : DOw := fun δ Q => wi δ fun δ1 ds => ds.length ≤ sizeLine ∧ ∃ I : Nat → Dl → List D → Prop, I 0 (wipeD δ1 vs) [] ∧
  (∀ i d δ2 acc, ds[i]? = some d → I i δ2 acc → g d δ2 fun δ3 => tt δ3 fun δ4 b => if b = true then te δ4 fun δ5 y => I (i + 1) (wipeD δ5 vs) (acc ++ [y]) else I (i + 1) (wipeD δ4 vs) acc) ∧
  ∀ δ2 acc, I ds.length δ2 acc → Q (restD δ1 (wipeD δ2 vs) vs) (.lst acc)
theorem YldD.keepsAt {F H H' : Hp} {x : V} {d : D} {D : Addr} {o : HO} (y : YldD K F H x H' d) (h : H D = some o) : H' D = some o := by
  cases y with
  | plain _ => exact h
  | pair hT _ => rw [upd_ne (ne_of_none h hT)]; exact h
/-- a comprehension's target touches its own slots alone -/
def CT (K : PySem.W.Frag) (vs : List Nat) (g0 : TG) (g : DG) : Prop := ∀ (F0 H0 : Hp) (P : Pl) (δ : Dl) (σ : L2.St) (F H : Hp) (x : V) (d : D) (Q' : Dl → Prop) (Q : L2.St → Hp → Prop),
  RepS K F0 H0 P δ σ F H → Rep K F x d → g d δ Q' → (∀ δ' σ', RepS K F0 H0 P δ' σ' F H → L2.wipe σ' vs = L2.wipe σ vs → Q' δ' → Q σ' H) → g0 x σ H Q
def CTs (K : PySem.W.Frag) (vs : List Nat) (g0 : TGs) (g : DGs) : Prop := ∀ (F0 H0 : Hp) (P : Pl) (δ : Dl) (σ : L2.St) (F H : Hp) (x : List V) (d : List D) (Q' : Dl → Prop) (Q : L2.St → Hp → Prop),
  RepS K F0 H0 P δ σ F H → RepL K F x d → g d δ Q' → (∀ δ' σ', RepS K F0 H0 P δ' σ' F H → L2.wipe σ' vs = L2.wipe σ vs → Q' δ' → Q σ' H) → g0 x σ H Q
theorem wipe_get {σ : L2.St} {j : Nat} : ∀ {vs : List Nat}, (L2.wipe σ vs)[j]? = if j ∈ vs ∧ j < σ.length then some none else σ[j]?
  | [] => by simp [L2.wipe]
  | v :: vs => by
    unfold L2.wipe
    by_cases e : v = j
    · subst e
      rw [List.getElem?_set]
      by_cases hl : v < σ.length
      · simp [L2.wipe_length, hl]
      · simp [L2.wipe_length, hl]
    · rw [List.getElem?_set_ne e, wipe_get (vs := vs)]
      simp [Ne.symm e]
theorem wipe_set {σ : L2.St} {x : Option V} {vs : List Nat} {i : Nat} (h : i ∈ vs) : L2.wipe (σ.set i x) vs = L2.wipe σ vs := by
  apply List.ext_getElem?
  intro j
  rw [wipe_get, wipe_get]
  simp only [List.length_set]
  by_cases e : i = j
  · subst e
    by_cases hl : i < σ.length
    · simp [h, hl]
    · simp [hl]
  · rw [List.getElem?_set_ne e]
theorem wipe_wipe {σ : L2.St} {vs : List Nat} : L2.wipe (L2.wipe σ vs) vs = L2.wipe σ vs := by
  apply List.ext_getElem?
  intro j
  rw [wipe_get, wipe_get, L2.wipe_length]
  split <;> rfl
theorem ct_name {vs : List Nat} {i : Nat} (h : i ∈ vs := by decide) : CT K vs (gName i) (gN i) := fun F0 H0 P δ σ F H x d Q' Q R r g k => k _ _ (R.setF i r) (wipe_set h) g
theorem cts_nil {vs : List Nat} : CTs K vs gNil gsNil := fun F0 H0 P δ σ F H x d Q' Q R r ⟨e, g⟩ k => by
  subst e
  cases r
  exact ⟨rfl, k δ σ R rfl g⟩
theorem cts_cons {vs : List Nat} {g0 : TG} {g : DG} {gs0 : TGs} {gs : DGs} (h1 : CT K vs g0 g) (h2 : CTs K vs gs0 gs) : CTs K vs (gCons g0 gs0) (gsCons g gs) := fun F0 H0 P δ σ F H x d Q' Q R r ⟨d1, dr, e, g⟩ k => by
  subst e
  cases r with
  | cons r rr => exact ⟨_, _, rfl, h1 F0 H0 P δ σ F H _ d1 _ _ R r g fun δ1 σ1 R1 w1 g1 => h2 F0 H0 P δ1 σ1 F H _ dr _ _ R1 rr g1 fun δ2 σ2 R2 w2 q => k δ2 σ2 R2 (w2.trans w1) q⟩
theorem ct_tup {vs : List Nat} {gs0 : TGs} {gs : DGs} {n : Nat} (h : CTs K vs gs0 gs) : CT K vs (gTup K n gs0) (gTp n gs) := fun F0 H0 P δ σ F H x d Q' Q R r ⟨ds, e, hl, g⟩ k => by
  subst e
  cases r with
  | tup h1 rs => exact ⟨_, _, rfl, .inl (.inl (R.e3 _ _ h1)), by rw [rs.length]; exact hl, h F0 H0 P δ σ F H _ ds _ _ R rs g k⟩
theorem lc_up {wi : DI} {g0 : TG} {g : DG} {tt : DT} {vs : List Nat} {σ : L2.St} {H : Hp} {Q : VK} (gk : CT K vs g0 g) (h : upO K (dLc wi g tt te vs) σ H Q) :
    tLc (upI K wi) g0 (upT K tt) (upE K te) vs σ H Q := by
  obtain ⟨F0, H0, P, δ, F, Q', R, ht, k⟩ := h
  refine ⟨F0, H0, P, δ, F, _, R, ht, fun δ1 F1 H1 J ds R1 e1 wk ⟨hsz, I, i0, is, id⟩ D hD => ?_⟩
  have hDP := R1.fresh hD
  have RD : RepS K F0 H0 ((D, .lst []) :: P) (wipeD δ1 vs) (L2.wipe σ vs) F1 (upd H1 D (.lst [])) := (R1.newP hD).wipe vs
  refine ⟨fun i m H2 => m = ds.length - i ∧ i ≤ ds.length ∧ ∃ δ2 F2 acc ws, RepS K F0 H0 ((D, .lst ws) :: P) δ2 (L2.wipe σ vs) F2 H2 ∧ Ex F1 F2 ∧ RepL K F2 ws acc ∧ acc.length ≤ i ∧ I i δ2 acc, ⟨_, rfl, Nat.zero_le _, _, F1, [], [], RD, Ex.refl F1, .nil, Nat.le_refl _, i0⟩, ?_⟩
  rintro i m H2 ⟨rfl, hi, δ2, F2, acc, ws, R2, e2, ra, hacc, q2⟩
  by_cases hlt : i < ds.length
  · have hd : ds[i]? = some ds[i] := List.getElem?_eq_getElem hlt
    refine .inr ⟨wk.go i H2 hlt (e2.trans R2.e3), fun H3 => ∃ δ3 F3 acc ws, RepS K F0 H0 ((D, .lst ws) :: P) δ3 (L2.wipe σ vs) F3 H3 ∧ Ex F1 F3 ∧ RepL K F3 ws acc ∧ acc.length ≤ i + 1 ∧ I (i + 1) δ3 acc,
      fun H3 ⟨δ3, F3, acc, ws, a1, a2, a4, a5, a6⟩ => ⟨_, by omega, rfl, hlt, δ3, F3, acc, ws, a1, a2, a4, a5, a6⟩, fun x H3 y => ?_⟩
    have y' := wk.yld i _ F2 H2 x H3 hd e2 R2.e3 R2.tp y
    obtain ⟨F3, R3, e3, rx⟩ := y'.rep R2
    refine gk F0 H0 _ _ _ F3 H3 x _ _ _ R3 rx (is i _ _ acc hd q2) fun δ4 σ4 R4 w4 q4 => ⟨w4.trans wipe_wipe, ?_⟩
    have w5 : L2.wipe σ4 vs = L2.wipe σ vs := w4.trans wipe_wipe
    refine ⟨F0, H0, _, δ4, F3, _, R4, q4, fun δ5 F5 H5 b R5 e5 q5 => ?_⟩
    cases b with
    | true =>
      rw [if_pos rfl] at q5 ⊢
      refine ⟨F0, H0, _, δ5, F5, _, R5, q5, fun δ6 F6 H6 z zd R6 e6 rz q6 => ⟨ws, (R6.rsv D _ (by simp)).2.2, ?_, ?_⟩⟩
      · rw [ra.length]; exact Nat.lt_of_le_of_lt hacc (Nat.lt_of_lt_of_le hlt hsz)
      · have e36 : Ex F2 F6 := (e3.trans e5).trans e6
        exact ⟨_, F6, _, _, w5 ▸ ((R6.wrP hDP _).wipe vs), e2.trans e36, (ra.mono e36).app (.cons rz .nil), by simp; exact hacc, q6⟩
    | false =>
      rw [if_neg (by decide)] at q5 ⊢
      have e36 : Ex F2 F5 := e3.trans e5
      exact ⟨_, F5, _, _, w5 ▸ (R5.wipe vs), e2.trans e36, ra.mono e36, Nat.le_succ_of_le hacc, q5⟩
  · have e : i = ds.length := by omega
    subst e
    refine .inl ⟨wk.stop H2 (e2.trans R2.e3), ?_⟩
    have R3 : RepS K F0 H0 ((D, .lst ws) :: P) (wipeD δ2 vs) σ F2 H2 := by
      refine RepS.unwipe (vs := vs) ?_
      have := R2.wipe vs
      rwa [wipe_wipe] at this
    have R4 : RepS K F0 H0 ((D, .lst ws) :: P) (restD δ1 (wipeD δ2 vs) vs) σ F2 H2 := RepS.rest2 R1 e2 R3
    exact k _ F2 H2 D _ _ R4 hDP (e1.trans e2) (show OwnAt K F2 H2 D (.lst acc) from ⟨ws, (R2.rsv D _ (by simp)).2.2, ra⟩) (id _ acc q2)
end
end Mv

namespace Mv
open PySem PySem.Spec PyProof.Rows L2

/-! ### values as plain data -/
def keyP : Key → PyData
  | .inl i => .int i
  | .inr s => .str s
mutual
def toP : D → Option PyData
  | .non => some .none
  | .bl b => some (.bool b)
  | .int i => some (.int i)
  | .str s => some (.str s)
  | .tup xs => (toPs xs).map .tuple
  | .lst xs => (toPs xs).map .list
  | .dk kvs => (toPk kvs).map .dict
  | .dt kvs => (toPt kvs).map .dict
  | _ => none
def toPs : List D → Option (List PyData)
  | [] => some []
  | d :: ds => (toP d).bind fun p => (toPs ds).map (p :: ·)
def toPk : List (Key × D) → Option (List (PyData × PyData))
  | [] => some []
  | (k, d) :: ds => (toP d).bind fun p => (toPk ds).map ((keyP k, p) :: ·)
def toPt : List (List Key × D) → Option (List (PyData × PyData))
  | [] => some []
  | (k, d) :: ds => (toP d).bind fun p => (toPt ds).map ((.tuple (k.map keyP), p) :: ·)
end
theorem tup_reads {h : Heap} {P : Program} {w : World} {H : Hp} (ok : HOk P w H h) {a : Addr} {vs : List V} (e : H a = some (.tup vs)) : ∃ (its : List Value) (o : Obj) (n : Nat), Vals vs its ∧ h.get? a = some o ∧ o.cls = .type "tuple" ∧ o.data = .seq its.toArray n := by
  obtain ⟨_, its, r, o, h1, h2, n, h3⟩ := ok a _ e
  exact ⟨its, o, n, r, h1, h2, h3⟩
theorem keys_reads {h : Heap} : ∀ {ks : List Key} {us : List Value}, Vals (ks.map kV) us → ReadsAll h us (ks.map keyP) []
  | [], _, .nil => .nil
  | .inl i :: ks, _, .cons r t => by
    obtain ⟨tk, rfl⟩ := r
    exact .cons (as := []) (bs := []) (.int i tk) (keys_reads t)
  | .inr z :: ks, _, .cons r t => by
    obtain ⟨tk, rfl⟩ := r
    exact .cons (as := []) (bs := []) (.str z tk) (keys_reads t)
theorem keyIs_reads {h : Heap} {k : Key} {v : Value} (e : keyIs k v = true) : Reads h v (keyP k) [] := by
  rcases keyIs_shape e with ⟨i, t, rfl, rfl⟩ | ⟨x, t, rfl, rfl⟩
  · exact .int i t
  · exact .str x t
section
variable {K : PySem.W.Frag} {F H : Hp} {h : Heap} {P : Program} {w : World}
/-- what a value reads as, away from sys.modules -/
def Rds (h : Heap) (u : Value) (p : PyData) : Prop := ∃ as, Reads h u p as ∧ sysModules ∉ as
def RdsAll (h : Heap) (u : List Value) (p : List PyData) : Prop := ∃ as, ReadsAll h u p as ∧ sysModules ∉ as
theorem RdsAll.cons {u : Value} {us : List Value} {p : PyData} {ps : List PyData} (a : Rds h u p) (b : RdsAll h us ps) : RdsAll h (u :: us) (p :: ps) := by
  obtain ⟨as, r, n⟩ := a
  obtain ⟨bs, r2, n2⟩ := b
  exact ⟨_, .cons r r2, by simp [n, n2]⟩
theorem lst_rds {a : Addr} {o : HO} {vs : List V} (ok : HOk P w H h) (e : Rd H a (.lst vs)) (na : a ≠ sysModules) {ps : List PyData} (q : ∀ us, Vals vs us → RdsAll h us ps) : Rds h (.ref a) (.list ps) := by
  obtain ⟨_, its, n, r, ho⟩ := e.ok ok
  obtain ⟨as, ra, nn⟩ := q _ r
  exact ⟨_, .list ho rfl rfl (by simpa using ra), by simp [nn, Ne.symm na]⟩
theorem tup_rds {a : Addr} {vs : List V} (ok : HOk P w H h) (e : H a = some (.tup vs)) {ps : List PyData} (q : ∀ us, Vals vs us → RdsAll h us ps) : Rds h (.ref a) (.tuple ps) := by
  obtain ⟨its, o, n, r, h1, h2, h3⟩ := tup_reads ok e
  obtain ⟨as, ra, nn⟩ := q _ r
  exact ⟨_, .tuple h1 h2 h3 (by simpa using ra), nn⟩
theorem pairs_rds {P : Program} {w : World} : ∀ {es : List DictEntry} {vs : List (Key × Value)}, Pairs (mixKind P w) es vs → ReadsAll h (es.map (·.key)) ((vs.map (·.1)).map keyP) [] ∧ es.map (·.val) = vs.map (·.2)
  | _, _, .nil => ⟨.nil, rfl⟩
  | _, _, .cons h1 h2 t => by
    obtain ⟨a, b⟩ := pairs_rds t
    exact ⟨.cons (as := []) (bs := []) (keyIs_reads h1) a, by simp [h2, b]⟩
theorem paired_keys {κ : Type} : ∀ {ws : List (κ × V)} {vs : List (κ × Value)}, KV ws vs → ws.map (·.1) = vs.map (·.1) ∧ Vals (ws.map (·.2)) (vs.map (·.2))
  | _, _, .nil => ⟨rfl, .nil⟩
  | _, _, .cons ⟨e, r⟩ t => by
    obtain ⟨a, b⟩ := paired_keys t
    exact ⟨by simp [e, a], .cons r b⟩
theorem dk_rds {a : Addr} {ws : List (Key × V)} (ok : HOk P w H h) (e : Rd H a (.dK ws)) {ps : List PyData} (q : ∀ us, Vals (ws.map (·.2)) us → RdsAll h us ps) : Rds h (.ref a) (.dict (((ws.map (·.1)).map keyP).zip ps)) := by
  obtain ⟨_, na, vs, kv, o, es, ep, ho, hx, hd, _, hp, _⟩ := e.ok ok
  obtain ⟨k1, k2⟩ := paired_keys kv
  obtain ⟨r1, r2⟩ := pairs_rds (h := h) hp
  obtain ⟨bs, rb, nb⟩ := q _ k2
  have hl : ps.length = ws.length := by
    have e1 : ∀ {us : List Value} {ps : List PyData} {as : List Addr}, ReadsAll h us ps as → us.length = ps.length := by
      intro us ps as r
      induction us generalizing ps as with
      | nil => cases r; rfl
      | cons u us ih => cases r with | cons a b => simp [ih b]
    have := e1 rb
    have e2 := congrArg List.length k1
    simp at this e2
    omega
  refine ⟨_, .dict (as := []) (bs := bs) ho hx.1 hd ?_ ?_, ?_⟩
  · rw [List.map_fst_zip (by simp [hl]), k1]; exact r1
  · rw [List.map_snd_zip (by simp [hl]), r2]; exact rb
  · have : a ≠ sysModules := by simpa using na
    simp [nb, Ne.symm this]
theorem dt_keys (ok : HOk P w H h) : ∀ {ws : List (List Key × V)} {xs : List (List Key × Addr × Value)}, Paired (fun (p : List Key × V) (q : List Key × Addr × Value) => p.1 = q.1 ∧ H q.2.1 = some (.tup (p.1.map kV)) ∧ RelV p.2 q.2.2) ws xs →
    ReadsAll h ((xs.map (entryOfKey (tupleKind (mixKind P w)))).map (·.key)) ((ws.map (·.1)).map fun k => .tuple (k.map keyP)) [] ∧ Vals (ws.map (·.2)) ((xs.map (entryOfKey (tupleKind (mixKind P w)))).map (·.val))
  | _, _, .nil => ⟨.nil, .nil⟩
  | _, _, .cons ⟨e, ht, r⟩ t => by
    obtain ⟨a, b⟩ := dt_keys ok t
    obtain ⟨its, o, n, rv, h1, h2, h3⟩ := tup_reads ok ht
    exact ⟨.cons (as := []) (bs := []) (.tuple h1 h2 h3 (by simpa using keys_reads rv)) a, .cons r b⟩
theorem dt_rds {a : Addr} {ws : List (List Key × V)} (ok : HOk P w H h) (e : Rd H a (.dT ws)) {ps : List PyData} (q : ∀ us, Vals (ws.map (·.2)) us → RdsAll h us ps) : Rds h (.ref a) (.dict (((ws.map (·.1)).map fun k => .tuple (k.map keyP)).zip ps)) := by
  obtain ⟨_, na, xs, kt, o, es, ep, ho, hx, hd, he, _⟩ := e.ok ok
  obtain ⟨r1, k2⟩ := dt_keys ok kt
  obtain ⟨bs, rb, nb⟩ := q _ k2
  have hl : ps.length = ws.length := by
    have e1 : ∀ {us : List Value} {ps : List PyData} {as : List Addr}, ReadsAll h us ps as → us.length = ps.length := by
      intro us ps as r
      induction us generalizing ps as with
      | nil => cases r; rfl
      | cons u us ih => cases r with | cons a b => simp [ih b]
    have := e1 rb
    have e2 := k2.length
    simp at this e2
    omega
  refine ⟨_, .dict (as := []) (bs := bs) ho hx.1 hd ?_ ?_, ?_⟩
  · rw [List.map_fst_zip (by simp [hl]), he]; exact r1
  · rw [List.map_snd_zip (by simp [hl]), he]; exact rb
  · have : a ≠ sysModules := by simpa using na
    simp [nb, Ne.symm this]
theorem Low.ne {a : Addr} {o : Obj} {u : HO} (lo : Low F) (e : F a = some (.frz o u)) (nx : ∀ φ, u ≠ .ext φ) : a ≠ sysModules := fun z => by
  subst z
  obtain ⟨o', h⟩ := lo
  rw [e] at h; cases h
  exact nx _ rfl
mutual
theorem Rep.reads (ok : HOk P w H h) (ex : Ex F H) (lo : Low F) : ∀ {v : V} {d : D} {p : PyData} {u : Value}, Rep K F v d → toP d = some p → RelV v u → Rds h u p
  | _, _, _, _, .non, e, r => by cases r; cases e; exact ⟨_, .none, by simp⟩
  | _, _, _, _, .bl b, e, r => by cases r; cases e; exact ⟨_, .bool b, by simp⟩
  | _, _, _, _, .int i, e, r => by obtain ⟨t, rfl⟩ := r; cases e; exact ⟨_, .int i t, by simp⟩
  | _, _, _, _, .str x, e, r => by obtain ⟨t, rfl⟩ := r; cases e; exact ⟨_, .str x t, by simp⟩
  | _, _, _, _, .tup h1 rs, e, r => by
    cases r
    simp only [toP, Option.map_eq_some_iff] at e
    obtain ⟨ps, e, rfl⟩ := e
    exact tup_rds ok (ex _ _ h1) fun us rv => RepL.reads ok ex lo rs e rv
  | _, _, _, _, .lst h1 rs, e, r => by
    cases r
    simp only [toP, Option.map_eq_some_iff] at e
    obtain ⟨ps, e, rfl⟩ := e
    exact lst_rds (o := .lst []) ok (.inr ⟨_, ex _ _ h1⟩) (lo.ne h1 (fun φ z => nomatch z)) fun us rv => RepL.reads ok ex lo rs e rv
  | _, _, _, _, .dk (ws := ws) (kvs := kvs) h1 rs, e, r => by
    cases r
    simp only [toP, Option.map_eq_some_iff] at e
    obtain ⟨ps, e, rfl⟩ := e
    obtain ⟨qs, eq, q⟩ := RepK.reads ok ex lo rs e
    subst eq
    exact dk_rds ok (.inr ⟨_, ex _ _ h1⟩) q
  | _, _, _, _, .dt (ws := ws) (kvs := kvs) h1 rs, e, r => by
    cases r
    simp only [toP, Option.map_eq_some_iff] at e
    obtain ⟨ps, e, rfl⟩ := e
    obtain ⟨qs, eq, q⟩ := RepT.reads ok ex lo rs e
    subst eq
    exact dt_rds ok (.inr ⟨_, ex _ _ h1⟩) q
  | _, _, _, _, .scr _, e, r => by simp [toP] at e
  | _, _, _, _, .obj _ _, e, r => by simp [toP] at e
theorem RepL.reads (ok : HOk P w H h) (ex : Ex F H) (lo : Low F) : ∀ {vs : List V} {ds : List D} {ps : List PyData} {us : List Value}, RepL K F vs ds → toPs ds = some ps → Vals vs us → RdsAll h us ps
  | _, _, _, _, .nil, e, r => by cases r; cases e; exact ⟨_, .nil, by simp⟩
  | _, _, _, _, .cons r1 rs, e, r => by
    cases r with
    | cons a b =>
      simp only [toPs, Option.bind_eq_some_iff, Option.map_eq_some_iff] at e
      obtain ⟨p, e1, ps, e2, rfl⟩ := e
      exact RdsAll.cons (Rep.reads ok ex lo r1 e1 a) (RepL.reads ok ex lo rs e2 b)
theorem RepK.reads (ok : HOk P w H h) (ex : Ex F H) (lo : Low F) : ∀ {ws : List (Key × V)} {kvs : List (Key × D)} {ps : List (PyData × PyData)}, RepK K F ws kvs → toPk kvs = some ps → ∃ qs, ps = ((ws.map (·.1)).map keyP).zip qs ∧ ∀ us, Vals (ws.map (·.2)) us → RdsAll h us qs
  | _, _, _, .nil, e => by cases e; exact ⟨[], rfl, fun us r => by cases r; exact ⟨_, .nil, by simp⟩⟩
  | _, _, _, .cons r1 rs, e => by
    simp only [toPk, Option.bind_eq_some_iff, Option.map_eq_some_iff] at e
    obtain ⟨p, e1, ps, e2, rfl⟩ := e
    obtain ⟨qs, rfl, q⟩ := RepK.reads ok ex lo rs e2
    refine ⟨p :: qs, rfl, fun us r => ?_⟩
    cases r with
    | cons a b => exact RdsAll.cons (Rep.reads ok ex lo r1 e1 a) (q _ b)
theorem RepT.reads (ok : HOk P w H h) (ex : Ex F H) (lo : Low F) : ∀ {ws : List (List Key × V)} {kvs : List (List Key × D)} {ps : List (PyData × PyData)}, RepT K F ws kvs → toPt kvs = some ps → ∃ qs, ps = ((ws.map (·.1)).map fun k => PyData.tuple (k.map keyP)).zip qs ∧ ∀ us, Vals (ws.map (·.2)) us → RdsAll h us qs
  | _, _, _, .nil, e => by cases e; exact ⟨[], rfl, fun us r => by cases r; exact ⟨_, .nil, by simp⟩⟩
  | _, _, _, .cons r1 rs, e => by
    simp only [toPt, Option.bind_eq_some_iff, Option.map_eq_some_iff] at e
    obtain ⟨p, e1, ps, e2, rfl⟩ := e
    obtain ⟨qs, rfl, q⟩ := RepT.reads ok ex lo rs e2
    refine ⟨p :: qs, rfl, fun us r => ?_⟩
    cases r with
    | cons a b => exact RdsAll.cons (Rep.reads ok ex lo r1 e1 a) (q _ b)
end
end
end Mv

namespace Mv
open PySem PySem.Spec PyProof.Rows L2
def EqIn (prog : Program) (w : World) (A : Around) (s : Shared) (y x : Value) (b : Bool) : Prop :=
  ∀ (E : Value → Shared → Prop) (Q : Bool → Shared → Prop), Q b s → wpAny (model prog w) A (eqBool y x) Q E s

/-! ### equality of dicts: one walk for both kinds of keys -/
section
variable {prog : Program} {w : World} {A : Around} {E : Value → Shared → Prop} {s : Shared}
/-- looking the i-th key of es up in the dict at b gives f i; the values compare as e i -/
def Hits (prog : Program) (w : World) (A : Around) (s : Shared) (b : Addr) (es es' : Array DictEntry) (f : Nat → Option Nat) (e : Nat → Bool) : Prop :=
  ∀ i (h : i < es.size), (∀ (E : Value → Shared → Prop) (Q : Option Nat → Shared → Prop), Q (f i) s → wpAny (model prog w) A (dictFind b es[i].key es[i].hash) Q E s) ∧
    ∀ j, f i = some j → ∃ h' : j < es'.size, EqIn prog w A s es[i].val es'[j].val (e i)
def allFrom (f : Nat → Option Nat) (e : Nat → Bool) (n : Nat) : Nat → Bool
  | i => ((List.range' i (n - i)).all fun k => (f k).isSome && e k)
theorem same_pairs {nm : String} {a b : Addr} {oa ob : Obj} {es es' : Array DictEntry} {ep ep' : Nat} {f : Nat → Option Nat} {e : Nat → Bool} {Q : Bool → Shared → Prop} (ha : (a == sysModules) = false) (hb : (b == sysModules) = false)
    (hoa : s.heap.get? a = some oa) (hda : oa.data = .dict es ep) (hob : s.heap.get? b = some ob) (hdb : ob.data = .dict es' ep') (hits : es.size = es'.size → Hits prog w A s b es es' f e)
    (h : Q (es.size == es'.size && (List.range' 0 es.size).all fun k => (f k).isSome && e k) s) : wpAny (model prog w) A (Builtin.Dict.samePairs nm a b) Q E s := by
  unfold Builtin.Dict.samePairs Builtin.Dict.showsAll
  rw [if_neg (show ¬ (a == sysModules) = true by rw [ha]; exact Bool.false_ne_true), if_neg (show ¬ (b == sysModules) = true by rw [hb]; exact Bool.false_ne_true)]
  refine wpAny_bind (wpAny_pure (wpAny_bind (wpAny_pure ?_)))
  refine wpAny_bind (wpAny_dictEntries hoa hda ?_)
  dsimp only
  refine wpAny_bind (wpAny_dictEntries hob hdb ?_)
  by_cases hsz : es.size = es'.size
  case neg =>
    rw [if_pos (by simpa using hsz)]
    have hbf : (es.size == es'.size) = false := by simpa using hsz
    rw [hbf, Bool.false_and] at h
    exact wpAny_bind (wpAny_rule (wpAny_pure h))
  case pos =>
    have h' : Q ((List.range' 0 es.size).all fun k => (f k).isSome && e k) s := by simpa [hsz] using h
    have hits' := hits hsz
    rw [if_neg (by rw [hsz]; simp)]
    refine wpAny_bind (wpAny_dictEpoch hoa hda ?_)
    refine wpAny_bind ?_
    rw [Std.Legacy.Range.forIn_eq_forIn_range']
    simp only [Std.Legacy.Range.size, Nat.sub_zero, Nat.add_sub_cancel, Nat.div_one]
    refine wpAny_forIn_list _ (fun rest q s' => s' = s ∧ q = (none, ()) ∧ ∃ i, rest = List.range' i (es.size - i) ∧ i ≤ es.size ∧ ((List.range' 0 es.size).all fun k => (f k).isSome && e k) = ((List.range' i (es.size - i)).all fun k => (f k).isSome && e k))
      _ ?_ ?_ _ _ ⟨rfl, rfl, 0, by simp, Nat.zero_le _, rfl⟩
    · rintro x rest q s' ⟨rfl, rfl, i, hr, hi, hpre⟩
      have hlt : i < es.size := by
        rcases Nat.lt_or_ge i es.size with h | h
        · exact h
        · rw [Nat.sub_eq_zero_of_le h] at hr; simp at hr
      have e1 : es.size - i = (es.size - (i + 1)) + 1 := by omega
      rw [e1, List.range'_succ] at hr hpre
      injection hr with h1 h2
      subst h1 h2
      rw [List.all_cons] at hpre
      obtain ⟨look, cmp⟩ := hits' x hlt
      refine wpAny_bind (wpAny_dictEntries hoa hda ?_)
      rw [Array.getElem?_eq_getElem hlt]
      show wpAny _ _ (holding [es[x].key, es[x].val] _ >>= _) _ _ _
      refine wpAny_bind (wpAny_holding (wpAny_bind (look _ _ ?_)))
      cases hj : f x with
      | none =>
        rw [hpre, hj] at h'
        refine wpAny_pure ?_
        show wpAny _ _ (if (!false) = true then _ else _) _ _ _
        rw [if_pos (by decide)]
        exact wpAny_pure (wpAny_pure (by simpa using h'))
      | some j =>
        obtain ⟨hjlt, he⟩ := cmp j hj
        refine wpAny_bind (wpAny_dictEntries hob hdb ?_)
        rw [Array.getElem?_eq_getElem hjlt]
        refine wpAny_holding (he _ _ ?_)
        cases hv : e x with
        | false =>
          rw [hpre, hj, hv] at h'
          show wpAny _ _ (if (!false) = true then _ else _) _ _ _
          rw [if_pos (by decide)]
          exact wpAny_pure (wpAny_pure (by simpa using h'))
        | true =>
          rw [hj, hv] at hpre
          show wpAny _ _ (if (!true) = true then _ else _) _ _ _
          rw [if_neg (by decide)]
          refine wpAny_bind (wpAny_dictEpoch hoa hda ?_)
          rw [if_neg (by simp)]
          exact wpAny_pure ⟨rfl, rfl, x + 1, rfl, hlt, by simpa using hpre⟩
    · rintro q s' ⟨rfl, rfl, i, hr, hi, hpre⟩
      have hin : i = es.size := by
        rcases Nat.lt_or_ge i es.size with h | h
        · have e : es.size - i = (es.size - (i + 1)) + 1 := by omega
          rw [e, List.range'_succ] at hr; exact nomatch hr
        · exact Nat.le_antisymm hi h
      subst hin
      refine wpAny_pure ?_
      rw [hpre] at h'
      simpa using h'
/-- == of two dicts -/
theorem rc_dicts {a b : Addr} {oa ob : Obj} {es es' : Array DictEntry} {ep ep' : Nat} {f : Nat → Option Nat} {e : Nat → Bool} {Q : Value → Shared → Prop} (ha : (a == sysModules) = false) (hb : (b == sysModules) = false)
    (hoa : s.heap.get? a = some oa) (xa : oa.ExactDict) (hda : oa.data = .dict es ep) (hob : s.heap.get? b = some ob) (xb : ob.ExactDict) (hdb : ob.data = .dict es' ep') (hu : A.units < cLine) (hits : es.size = es'.size → Hits prog w A.in1 s b es es' f e)
    (h : Q (.bool (es.size == es'.size && (List.range' 0 es.size).all fun k => (f k).isSome && e k)) s) : wpAny (model prog w) A (compareOp .Eq (.ref a) (.ref b)) Q E s := by
  have ta : s.TypeIs (.ref a) "dict" := ⟨_, hoa, xa.1⟩
  have tb : s.TypeIs (.ref b) "dict" := ⟨_, hob, xb.1⟩
  refine wpAny_richCompare_same_room (op := .Eq) ta tb PySem.F.slot_dict_eq (wpAny_call_entry PySem.F.slot_dict_eq ta PySem.F.entry_dict_eq ?_ (PySem.F.args_dict_eq_2 _ _)) hu
  show wpAny _ _ (Builtin.Dict.dictSlotArgs "__eq__" ⟨[.ref a, .ref b], []⟩ >>= _) _ _ s
  refine wpAny_bind ?_
  unfold Builtin.Dict.dictSlotArgs
  refine wpAny_bind (wpAny_notOrdered_dict ta ?_)
  show wpAny _ _ (pure (Value.ref a, Value.ref b)) _ _ s
  refine wpAny_pure ?_
  refine wpAny_bind (wpAny_isInstance (T := "dict") tb PySem.F.sub_dict_dict ?_)
  simp only [Bool.not_true, Bool.false_eq_true, if_false]
  refine wpAny_bind (wpAny_pure (wpAny_bind (wpAny_pure ?_)))
  refine wpAny_bind (same_pairs ha hb hoa hda hob hdb hits ?_)
  refine wpAny_pure ⟨_, rfl, ?_, ?_⟩
  · exact fun x => nomatch x
  · simpa using h
theorem rcn_dicts {a b : Addr} {oa ob : Obj} {es es' : Array DictEntry} {ep ep' : Nat} {f : Nat → Option Nat} {e : Nat → Bool} {Q : Value → Shared → Prop} (ha : (a == sysModules) = false) (hb : (b == sysModules) = false)
    (hoa : s.heap.get? a = some oa) (xa : oa.ExactDict) (hda : oa.data = .dict es ep) (hob : s.heap.get? b = some ob) (xb : ob.ExactDict) (hdb : ob.data = .dict es' ep') (hu : A.units < cLine) (hits : es.size = es'.size → Hits prog w A.in1 s b es es' f e)
    (h : Q (.bool (!(es.size == es'.size && (List.range' 0 es.size).all fun k => (f k).isSome && e k))) s) : wpAny (model prog w) A (compareOp .NotEq (.ref a) (.ref b)) Q E s := by
  have ta : s.TypeIs (.ref a) "dict" := ⟨_, hoa, xa.1⟩
  have tb : s.TypeIs (.ref b) "dict" := ⟨_, hob, xb.1⟩
  refine wpAny_richCompare_same_room (op := .NotEq) ta tb PySem.F.slot_dict_ne (wpAny_call_entry PySem.F.slot_dict_ne ta PySem.F.entry_dict_ne ?_ (PySem.F.args_dict_ne_2 _ _)) hu
  show wpAny _ _ (Builtin.Dict.dictSlotArgs "__ne__" ⟨[.ref a, .ref b], []⟩ >>= _) _ _ s
  refine wpAny_bind ?_
  unfold Builtin.Dict.dictSlotArgs
  refine wpAny_bind (wpAny_notOrdered_dict ta ?_)
  show wpAny _ _ (pure (Value.ref a, Value.ref b)) _ _ s
  refine wpAny_pure ?_
  refine wpAny_bind (wpAny_isInstance (T := "dict") tb PySem.F.sub_dict_dict ?_)
  simp only [Bool.not_true, Bool.false_eq_true, if_false]
  refine wpAny_bind (wpAny_pure (wpAny_bind (wpAny_pure ?_)))
  refine wpAny_bind (same_pairs ha hb hoa hda hob hdb hits ?_)
  refine wpAny_pure ⟨_, rfl, ?_, ?_⟩
  · exact fun x => nomatch x
  · simpa using h
end
end Mv

namespace Mv
open PySem PySem.Spec PyProof.Rows L2

def eqvD (x y : D) : Bool := match toP x, toP y with
  | some p, some q => PyData.eqv p q
  | _, _ => false
def Pure (x : D) : Prop := ∃ p, toP x = some p ∧ SeqAt.shaped p = true
section
variable {κ : Type} [DecidableEq κ]
def eqG (kvs lvs : List (κ × D)) : Bool := kvs.length == lvs.length && kvs.all fun kv => match valG lvs kv.1 with
  | some d => eqvD kv.2 d
  | none => false
theorem idx_val {lvs : List (κ × D)} {k : κ} : (∀ j, lvs.findIdx? (fun q => decide (q.1 = k)) = some j → ∃ d, lvs[j]? = some (k, d) ∧ valG lvs k = some d) ∧ (lvs.findIdx? (fun q => decide (q.1 = k)) = none → valG lvs k = none) := by
  induction lvs with
  | nil => exact ⟨fun j h => by simp at h, fun _ => rfl⟩
  | cons q r ih =>
    by_cases e : q.1 = k
    · refine ⟨fun j h => ?_, fun h => ?_⟩
      · rw [List.findIdx?_cons] at h
        simp [e] at h
        subst h
        exact ⟨q.2, by simp [← e], by simp [valG, e]⟩
      · rw [List.findIdx?_cons] at h
        simp [e] at h
    · refine ⟨fun j h => ?_, fun h => ?_⟩
      · rw [List.findIdx?_cons] at h
        simp only [e, decide_false, Bool.false_eq_true, if_false, Option.map_eq_some_iff] at h
        obtain ⟨j', h, rfl⟩ := h
        obtain ⟨d, h1, h2⟩ := ih.1 j' h
        exact ⟨d, by simpa using h1, by simpa [valG, e] using h2⟩
      · rw [List.findIdx?_cons] at h
        simp only [e, decide_false, Bool.false_eq_true, if_false, Option.map_eq_none_iff] at h
        simpa [valG, e] using ih.2 h
def fG (kvs lvs : List (κ × D)) (i : Nat) : Option Nat := (kvs[i]?).bind fun kv => lvs.findIdx? fun q => decide (q.1 = kv.1)
def eG (kvs lvs : List (κ × D)) (i : Nat) : Bool := match kvs[i]? with
  | some kv => (match valG lvs kv.1 with
    | some d => eqvD kv.2 d
    | none => false)
  | none => false
theorem all_range {α : Type} (g : Nat → Bool) (p : α → Bool) : ∀ (xs : List α) (s : Nat), (∀ i x, xs[i]? = some x → g (s + i) = p x) → (List.range' s xs.length).all g = xs.all p
  | [], _, _ => rfl
  | x :: xs, s, h => by
    rw [List.length_cons, List.range'_succ, List.all_cons, List.all_cons, all_range g p xs (s + 1) fun i y e => by rw [Nat.add_assoc, Nat.add_comm 1 i]; exact h (i + 1) y (by simpa using e)]
    have := h 0 x rfl
    rw [Nat.add_zero] at this
    rw [this]
theorem eqG_eq (kvs lvs : List (κ × D)) : (kvs.length == lvs.length && (List.range' 0 kvs.length).all fun k => (fG kvs lvs k).isSome && eG kvs lvs k) = eqG kvs lvs := by
  unfold eqG
  congr 1
  refine all_range _ _ kvs 0 fun i x e => ?_
  rw [Nat.zero_add]
  unfold fG eG
  rw [e]
  show ((lvs.findIdx? fun q => decide (q.1 = x.1)).isSome && _) = _
  cases h : lvs.findIdx? fun q => decide (q.1 = x.1) with
  | none => rw [idx_val.2 h]; rfl
  | some j =>
    obtain ⟨d, _, h2⟩ := idx_val.1 j h
    simp [h2]
end
section
variable {P : Program} {w : World} {A : Around} {s : Shared} {K : PySem.W.Frag} {F H : Hp}
theorem pure_eq (ok : HOk P w H s.heap) (ex : Ex F H) (lo : Low F) (hu : A.units + 64 < cLine) {x y : V} {u v : Value} {d e : D} (r1 : Rep K F x d) (r2 : Rep K F y e) (q1 : RelV x u) (q2 : RelV y v) (p1 : Pure d) (p2 : Pure e) : EqIn P w A s u v (eqvD d e) := by
  obtain ⟨p, e1, s1⟩ := p1
  obtain ⟨q, e2, s2⟩ := p2
  obtain ⟨as, ra, _⟩ := r1.reads ok ex lo e1 q1
  obtain ⟨bs, rb, _⟩ := r2.reads ok ex lo e2 q2
  have : eqvD d e = PyData.eqv p q := by unfold eqvD; rw [e1, e2]
  rw [this]
  exact fun E Q h => SeqAt.eqAt_reads p q A s u v as bs ra rb (SeqAt.canLay_of_shaped s1) (SeqAt.canLay_of_shaped s2) (SeqAt.room_of_shaped s1 hu) P w E Q h
theorem arr_idx (es : Array DictEntry) (p : DictEntry → Bool) : es.findIdx? p = es.toList.findIdx? p := by
  cases es; simp
theorem pairs_idx {k : Key} : ∀ {es : List DictEntry} {vs : List (Key × Value)}, Pairs (mixKind P w) es vs → es.findIdx? (fun e => (mixKind P w).is k e.key) = vs.findIdx? fun q => decide (q.1 = k)
  | _, _, .nil => rfl
  | _, _, .cons (e := e) (kv := kv) h1 h2 t => by
    rw [List.findIdx?_cons, List.findIdx?_cons, pairs_idx t]
    have : (mixKind P w).is k e.key = decide (kv.1 = k) := by
      by_cases q : kv.1 = k
      · subst q; simp [h1]
      · cases z : (mixKind P w).is k e.key with
        | false => simp [q]
        | true => exact absurd ((mixKind P w).inj _ _ _ h1 z) q
    rw [this]
theorem idx_keys {κ α β : Type} [DecidableEq κ] {xs : List (κ × α)} {ys : List (κ × β)} (h : xs.map (·.1) = ys.map (·.1)) (k : κ) : (xs.findIdx? fun q => decide (q.1 = k)) = ys.findIdx? fun q => decide (q.1 = k) := by
  have e1 : (xs.findIdx? fun q => decide (q.1 = k)) = (xs.map (·.1)).findIdx? fun q => decide (q = k) := by rw [List.findIdx?_map]; rfl
  have e2 : (ys.findIdx? fun q => decide (q.1 = k)) = (ys.map (·.1)).findIdx? fun q => decide (q = k) := by rw [List.findIdx?_map]; rfl
  rw [e1, e2, h]
theorem Pairs.at {es : List DictEntry} {vs : List (Key × Value)} (h : Pairs (mixKind P w) es vs) : ∀ {i : Nat} {e : DictEntry} {q : Key × Value}, es[i]? = some e → vs[i]? = some q → (mixKind P w).is q.1 e.key = true ∧ e.val = q.2 := by
  induction h with
  | nil => intro i e q h; simp at h
  | cons h1 h2 t ih =>
    intro i e q a b
    cases i with
    | zero => simp at a b; subst a b; exact ⟨h1, h2⟩
    | succ i => exact ih (i := i) (by simpa using a) (by simpa using b)
theorem KV.at {κ : Type} {ws : List (κ × V)} {vs : List (κ × Value)} (h : KV ws vs) : ∀ {i : Nat} {p : κ × V} {q : κ × Value}, ws[i]? = some p → vs[i]? = some q → p.1 = q.1 ∧ RelV p.2 q.2 := by
  induction h with
  | nil => intro i p q h; simp at h
  | cons h1 t ih =>
    intro i p q a b
    cases i with
    | zero => simp at a b; subst a b; exact h1
    | succ i => exact ih (i := i) (by simpa using a) (by simpa using b)
theorem hits_dK (ok : HOk P w H s.heap) (ex : Ex F H) (lo : Low F) (hu : A.units + 64 < cLine) {a b : Addr} {wa wb : List (Key × V)} {ka kb : List (Key × D)} {ob : Obj} {va vb : List (Key × Value)} {es es' : Array DictEntry} {ep' : Nat}
    (ra : RepG K F wa ka) (rb : RepG K F wb kb) (xa : KV wa va) (xb : KV wb vb) (ha : KeysOf (mixKind P w) es) (pa : Pairs (mixKind P w) es.toList va) (hob : s.heap.get? b = some ob) (hdb : ob.data = .dict es' ep') (hb : KeysOf (mixKind P w) es') (pb : Pairs (mixKind P w) es'.toList vb)
    (pu : ∀ q ∈ ka, Pure q.2) (pv : ∀ q ∈ kb, Pure q.2) : Hits P w A s b es es' (fG ka kb) (eG ka kb) := by
  intro i hi
  have la : es.toList.length = va.length := pa.length
  have lb : es'.toList.length = vb.length := pb.length
  have lka : wa.length = ka.length := ra.length
  have lkb : wb.length = kb.length := rb.length
  have kva := (paired_keys xa).1
  have kvb := (paired_keys xb).1
  have lwa : wa.length = va.length := by simpa using congrArg List.length kva
  have lwb : wb.length = vb.length := by simpa using congrArg List.length kvb
  have hiv : i < va.length := by rw [← la]; simpa using hi
  have hik : i < ka.length := by omega
  obtain ⟨⟨k, d⟩, hk⟩ : ∃ q, ka[i]? = some q := ⟨_, List.getElem?_eq_getElem hik⟩
  obtain ⟨v, hw, rv⟩ := ra.get hk
  obtain ⟨⟨k2, u⟩, hv⟩ : ∃ q, va[i]? = some q := ⟨_, List.getElem?_eq_getElem hiv⟩
  obtain ⟨ek, ru⟩ := KV.at xa hw hv
  simp only at ek ru
  subst ek
  have hes : es.toList[i]? = some es[i] := by rw [Array.getElem?_toList]; exact Array.getElem?_eq_getElem hi
  obtain ⟨hkey, hval⟩ := Pairs.at pa hes hv
  obtain ⟨k', hk', hh⟩ := ha es[i] (Array.getElem_mem hi)
  have ekk : k' = k := (mixKind P w).inj _ _ _ hk' hkey
  subst ekk
  have ef : fG ka kb i = es'.findIdx? fun e => (mixKind P w).is k' e.key := by
    unfold fG
    rw [hk]
    show (kb.findIdx? fun q => decide (q.1 = k')) = _
    rw [← idx_keys (rb.keys) k', idx_keys kvb k', ← pairs_idx pb, arr_idx]
  refine ⟨fun E Q h => ?_, fun j hj => ?_⟩
  · rw [hh]
    exact wpAny_dictFind_of hkey hob hdb hb (by rw [← ef]; exact h)
  · have hj' : (kb.findIdx? fun q => decide (q.1 = k')) = some j := by
      have := hj; unfold fG at this; rw [hk] at this; exact this
    obtain ⟨d', hd', hv'⟩ := idx_val.1 j hj'
    obtain ⟨v', hw', rv'⟩ := rb.get hd'
    have hjlt : j < kb.length := (List.getElem?_eq_some_iff.mp hd').1
    have hjv : j < vb.length := by omega
    have hjes : j < es'.size := by have : es'.toList.length = es'.size := Array.length_toList; omega
    obtain ⟨⟨k3, u'⟩, hv3⟩ : ∃ q, vb[j]? = some q := ⟨_, List.getElem?_eq_getElem hjv⟩
    obtain ⟨_, ru'⟩ := KV.at xb hw' hv3
    have hes' : es'.toList[j]? = some es'[j] := by rw [Array.getElem?_toList]; exact Array.getElem?_eq_getElem hjes
    obtain ⟨_, hval'⟩ := Pairs.at pb hes' hv3
    refine ⟨hjes, ?_⟩
    have ee : eG ka kb i = eqvD d d' := by unfold eG; rw [hk]; simp [hv']
    rw [ee, hval, hval']
    exact pure_eq ok ex lo hu rv rv' ru ru' (pu _ (List.mem_of_getElem? hk)) (pv _ (List.mem_of_getElem? hd'))
theorem KT.at {ws : List (List Key × V)} {xs : List (List Key × Addr × Value)} (h : KT H ws xs) : ∀ {i : Nat} {p : List Key × V} {q : List Key × Addr × Value}, ws[i]? = some p → xs[i]? = some q → p.1 = q.1 ∧ H q.2.1 = some (.tup (p.1.map kV)) ∧ RelV p.2 q.2.2 := by
  induction h with
  | nil => intro i p q h; simp at h
  | cons h1 t ih =>
    intro i p q a b
    cases i with
    | zero => simp at a b; subst a b; exact h1
    | succ i => exact ih (i := i) (by simpa using a) (by simpa using b)
theorem hits_dT (ok : HOk P w H s.heap) (ex : Ex F H) (lo : Low F) (hu : A.units + 64 < cLine) {a b : Addr} {wa wb : List (List Key × V)} {ka kb : List (List Key × D)} {ob : Obj} {xa xb : List (List Key × Addr × Value)} {es es' : Array DictEntry} {ep' : Nat}
    (ra : RepG K F wa ka) (rb : RepG K F wb kb) (qa : KT H wa xa) (qb : KT H wb xb) (ha : es.toList = xa.map (entryOfKey (tupleKind (mixKind P w)))) (hob : s.heap.get? b = some ob) (hdb : ob.data = .dict es' ep') (hb : es'.toList = xb.map (entryOfKey (tupleKind (mixKind P w)))) (nb : (xb.map (·.1)).Nodup)
    (pu : ∀ q ∈ ka, Pure q.2) (pv : ∀ q ∈ kb, Pure q.2) : Hits P w A s b es es' (fG ka kb) (eG ka kb) := by
  intro i hi
  have kof : ∀ {wz : List (List Key × V)} {xz : List (List Key × Addr × Value)}, KT H wz xz → wz.map (·.1) = xz.map (·.1) := by
    intro wz xz h
    induction h with
    | nil => rfl
    | cons h1 t ih => simp [h1.1, ih]
  have lka : wa.length = ka.length := ra.length
  have lkb : wb.length = kb.length := rb.length
  have lwa : wa.length = xa.length := by simpa using congrArg List.length (kof qa)
  have lwb : wb.length = xb.length := by simpa using congrArg List.length (kof qb)
  have se : es.size = xa.length := size_of_entries ha
  have sb : es'.size = xb.length := size_of_entries hb
  have hik : i < ka.length := by omega
  obtain ⟨⟨k, d⟩, hk⟩ : ∃ q, ka[i]? = some q := ⟨_, List.getElem?_eq_getElem hik⟩
  obtain ⟨v, hw, rv⟩ := ra.get hk
  obtain ⟨⟨k2, ad, u⟩, hv⟩ : ∃ q, xa[i]? = some q := ⟨_, List.getElem?_eq_getElem (by omega)⟩
  obtain ⟨ek, hT, ru⟩ := KT.at qa hw hv
  simp only at ek hT ru
  subst ek
  have hes : es[i] = entryOfKey (tupleKind (mixKind P w)) (k, ad, u) := by
    have := entry_at ha i
    rw [Array.getElem?_eq_getElem hi, hv] at this
    exact Option.some.inj this
  have his : ∀ x ∈ xb, (tupleKind (mixKind P w)).is s.heap x.1 x.2.1 := fun x hx => by
    obtain ⟨j, hj⟩ := List.getElem?_of_mem hx
    have hjl : j < wb.length := by have := (List.getElem?_eq_some_iff.mp hj).1; omega
    obtain ⟨p, hp⟩ : ∃ p, wb[j]? = some p := ⟨_, List.getElem?_eq_getElem hjl⟩
    obtain ⟨e1, e2, _⟩ := KT.at qb hp hj
    rw [← e1]
    exact key_of ok e2
  have keysB : xb.map (·.1) = kb.map (·.1) := (kof qb).symm.trans rb.keys
  have ef : fG ka kb i = kb.findIdx? fun q => decide (q.1 = k) := by unfold fG; rw [hk]; rfl
  have room : (tupleKind (mixKind P w)).room A := Nat.lt_of_le_of_lt (Nat.le_add_right A.units 64) hu
  have kis := key_of ok hT
  refine ⟨fun E Q h => ?_, fun j hj => ?_⟩
  · rw [hes]
    show wpAny _ _ (dictFind b (.ref ad) ((tupleKind (mixKind P w)).hash k)) _ _ _
    refine wpAny_dictFind_heap (knd := tupleKind (mixKind P w)) (k := k) room kis hob hdb hb his nb (fun hn => ?_) (fun j p hj => ?_)
    · have e0 : (kb.findIdx? fun q => decide (q.1 = k)) = none := by
        rw [← idx_keys keysB k]
        rw [List.findIdx?_eq_none_iff]
        intro x hx
        obtain ⟨j, hj⟩ := List.getElem?_of_mem hx
        by_cases z : x.1 = k
        · exact absurd (by rw [hj, ← z]) (hn j x.2)
        · simp [z]
      rw [ef, e0] at h
      exact h
    · have e0 : (kb.findIdx? fun q => decide (q.1 = k)) = some j := by
        rw [← idx_keys keysB k]
        rw [List.findIdx?_eq_some_iff_getElem]
        have hjl := (List.getElem?_eq_some_iff.mp hj)
        obtain ⟨hl, hje⟩ := hjl
        refine ⟨hl, by simp [hje], fun m hm z => ?_⟩
        have hml : m < xb.length := by omega
        have z := of_decide_eq_true z
        have hm2 : xb[m]? = some (k, xb[m].2) := by rw [List.getElem?_eq_getElem hml, ← z]
        have := idxH_unique nb hm2 hj
        omega
      rw [ef, e0] at h
      exact h
  · rw [ef] at hj
    obtain ⟨d', hd', hv'⟩ := idx_val.1 j hj
    obtain ⟨v', hw', rv'⟩ := rb.get hd'
    have hjlt : j < kb.length := (List.getElem?_eq_some_iff.mp hd').1
    have hjes : j < es'.size := by omega
    obtain ⟨⟨k3, ad', u'⟩, hv3⟩ : ∃ q, xb[j]? = some q := ⟨_, List.getElem?_eq_getElem (by omega)⟩
    obtain ⟨_, _, ru'⟩ := KT.at qb hw' hv3
    have hes' : es'[j] = entryOfKey (tupleKind (mixKind P w)) (k3, ad', u') := by
      have := entry_at hb j
      rw [Array.getElem?_eq_getElem hjes, hv3] at this
      exact Option.some.inj this
    refine ⟨hjes, ?_⟩
    have ee : eG ka kb i = eqvD d d' := by unfold eG; rw [hk]; simp [hv']
    rw [ee, hes, hes']
    exact pure_eq ok ex lo hu rv rv' ru ru' (pu _ (List.mem_of_getElem? hk)) (pv _ (List.mem_of_getElem? hd'))
end
end Mv

namespace Mv
open PySem PySem.Spec PyProof.Rows L2

/-! ### operands and arguments as views; results frozen or owned -/
structure Std (F H : Hp) : Prop where
  ex : Ex F H
  tp : Tp F H
  lo : Low F
theorem RepS.std {K : PySem.W.Frag} {F0 H0 : Hp} {P : Pl} {δ : Dl} {σ : L2.St} {F H : Hp} (R : RepS K F0 H0 P δ σ F H) : Std F H := ⟨R.e3, R.tp, R.low.mono R.e1⟩
theorem Std.low {F H : Hp} (s : Std F H) : ∃ o, H sysModules = some (.frz o (.ext fun _ => True)) := let ⟨o, h⟩ := s.lo; ⟨o, s.ex _ _ h⟩
theorem Std.ne {F H : Hp} (s : Std F H) {a : Addr} {u : HO} (e : H a = some u) (nx : ∀ o φ, u ≠ .frz o (.ext φ)) : a ≠ sysModules := fun z => by
  subst z
  obtain ⟨o', h⟩ := s.low
  rw [e] at h; cases h
  exact nx _ _ rfl
theorem Grown.refl {F H : Hp} (s : Std F H) : Grown F H F H := ⟨Ex.refl F, Ex.refl H, s.ex, fun a o h => .inl h, s.tp⟩
theorem Grown.newF {F H : Hp} (s : Std F H) {p : Addr} {o : HO} (h : H p = none) : Grown F H (upd F p o) (upd H p o) :=
  ⟨Ex.new (s.ex.nn h), Ex.new h, s.ex.both, fun a u q => by
    by_cases z : a = p
    · subst z; exact .inr h
    · rw [upd_ne z] at q; exact .inl q, s.tp.both⟩
theorem Grown.newO {F H : Hp} (s : Std F H) {p : Addr} {o : HO} (h : H p = none) (no : ∀ vs, o ≠ .tup vs := by exact fun _ z => nomatch z) : Grown F H F (upd H p o) :=
  ⟨Ex.refl F, Ex.new h, s.ex.trans (Ex.new h), fun a u q => .inl q, s.tp.put no⟩
theorem View.reads {K : PySem.W.Frag} {F H : Hp} {h : Heap} {P : Program} {w : World} (ok : HOk P w H h) (s : Std F H) {v : V} {d : D} {p : PyData} {u : Value} (vw : View K F H v d) (e : toP d = some p) (r : RelV v u) : Rds h u p := by
  cases vw with
  | flat rp ex => exact rp.reads ok ex s.lo e r
  | lst h1 rs =>
    cases r
    simp only [toP, Option.map_eq_some_iff] at e
    obtain ⟨ps, e, rfl⟩ := e
    exact lst_rds (o := .lst []) ok (.inl h1) (s.ne h1 fun _ _ z => nomatch z) fun us rv => rs.reads ok s.ex s.lo e rv
  | dk h1 rs =>
    cases r
    simp only [toP, Option.map_eq_some_iff] at e
    obtain ⟨ps, e, rfl⟩ := e
    obtain ⟨qs, eq, q⟩ := rs.reads ok s.ex s.lo e
    subst eq
    exact dk_rds ok (.inl h1) q
  | dt h1 rs =>
    cases r
    simp only [toP, Option.map_eq_some_iff] at e
    obtain ⟨ps, e, rfl⟩ := e
    obtain ⟨qs, eq, q⟩ := rs.reads ok s.ex s.lo e
    subst eq
    exact dt_rds ok (.inl h1) q
theorem View.mono {K : PySem.W.Frag} {F H : Hp} {v : V} {d : D} (h : Rep K F v d) (s : Std F H) : View K F H v d := .flat h s.ex

/-! two operands -/
abbrev G2 := D → D → (D → Prop) → Prop
abbrev G2O := D → D → (O → Prop) → Prop
def rN (K : PySem.W.Frag) (g : G2) : R2 := fun x y H Q => ∃ F dx dy Q', Std F H ∧ View K F H x dx ∧ View K F H y dy ∧ g dx dy Q' ∧ ∀ F' H' v d, Grown F H F' H' → Rep K F' v d → Q' d → Q v H'
def rNO (K : PySem.W.Frag) (g : G2O) : R2 := fun x y H Q => ∃ F dx dy Q', Std F H ∧ View K F H x dx ∧ View K F H y dy ∧ g dx dy Q' ∧ ∀ F' H' p ho o, Grown F H F' H' → H p = none → H' p = some ho → F' p = none → OwnAt K F' H' p o → Q' o → Q (.ref p) H'
def d2VV (g : G2) (tw tz : DV) : DE := fun δ Q => tw δ fun δ1 x => tz δ1 fun δ2 y => ∃ d e, vwD δ2 x = some d ∧ vwD δ2 y = some e ∧ g d e (Q δ2)
def d2VO (g : G2O) (tw tz : DV) : DOw := fun δ Q => tw δ fun δ1 x => tz δ1 fun δ2 y => ∃ d e, vwD δ2 x = some d ∧ vwD δ2 y = some e ∧ g d e (Q δ2)
theorem up2N {K : PySem.W.Frag} {g : G2} {tw tz : DV} {σ : L2.St} {H : Hp} {Q : VK} (h : upE K (d2VV g tw tz) σ H Q) : tOp (rN K g) (upV K tw) (upV K tz) σ H Q := by
  obtain ⟨F0, H0, P, δ, F, Q', R, ht, k⟩ := h
  refine ⟨F0, H0, P, δ, F, _, R, ht, fun δ1 F1 H1 x vx R1 e1 rx ht => ?_⟩
  refine ⟨F0, H0, P, δ1, F1, _, R1, ht, fun δ2 F2 H2 y vy R2 e2 ry ⟨d, e, hd, he, ht⟩ => ?_⟩
  exact ⟨F2, d, e, _, R2.std, R2.view rx e2 hd, R2.view ry (Ex.refl F2) he, ht, fun F' H' v d G r q => k δ2 F' H' v d (R2.grow G.e1 G.e2 G.e3 G.fr G.tp) ((e1.trans e2).trans G.e1) r q⟩
theorem up2O {K : PySem.W.Frag} {g : G2O} {tw tz : DV} {σ : L2.St} {H : Hp} {Q : VK} (h : upO K (d2VO g tw tz) σ H Q) : tOp (rNO K g) (upV K tw) (upV K tz) σ H Q := by
  obtain ⟨F0, H0, P, δ, F, Q', R, ht, k⟩ := h
  refine ⟨F0, H0, P, δ, F, _, R, ht, fun δ1 F1 H1 x vx R1 e1 rx ht => ?_⟩
  refine ⟨F0, H0, P, δ1, F1, _, R1, ht, fun δ2 F2 H2 y vy R2 e2 ry ⟨d, e, hd, he, ht⟩ => ?_⟩
  exact ⟨F2, d, e, _, R2.std, R2.view rx e2 hd, R2.view ry (Ex.refl F2) he, ht, fun F' H' p ho o G n1 n2 n3 r q =>
    let ⟨R3, hP⟩ := R2.growP G n1 n2 n3
    k δ2 F' H' p ho o R3 hP ((e1.trans e2).trans G.e1) r q⟩
/-! arguments -/
abbrev DAV := Dl → (Dl → List Vw → Prop) → Prop
def VwsOk (K : PySem.W.Frag) (σ : L2.St) (F : Hp) : List V → List Vw → Prop
  | [], [] => True
  | v :: vs, x :: xs => VwOk K σ F v x ∧ VwsOk K σ F vs xs
  | _, _ => False
inductive ViewL (K : PySem.W.Frag) (F H : Hp) : List V → List D → Prop
  | nil : ViewL K F H [] []
  | cons {v vs d ds} : View K F H v d → ViewL K F H vs ds → ViewL K F H (v :: vs) (d :: ds)
def vwsD (δ : Dl) : List Vw → Option (List D)
  | [] => some []
  | x :: xs => (vwD δ x).bind fun d => (vwsD δ xs).map (d :: ·)
def upAV (K : PySem.W.Frag) (t : DAV) : TA := fun σ H Q => ∃ F0 H0 P δ F Q', RepS K F0 H0 P δ σ F H ∧ t δ Q' ∧ ∀ δ' F' H' vs xs, RepS K F0 H0 P δ' σ F' H' → Ex F F' → VwsOk K σ F' vs xs → Q' δ' xs → Q vs H'
theorem VwOk.mono {K : PySem.W.Frag} {σ : L2.St} {F F' : Hp} {v : V} {x : Vw} (h : VwOk K σ F v x) (e : Ex F F') : VwOk K σ F' v x := by
  cases x with
  | inl i => exact h
  | inr d => exact Rep.mono e h
theorem RepS.views {K : PySem.W.Frag} {F0 H0 F H F1 : Hp} {P : Pl} {δ : Dl} {σ : L2.St} (R : RepS K F0 H0 P δ σ F H) (e : Ex F1 F) : ∀ {vs : List V} {xs : List Vw} {ds : List D}, VwsOk K σ F1 vs xs → vwsD δ xs = some ds → ViewL K F H vs ds
  | [], [], ds, _, h => by cases h; exact .nil
  | v :: vs, x :: xs, ds, ⟨a, b⟩, h => by
    simp only [vwsD, Option.bind_eq_some_iff, Option.map_eq_some_iff] at h
    obtain ⟨d, h1, ds', h2, rfl⟩ := h
    exact .cons (R.view a e h1) (R.views e b h2)
  | [], _ :: _, _, h, _ => h.elim
  | _ :: _, [], _, h, _ => h.elim
def vNil : DAV := fun δ Q => Q δ []
def vCons (tw : DV) (ts : DAV) : DAV := fun δ Q => tw δ fun δ1 x => ts δ1 fun δ2 xs => Q δ2 (x :: xs)
abbrev G1 := List D → (D → Prop) → Prop
abbrev G1O := List D → (O → Prop) → Prop
def cN (K : PySem.W.Frag) (g : G1) : List V → Hp → VK → Prop := fun vs H Q => ∃ F ds Q', Std F H ∧ ViewL K F H vs ds ∧ g ds Q' ∧ ∀ F' H' v d, Grown F H F' H' → Rep K F' v d → Q' d → Q v H'
def cNO (K : PySem.W.Frag) (g : G1O) : List V → Hp → VK → Prop := fun vs H Q => ∃ F ds Q', Std F H ∧ ViewL K F H vs ds ∧ g ds Q' ∧ ∀ F' H' p ho o, Grown F H F' H' → H p = none → H' p = some ho → F' p = none → OwnAt K F' H' p o → Q' o → Q (.ref p) H'
def d1 (g : G1) (ts : DAV) : DE := fun δ Q => ts δ fun δ1 xs => ∃ ds, vwsD δ1 xs = some ds ∧ g ds (Q δ1)
def d1O (g : G1O) (ts : DAV) : DOw := fun δ Q => ts δ fun δ1 xs => ∃ ds, vwsD δ1 xs = some ds ∧ g ds (Q δ1)
theorem up1N {K : PySem.W.Frag} {g : G1} {ts : DAV} {σ : L2.St} {H : Hp} {Q : VK} (h : upE K (d1 g ts) σ H Q) : upAV K ts σ H fun vs H1 => cN K g vs H1 Q := by
  obtain ⟨F0, H0, P, δ, F, Q', R, ht, k⟩ := h
  refine ⟨F0, H0, P, δ, F, _, R, ht, fun δ1 F1 H1 vs xs R1 e1 ok ⟨ds, hd, ht⟩ => ?_⟩
  exact ⟨F1, ds, _, R1.std, R1.views (Ex.refl F1) ok hd, ht, fun F' H' v d G r q => k δ1 F' H' v d (R1.grow G.e1 G.e2 G.e3 G.fr G.tp) (e1.trans G.e1) r q⟩
theorem up1O {K : PySem.W.Frag} {g : G1O} {ts : DAV} {σ : L2.St} {H : Hp} {Q : VK} (h : upO K (d1O g ts) σ H Q) : upAV K ts σ H fun vs H1 => cNO K g vs H1 Q := by
  obtain ⟨F0, H0, P, δ, F, Q', R, ht, k⟩ := h
  refine ⟨F0, H0, P, δ, F, _, R, ht, fun δ1 F1 H1 vs xs R1 e1 ok ⟨ds, hd, ht⟩ => ?_⟩
  exact ⟨F1, ds, _, R1.std, R1.views (Ex.refl F1) ok hd, ht, fun F' H' p ho o G n1 n2 n3 r q =>
    let ⟨R3, hP⟩ := R1.growP G n1 n2 n3
    k δ1 F' H' p ho o R3 hP (e1.trans G.e1) r q⟩
section
variable {X : Cx} {K : PySem.W.Frag} {e a b c o : Expr} {es : List Expr} {tw tz : DV} {ts : DAV} {pos p : Pos} {g : G2} {go : G2O} {g1 : G1} {g1o : G1O} {x : Str} {id T : String}
theorem vvn : PA X [] (upAV K vNil) := pimpA pa_nil fun σ H Q ⟨F0, H0, P, δ, F, Q', R, ht, k⟩ => k δ F H [] [] R (Ex.refl F) trivial ht
theorem vvc (he : PE X e (upV K tw)) (hr : PA X es (upAV K ts)) (hs : starEach (e :: es) X.env = (false, eval e X.env) :: starEach es X.env := by rfl) : PA X (e :: es) (upAV K (vCons tw ts)) := pimpA (pa_cons he hr hs) fun σ H Q ⟨F0, H0, P, δ, F, Q', R, ht, k⟩ => by
  refine ⟨F0, H0, P, δ, F, _, R, ht, fun δ1 F1 H1 v x R1 e1 ok ht => ?_⟩
  refine ⟨F0, H0, P, δ1, F1, _, R1, ht, fun δ2 F2 H2 vs xs R2 e2 oks ht => ?_⟩
  exact k δ2 F2 H2 (v :: vs) (x :: xs) R2 (e1.trans e2) (show VwOk K σ F2 v x ∧ VwsOk K σ F2 vs xs from ⟨ok.mono e2, oks⟩) ht
theorem pb2 {op : Operator} (hr : OpR X (binaryOp op) (rN K g)) (ha : PE X a (upV K tw)) (hb : PE X b (upV K tz)) : PE X (.BinOp a op b pos) (upE K (d2VV g tw tz)) := pimp (pe_op hr ha hb) fun _ _ _ h => up2N h
theorem pb2O {op : Operator} (hr : OpR X (binaryOp op) (rNO K go)) (ha : PE X a (upV K tw)) (hb : PE X b (upV K tz)) : PE X (.BinOp a op b pos) (upO K (d2VO go tw tz)) := pimp (pe_op hr ha hb) fun _ _ _ h => up2O h
theorem pcm {op : CmpOp} (hr : OpR X (compareOp op) (rN K g)) (ha : PE X a (upV K tw)) (hb : PE X b (upV K tz)) (hm : behindInMarks op b = false) : PE X (.Compare a [op] [b] pos) (upE K (d2VV g tw tz)) := pimp (pe_cmpR hr ha hb hm) fun _ _ _ h => up2N h
theorem qcm {op : CmpOp} (hr : OpR X (compareOp op) (rN K g)) (ha : PE X a (upV K tw)) (hb : PE X b (upV K tz)) (hm : behindInMarks op b = false) : PT X (.Compare a [op] [b] pos) (upT K (dTst (d2VV g tw tz))) :=
  pimpT (pt_cmpR hr ha hb hm) fun σ H Q ⟨F0, H0, P, δ, F, Q', R, ht, k⟩ => by
    refine up2N (K := K) ⟨F0, H0, P, δ, F, _, R, ht, fun δ' F' H' v d R' e' r ⟨q, ed, ht⟩ => ?_⟩
    subst ed
    cases r
    exact ⟨q, rfl, k δ' F' H' q R' e' ht⟩
theorem pcb (hc : CallR X (.builtin id) (cN K g1)) (hg : Gl X x) (hm : X.mg x = none) (hv : bootBuiltins x = some (.builtin id)) (ha : PA X (e :: es) (upAV K ts)) (hn : x ≠ "__name__" := by decide) (hdb : (x == ("__debug__" : Str)) = false := by decide)
    (he : starEach (e :: es) X.env = (false, eval e X.env) :: starEach es X.env := by rfl) (hpl : (backTo pos (starEach es X.env)).any (·.1) = false := by rfl) : PE X (.Call (.Name x p) (e :: es) [] pos) (upE K (d1 g1 ts)) := pimp (pe_callB hc hg hm hv ha hn hdb he hpl) fun _ _ _ h => up1N h
theorem pcbO (hc : CallR X (.builtin id) (cNO K g1o)) (hg : Gl X x) (hm : X.mg x = none) (hv : bootBuiltins x = some (.builtin id)) (ha : PA X (e :: es) (upAV K ts)) (hn : x ≠ "__name__" := by decide) (hdb : (x == ("__debug__" : Str)) = false := by decide)
    (he : starEach (e :: es) X.env = (false, eval e X.env) :: starEach es X.env := by rfl) (hpl : (backTo pos (starEach es X.env)).any (·.1) = false := by rfl) : PE X (.Call (.Name x p) (e :: es) [] pos) (upO K (d1O g1o ts)) := pimp (pe_callB hc hg hm hv ha hn hdb he hpl) fun _ _ _ h => up1O h
theorem pct (hc : CallR X (.type T) (cN K g1)) (hg : Gl X x) (hm : X.mg x = none) (hv : bootBuiltins x = some (.type T)) (ha : PA X (e :: es) (upAV K ts)) (hn : x ≠ "__name__" := by decide) (hdb : (x == ("__debug__" : Str)) = false := by decide)
    (he : starEach (e :: es) X.env = (false, eval e X.env) :: starEach es X.env := by rfl) (hpl : (backTo pos (starEach es X.env)).any (·.1) = false := by rfl) : PE X (.Call (.Name x p) (e :: es) [] pos) (upE K (d1 g1 ts)) := pimp (pe_callTy hc hg hm hv ha hn hdb he hpl) fun _ _ _ h => up1N h
theorem pctO (hc : CallR X (.type T) (cNO K g1o)) (hg : Gl X x) (hm : X.mg x = none) (hv : bootBuiltins x = some (.type T)) (ha : PA X (e :: es) (upAV K ts)) (hn : x ≠ "__name__" := by decide) (hdb : (x == ("__debug__" : Str)) = false := by decide)
    (he : starEach (e :: es) X.env = (false, eval e X.env) :: starEach es X.env := by rfl) (hpl : (backTo pos (starEach es X.env)).any (·.1) = false := by rfl) : PE X (.Call (.Name x p) (e :: es) [] pos) (upO K (d1O g1o ts)) := pimp (pe_callTy hc hg hm hv ha hn hdb he hpl) fun _ _ _ h => up1O h
end
end Mv

namespace Mv
open PySem PySem.Spec PyProof.Rows L2
section
variable {X : Cx} {K : PySem.W.Frag}
/-! ### == and != of data -/
def gEqP (neg : Bool) : G2 := fun x y Q => (Pure x ∧ Pure y ∧ Q (.bl (if neg then !eqvD x y else eqvD x y))) ∨
  (∃ ka kb, x = .dk ka ∧ y = .dk kb ∧ (∀ q ∈ ka, Pure q.2) ∧ (∀ q ∈ kb, Pure q.2) ∧ Q (.bl (if neg then !eqG ka kb else eqG ka kb))) ∨
  (∃ ka kb, x = .dt ka ∧ y = .dt kb ∧ (∀ q ∈ ka, Pure q.2) ∧ (∀ q ∈ kb, Pure q.2) ∧ Q (.bl (if neg then !eqG ka kb else eqG ka kb)))
/-- .. or flat values of any text -/
def gEqA (neg : Bool) : G2 := fun x y Q => gEqP neg x y Q ∨ ∃ b, eqF x y = some b ∧ Q (.bl (if neg then !b else b))
theorem eq_any {A : Around} {E : Value → Shared → Prop} {P : Program} {w : World} {s : Shared} {F H : Hp} (ok : HOk P w H s.heap) (st : Std F H) (hu : A.units + 80 < cLine) (hi : A.in1.units ≤ A.units + 8) {x y : V} {u v : Value} {d e : D} {neg : Bool} {Q' : D → Prop} {Q : Value → Shared → Prop}
    (vx : View K F H x d) (vy : View K F H y e) (rx : RelV x u) (ry : RelV y v) (g : gEqP neg d e Q') (k : ∀ b, Q' (.bl b) → Q (.bool b) s) : wpAny (model P w) A (compareOp (if neg then .NotEq else .Eq) u v) Q E s := by
  rcases g with ⟨⟨p, e1, s1⟩, ⟨q, e2, s2⟩, g⟩ | ⟨ka, kb, rfl, rfl, pu, pv, g⟩ | ⟨ka, kb, rfl, rfl, pu, pv, g⟩
  · obtain ⟨as, ra, _⟩ := vx.reads ok st e1 rx
    obtain ⟨bs, rb, _⟩ := vy.reads ok st e2 ry
    have hd : eqvD d e = PyData.eqv p q := by unfold eqvD; rw [e1, e2]
    cases neg with
    | false => exact SeqAt.compareEq_shaped ra rb s1 s2 (by omega) (k _ (by rw [← hd]; exact g))
    | true => exact SeqAt.compareNe_shaped ra rb s1 s2 (by omega) (k _ (by rw [← hd]; exact g))
  · obtain ⟨a, wa, rfl, ha, ga⟩ := vx.dk'
    obtain ⟨b, wb, rfl, hb, gb⟩ := vy.dk'
    cases rx; cases ry
    obtain ⟨_, na, va, xa, oa, es, ep, hoa, cxa, hda, kka, pa, _⟩ := ha.ok ok
    obtain ⟨_, nb, vb, xb, ob, es', ep', hob, cxb, hdb, kkb, pb, _⟩ := hb.ok ok
    have hits := hits_dK (A := A.in1) (a := a) (b := b) ok st.ex st.lo (by omega) ga gb xa xb kka pa hob hdb kkb pb pu pv
    have lw : es.size = ka.length := by
      have h1 := pa.length; have h2 := xa.length; have h3 := ga.length
      rw [Array.length_toList] at h1; omega
    have lw' : es'.size = kb.length := by
      have h1 := pb.length; have h2 := xb.length; have h3 := gb.length
      rw [Array.length_toList] at h1; omega
    have er : (es.size == es'.size && (List.range' 0 es.size).all fun k => (fG ka kb k).isSome && eG ka kb k) = eqG ka kb := by rw [lw, lw']; exact eqG_eq ka kb
    cases neg with
    | false => exact rc_dicts na nb hoa cxa hda hob cxb hdb (by omega) (fun _ => hits) (by rw [er]; exact k _ g)
    | true => exact rcn_dicts na nb hoa cxa hda hob cxb hdb (by omega) (fun _ => hits) (by rw [er]; exact k _ g)
  · obtain ⟨a, wa, rfl, ha, ga⟩ := vx.dt'
    obtain ⟨b, wb, rfl, hb, gb⟩ := vy.dt'
    cases rx; cases ry
    obtain ⟨_, na, xa, qa, oa, es, ep, hoa, cxa, hda, ea, _⟩ := ha.ok ok
    obtain ⟨_, nb, xb, qb, ob, es', ep', hob, cxb, hdb, eb, nd⟩ := hb.ok ok
    have hits := hits_dT (A := A.in1) (a := a) (b := b) ok st.ex st.lo (by omega) ga gb qa qb ea hob hdb eb nd pu pv
    have lw : es.size = ka.length := by
      have h1 := size_of_entries ea; have h2 := qa.length; have h3 := ga.length
      omega
    have lw' : es'.size = kb.length := by
      have h1 := size_of_entries eb; have h2 := qb.length; have h3 := gb.length
      omega
    have er : (es.size == es'.size && (List.range' 0 es.size).all fun k => (fG ka kb k).isSome && eG ka kb k) = eqG ka kb := by rw [lw, lw']; exact eqG_eq ka kb
    cases neg with
    | false => exact rc_dicts na nb hoa cxa hda hob cxb hdb (by omega) (fun _ => hits) (by rw [er]; exact k _ g)
    | true => exact rcn_dicts na nb hoa cxa hda hob cxb hdb (by omega) (fun _ => hits) (by rw [er]; exact k _ g)
theorem flat_views {F H : Hp} {x y : V} {d e : D} {b : Bool} (vx : View K F H x d) (vy : View K F H y e) (h : eqF d e = some b) : Rep K F x d ∧ Rep K F y e := by
  cases vx with
  | flat r _ =>
    cases vy with
    | flat r2 _ => exact ⟨r, r2⟩
    | _ => cases d <;> cases h
  | _ => cases h
theorem op_eqA (hu : X.A.units + 80 < cLine) (hi : X.A.in1.units ≤ X.A.units + 8 := by exact Nat.add_le_add_left (show 1 ≤ 8 by decide) _) : OpR X (compareOp .Eq) (rN X.K (gEqA false)) := by
  intro pins s σ H x y v u Q I rx ry ⟨F, dx, dy, Q', st, vx, vy, g, k⟩
  rcases g with g | ⟨b, hb, g⟩
  · exact eq_any (neg := false) I.hok st hu hi vx vy rx ry g fun b q => ⟨.bl b, H, I, rfl, k F H _ _ (Grown.refl st) (.bl b) q⟩
  · obtain ⟨rp1, rp2⟩ := flat_views vx vy hb
    obtain ⟨e1, e2⟩ := eqF_ok rp1 rp2 hb
    exact op_eq pins s σ H x y v u Q I rx ry ⟨e1, by rw [e2]; exact k F H _ _ (Grown.refl st) (.bl b) g⟩
theorem op_neA (hu : X.A.units + 80 < cLine) (hi : X.A.in1.units ≤ X.A.units + 8 := by exact Nat.add_le_add_left (show 1 ≤ 8 by decide) _) : OpR X (compareOp .NotEq) (rN X.K (gEqA true)) := by
  intro pins s σ H x y v u Q I rx ry ⟨F, dx, dy, Q', st, vx, vy, g, k⟩
  rcases g with g | ⟨b, hb, g⟩
  · exact eq_any (neg := true) I.hok st hu hi vx vy rx ry g fun b q => ⟨.bl b, H, I, rfl, k F H _ _ (Grown.refl st) (.bl b) q⟩
  · obtain ⟨rp1, rp2⟩ := flat_views vx vy hb
    obtain ⟨e1, e2⟩ := eqF_ok rp1 rp2 hb
    exact op_ne pins s σ H x y v u Q I rx ry ⟨e1, by rw [e2]; exact k F H _ _ (Grown.refl st) (.bl _) g⟩
/-! ### list + list, tuple + tuple, list * int -/
def gCat : G2O := fun x y Q => ∃ xs ys, x = .lst xs ∧ y = .lst ys ∧ xs.length + ys.length ≤ sizeLine ∧ Q (.lst (xs ++ ys))
theorem lst_at {H : Hp} {pins : List (Addr × Obj)} {σ : L2.St} {s : Shared} {a : Addr} {vs : List V} (I : Inv X pins σ H s) (e : Rd H a (.lst vs)) : vs.length ≤ sizeLine ∧ ∃ (its : List Value) (n : Nat), Vals vs its ∧ vs.length = its.length ∧ s.heap.get? a = some { cls := .type "list", data := .seq its.toArray n } := by
  obtain ⟨z, its, n, r, h⟩ := e.ok I.hok
  exact ⟨z, its, n, r, r.length, h⟩
theorem op_catL : OpR X (binaryOp .Add) (rNO X.K gCat) := by
  intro pins s σ H x y v u Q I rx ry h
  obtain ⟨F, dx, dy, Q', st, vx, vy, ⟨xs, ys, rfl, rfl, hz, g⟩, k⟩ := h
  obtain ⟨l, vs, rfl, hl, rl⟩ := vx.lst'
  obtain ⟨b, ws, rfl, hb, rb⟩ := vy.lst'
  cases rx; cases ry
  obtain ⟨z, its, n, r, hl1, e⟩ := lst_at I hl
  obtain ⟨z2, its2, n2, r2, hl2, e2⟩ := lst_at I hb
  have l1 := rl.length
  have l2 := rb.length
  refine PySem.P.add_list e e2 ?_ (by rw [List.size_toArray, List.size_toArray]; omega)
  have ea : its.toArray ++ its2.toArray = (its ++ its2).toArray := by simp
  rw [ea]
  refine ⟨.ref _, _, I.lnew (t' := s.toks) (r.append r2) (by rw [List.length_append]; omega), rfl, ?_⟩
  exact k F _ _ _ (.lst (xs ++ ys)) (Grown.newO st I.fresh) I.fresh upd_same (st.ex.nn I.fresh) ⟨_, upd_same, rl.app rb⟩ g
theorem RepL.rep {F : Hp} {vs : List V} {ds : List D} (r : RepL K F vs ds) : ∀ n : Nat, RepL K F (List.replicate n vs).flatten (List.replicate n ds).flatten
  | 0 => .nil
  | n + 1 => by
    rw [List.replicate_succ, List.replicate_succ, List.flatten_cons, List.flatten_cons]
    exact r.app (RepL.rep r n)

/-- a fresh list times an int -/
def dRep (to : DOw) (tb : DE) : DOw := fun δ Q => to δ fun δ1 o => tb δ1 fun δ2 y => ∃ xs i, o = .lst xs ∧ y = .int i ∧ -(2 ^ 63) ≤ i ∧ i < 2 ^ 63 ∧ xs.length * i.toNat ≤ sizeLine ∧ Q δ2 (.lst (List.replicate i.toNat xs).flatten)
theorem po_rep {a b : Expr} {pos : Pos} {to : DOw} {tb : DE} (ha : PE X a (upO K to)) (hb : PE X b (upE K tb)) : PE X (.BinOp a .Mult b pos) (upO K (dRep to tb)) := pimp (pe_op op_rep ha hb) fun σ H Q ⟨F0, H0, P, δ, F, Q', R, ht, k⟩ => by
  refine ⟨F0, H0, P, δ, F, _, R, ht, fun δ1 F1 H1 p ho o R1 hP e1 oa ht => ?_⟩
  refine ⟨F0, H0, _, δ1, F1, _, R1, ht, fun δ2 F2 H2 y dy R2 e2 ry ⟨xs, i, eo, ey, h1, h2, hz, q⟩ => ?_⟩
  subst eo ey
  cases ry
  obtain ⟨vs, hv, rs⟩ := oa
  have e0 : ho = .lst vs := by
    have := (R1.rsv p ho (by simp)).2.2
    rw [hv] at this; exact (Option.some.inj this).symm
  subst e0
  have l1 := rs.length
  refine ⟨p, i, vs, rfl, rfl, (R2.rsv p _ (by simp)).2.2, h1, h2, by rw [l1]; exact hz, fun p2 hp2 => ?_⟩
  have R3 : RepS K F0 H0 P δ2 σ F2 H2 := R2.unP fun q hq => by simp [hq]
  exact k δ2 F2 _ p2 _ (.lst _) (R3.newP hp2) (R3.fresh hp2) (e1.trans e2) ⟨_, upd_same, (rs.mono e2).rep _⟩ q
def gCatT : G2 := fun x y Q => ∃ xs ys, x = .tup xs ∧ y = .tup ys ∧ xs.length + ys.length ≤ sizeLine ∧ Q (.tup (xs ++ ys))
theorem op_catTA : OpR X (binaryOp .Add) (rN X.K gCatT) := by
  intro pins s σ H x y v u Q I rx ry h
  obtain ⟨F, dx, dy, Q', st, vx, vy, ⟨xs, ys, rfl, rfl, hz, g⟩, k⟩ := h
  cases vx with
  | flat rpx _ =>
    cases vy with
    | flat rpy _ =>
      cases rpx with
      | @tup a vs _ h1 r1 =>
        cases rpy with
        | @tup b ws _ h2 r2 =>
          have l1 := r1.length
          have l2 := r2.length
          refine op_catA pins s σ H _ _ v u Q I rx ry ⟨a, b, vs, ws, rfl, rfl, .inl (.inl (st.ex _ _ h1)), .inl (.inl (st.ex _ _ h2)), by omega, fun e => ?_, fun e1 e2 => ?_, fun e1 e2 p hp => ?_⟩
          · subst e; cases r1
            exact k F H _ _ (Grown.refl st) (.tup h2 r2) g
          · subst e2; cases r2
            rw [List.append_nil] at g
            exact k F H _ _ (Grown.refl st) (.tup h1 r1) g
          · have G := Grown.newF st (o := .tup (vs ++ ws)) hp
            exact k _ _ _ _ G (.tup upd_same ((r1.app r2).mono G.e1)) g
/-! ### built-ins -/
def gMax2 : G1 := fun ds Q => ∃ i j, ds = [.int i, .int j] ∧ Q (.int (if j > i then j else i))
def gMin2 : G1 := fun ds Q => ∃ i j, ds = [.int i, .int j] ∧ Q (.int (if j < i then j else i))
theorem View.int' {F H : Hp} {v : V} {i : Int} (h : View K F H v (.int i)) : v = .int i := by
  cases h with
  | flat r e => cases r; rfl
theorem View.bl' {F H : Hp} {v : V} {i : Bool} (h : View K F H v (.bl i)) : v = .bl i := by
  cases h with
  | flat r e => cases r; rfl
theorem c_max2 (hc : X.calm = true) : CallR X (.builtin "max") (cN K gMax2) := by
  intro pins s σ H xs us Q I r h
  obtain ⟨F, ds, Q', st, vw, ⟨i, j, rfl, g⟩, k⟩ := h
  cases vw with
  | cons v1 t => cases t with
    | cons v2 t => cases t; cases v1.int'; cases v2.int'; exact call_max2 hc pins s σ H _ us Q I r ⟨i, j, rfl, k F H _ _ (Grown.refl st) (.int _) g⟩
theorem c_min2 (hc : X.calm = true) : CallR X (.builtin "min") (cN K gMin2) := by
  intro pins s σ H xs us Q I r h
  obtain ⟨F, ds, Q', st, vw, ⟨i, j, rfl, g⟩, k⟩ := h
  cases vw with
  | cons v1 t => cases t with
    | cons v2 t => cases t; cases v1.int'; cases v2.int'; exact call_min2 hc pins s σ H _ us Q I r ⟨i, j, rfl, k F H _ _ (Grown.refl st) (.int _) g⟩
def gAbs : G1 := fun ds Q => ∃ i, ds = [.int i] ∧ Q (.int (if i < 0 then -i else i))
theorem c_abs : CallR X (.builtin "abs") (cN K gAbs) := by
  intro pins s σ H xs us Q I r h
  obtain ⟨F, ds, Q', st, vw, ⟨i, rfl, g⟩, k⟩ := h
  cases vw with
  | cons v1 t => cases t; cases v1.int'; exact call_abs pins s σ H _ us Q I r ⟨i, rfl, k F H _ _ (Grown.refl st) (.int _) g⟩
def gInt : G1 := fun ds Q => (∃ i, ds = [.int i] ∧ Q (.int i)) ∨ ∃ b, ds = [.bl b] ∧ Q (.int (if b then 1 else 0))
theorem c_int : CallR X (.type "int") (cN K gInt) := by
  intro pins s σ H xs us Q I r h
  obtain ⟨F, ds, Q', st, vw, ⟨i, rfl, g⟩ | ⟨i, rfl, g⟩, k⟩ := h
  · cases vw with
    | cons v1 t => cases t; cases v1.int'; exact call_int1 pins s σ H _ us Q I r (.inl ⟨i, rfl, k F H _ _ (Grown.refl st) (.int _) g⟩)
  · cases vw with
    | cons v1 t => cases t; cases v1.bl'; exact call_int1 pins s σ H _ us Q I r (.inr ⟨i, rfl, k F H _ _ (Grown.refl st) (.int _) g⟩)
def intsD : List D → Option (List Int)
  | [] => some []
  | .int i :: ds => (intsD ds).map (i :: ·)
  | _ => none
theorem intsD_map : ∀ ns : List Int, intsD (ns.map D.int) = some ns
  | [] => rfl
  | n :: ns => by simp [intsD, intsD_map ns]
theorem intsD_rep {F : Hp} : ∀ {vs : List V} {ds : List D} {ns : List Int}, RepL K F vs ds → intsD ds = some ns → vs = ns.map V.int
  | _, _, _, .nil, h => by cases h; rfl
  | _, .int i :: ds, _, .cons r t, h => by
    cases r
    simp only [intsD, Option.map_eq_some_iff] at h
    obtain ⟨ns, h, rfl⟩ := h
    rw [intsD_rep t h]; rfl
def gSum : G1 := fun ds Q => ∃ xs ns, ds = [.lst xs] ∧ intsD xs = some ns ∧ Q (.int ns.sum)
theorem c_sum (hc : X.calm = true) : CallR X (.builtin "sum") (cN X.K gSum) := by
  intro pins s σ H xs us Q I r h
  obtain ⟨F, ds, Q', st, vw, ⟨xs, ns, rfl, hn, g⟩, k⟩ := h
  cases vw with
  | cons v1 t =>
    cases t
    obtain ⟨a, vs, rfl, hs, rs⟩ := v1.lst'
    obtain rfl := intsD_rep rs hn
    exact cr_sum hc pins s σ H _ us Q I r ⟨a, ns, rfl, .inl hs, k F H _ _ (Grown.refl st) (.int _) g⟩
def gMaxL : G1 := fun ds Q => ∃ xs ns, ds = [.lst xs] ∧ intsD xs = some ns ∧ 0 < ns.length ∧ ∀ m, m ∈ ns → (∀ y ∈ ns, y ≤ m) → Q (.int m)
def gMinL : G1 := fun ds Q => ∃ xs ns, ds = [.lst xs] ∧ intsD xs = some ns ∧ 0 < ns.length ∧ ∀ m, m ∈ ns → (∀ y ∈ ns, m ≤ y) → Q (.int m)
theorem c_maxL (hc : X.calm = true) : CallR X (.builtin "max") (cN X.K gMaxL) := by
  intro pins s σ H xs us Q I r h
  obtain ⟨F, ds, Q', st, vw, ⟨xs, ns, rfl, hn, h0, g⟩, k⟩ := h
  cases vw with
  | cons v1 t =>
    cases t
    obtain ⟨a, vs, rfl, hs, rs⟩ := v1.lst'
    obtain rfl := intsD_rep rs hn
    exact cr_max hc pins s σ H _ us Q I r ⟨a, ns, rfl, .inl hs, h0, fun m h1 h2 => k F H _ _ (Grown.refl st) (.int _) (g m h1 h2)⟩
theorem c_minL (hc : X.calm = true) : CallR X (.builtin "min") (cN X.K gMinL) := by
  intro pins s σ H xs us Q I r h
  obtain ⟨F, ds, Q', st, vw, ⟨xs, ns, rfl, hn, h0, g⟩, k⟩ := h
  cases vw with
  | cons v1 t =>
    cases t
    obtain ⟨a, vs, rfl, hs, rs⟩ := v1.lst'
    obtain rfl := intsD_rep rs hn
    exact cr_min hc pins s σ H _ us Q I r ⟨a, ns, rfl, .inl hs, h0, fun m h1 h2 => k F H _ _ (Grown.refl st) (.int _) (g m h1 h2)⟩
/-- list(x): of a list, a tuple, a dict's keys -/
def gListO : G1O := fun ds Q => (∃ xs, (ds = [.lst xs] ∨ ds = [.tup xs]) ∧ Q (.lst xs)) ∨ (∃ kvs, ds = [.dk kvs] ∧ Q (.lst (kvs.map fun kv => keyD kv.1)))
theorem c_list (hc : X.calm = true) : CallR X (.type "list") (cNO X.K gListO) := by
  intro pins s σ H xs us Q I r h
  obtain ⟨F, ds, Q', st, vw, g, k⟩ := h
  rcases g with ⟨xs, e | e, g⟩ | ⟨kvs, e, g⟩
  · subst e
    cases vw with
    | cons v1 t =>
      cases t
      obtain ⟨a, vs, rfl, hs, rs⟩ := v1.lst'
      exact call_list_of pins s σ H _ us Q I r ⟨a, vs, rfl, .inl (.inl hs), fun p hp => k F _ p _ (.lst xs) (Grown.newO st hp) hp upd_same (st.ex.nn hp) ⟨_, upd_same, rs⟩ g⟩
  · subst e
    cases vw with
    | cons v1 t =>
      cases t
      obtain ⟨a, vs, rfl, hs, rs⟩ := v1.tup'
      exact call_list_of pins s σ H _ us Q I r ⟨a, vs, rfl, .inr (.inl (.inl hs)), fun p hp => k F _ p _ (.lst xs) (Grown.newO st hp) hp upd_same (st.ex.nn hp) ⟨_, upd_same, rs⟩ g⟩
  · subst e
    cases vw with
    | cons v1 t =>
      cases t
      obtain ⟨a, ws, rfl, hs, rs⟩ := v1.dk'
      have e : (ws.map fun kv => kV kv.1) = (kvs.map fun kv => kV kv.1) := by
        have := congrArg (List.map kV) rs.keys
        simpa [List.map_map, Function.comp_def] using this
      have e2 : (kvs.map fun kv => kV kv.1) = (kvs.map (·.1)).map kV := by simp
      have e3 : (kvs.map fun kv => keyD kv.1) = (kvs.map (·.1)).map keyD := by simp
      refine call_listD hc pins s σ H _ us Q I r ⟨a, ws, rfl, hs, fun p hp => k F _ p _ (.lst _) (Grown.newO st hp) hp upd_same (st.ex.nn hp) ⟨_, upd_same, ?_⟩ g⟩
      rw [e, e2, e3]
      exact keys_rep _
/-- tuple(x) of a list or tuple -/
def gTupleF : G1 := fun ds Q => ∃ xs, (ds = [.lst xs] ∨ ds = [.tup xs]) ∧ Q (.tup xs)
theorem c_tuple : CallR X (.type "tuple") (cN X.K gTupleF) := by
  intro pins s σ H xs us Q I r h
  obtain ⟨F, ds, Q', st, vw, ⟨xs, e | e, g⟩, k⟩ := h
  · subst e
    cases vw with
    | cons v1 t =>
      cases t
      obtain ⟨a, vs, rfl, hs, rs⟩ := v1.lst'
      exact call_tuple_of pins s σ H _ us Q I r ⟨a, vs, rfl, .inl ⟨.inl hs, fun p hp =>
        have G := Grown.newF st (o := .tup vs) hp
        k _ _ _ _ G (.tup upd_same (rs.mono G.e1)) g⟩⟩
  · subst e
    cases vw with
    | cons v1 t =>
      cases t
      cases v1 with
      | flat r1 e => cases r1 with
        | @tup a vs _ h1 rs => exact call_tuple_of pins s σ H _ us Q I r ⟨a, vs, rfl, .inr ⟨.inl (.inl (st.ex _ _ h1)), k F H _ _ (Grown.refl st) (.tup h1 rs) g⟩⟩
end
end Mv

namespace Mv
open PySem PySem.Spec PyProof.Rows L2
/-! ### sorted -/
def toPD (d : D) : PyData := (toP d).getD .none
def sortD (ds : List D) : List D := ds.mergeSort (PySem.W.dataLe false toPD)
structure SortOk (ds : List D) : Prop where
  pu : ∀ d ∈ ds, Pure d
  al : PySem.W.AllAlike (ds.map toPD)
  so : PySem.W.Sortable (ds.map toPD)
  sz : ds.length ≤ sizeLine
mutual
theorem reads_in {h : Heap} : ∀ {v : Value} {d : PyData} {as : List Addr}, Reads h v d as → ∀ a ∈ as, a < h.objs.size
  | _, _, _, .none, a, ha => by simp at ha
  | _, _, _, .bool _, a, ha => by simp at ha
  | _, _, _, .int _ _, a, ha => by simp at ha
  | _, _, _, .str _ _, a, ha => by simp at ha
  | _, _, _, .list h1 _ _ h4, a, ha => by
    rcases List.mem_cons.mp ha with rfl | ha
    · exact Heap.lt_size h1
    · exact readsAll_in h4 a ha
  | _, _, _, .tuple _ _ _ h4, a, ha => readsAll_in h4 a ha
  | _, _, _, .dict h1 _ _ h4 h5, a, ha => by
    rcases List.mem_append.mp ha with ha | ha
    · rcases List.mem_cons.mp ha with rfl | ha
      · exact Heap.lt_size h1
      · exact readsAll_in h4 a ha
    · exact readsAll_in h5 a ha
theorem readsAll_in {h : Heap} : ∀ {v : List Value} {d : List PyData} {as : List Addr}, ReadsAll h v d as → ∀ a ∈ as, a < h.objs.size
  | _, _, _, .nil, a, ha => by simp at ha
  | _, _, _, .cons h1 h2, a, ha => by
    rcases List.mem_append.mp ha with ha | ha
    · exact reads_in h1 a ha
    · exact readsAll_in h2 a ha
end
/-- what a value stands for -/
def StandsFor (K : PySem.W.Frag) (F : Hp) (v : Value) (d : D) : Prop := ∃ x, RelV x v ∧ Rep K F x d
theorem stands_all {K : PySem.W.Frag} {F : Hp} : ∀ {vs : List V} {us : List Value} {ds : List D}, Vals vs us → RepL K F vs ds → PySem.W.EachIs (StandsFor K F) us ds
  | _, _, _, .nil, .nil => .nil
  | _, _, _, .cons a b, .cons r t => .cons ⟨_, a, r⟩ (stands_all b t)
theorem stands_back {K : PySem.W.Frag} {F : Hp} : ∀ {us : List Value} {ds : List D}, PySem.W.EachIs (StandsFor K F) us ds → ∃ vs, Vals vs us ∧ RepL K F vs ds
  | _, _, .nil => ⟨[], .nil, .nil⟩
  | _, _, .cons ⟨x, a, r⟩ t => by
    obtain ⟨vs, b, rs⟩ := stands_back t
    exact ⟨x :: vs, .cons a b, .cons r rs⟩
theorem each_reads {K : PySem.W.Frag} {F H : Hp} {h h' : Heap} {P : Program} {w : World} {a : Addr} (ok : HOk P w H h) (st : Std F H) (kp : ∀ b o, h.get? b = some o → h'.get? b = some o) (ha : h.objs.size ≤ a) : ∀ {us : List Value} {ds : List D}, PySem.W.EachIs (StandsFor K F) us ds → (∀ d ∈ ds, Pure d) →
    PySem.W.EachIs (fun v b => ∃ as, Reads h' v (toPD b) as ∧ a ∉ as) us ds
  | _, _, .nil, _ => .nil
  | _, d :: ds, .cons ⟨x, r, rp⟩ t, pu => by
    obtain ⟨p, e, _⟩ := pu d (by simp)
    obtain ⟨as, ra, _⟩ := rp.reads ok st.ex st.lo e r
    have e2 : toPD d = p := by unfold toPD; rw [e]; rfl
    refine .cons ⟨as, by rw [e2]; exact PyProof.Rows.Reads.keeps kp ra, fun z => ?_⟩ (each_reads ok st kp ha t fun d hd => pu d (by simp [hd]))
    exact absurd (reads_in ra a z) (Nat.not_lt.mpr ha)
section
variable {X : Cx} {K : PySem.W.Frag}
theorem sorted_core {pins : List (Addr × Obj)} {σ : L2.St} {F H : Hp} {s : Shared} {u : Value} {ds : List D} {Q : VK} (I : Inv X pins σ H s) (st : Std F H) (ok : SortOk ds) (hu : X.A.units + 200 < cLine) (hin : X.A.in1.units ≤ X.A.units + 8)
    (hcol : ∀ R : List Value → Shared → Prop, (∀ h' tk acc vs, (∀ b o, s.heap.get? b = some o → h'.get? b = some o) → Vals vs acc → RepL X.K F vs ds → R acc { s with heap := h', toks := tk }) → wpAny (model X.prog X.w) X.A.in1 (collect u) R X.xe s)
    (k : ∀ p vs, H p = none → RepL X.K F vs (sortD ds) → Q (.ref p) (upd H p (.lst vs))) : wpAny (model X.prog X.w) X.A (call (.builtin "sorted") [u]) (EP X pins σ Q) X.xe s := by
  refine Calls.call_function_entry PyProof.Rows.kind_sorted PyProof.Rows.plain_sorted PyProof.Rows.entry_sorted (PyProof.Rows.args_sorted1 _) ?_
  unfold Builtin.«sorted»
  refine wpAny_bind (m := checkCount "sorted" 1 1 _) (wpAny_pure ?_)
  refine wpAny_bind (hcol _ fun h' tk acc vs hk rv rs => ?_)
  have I1 : Inv X pins σ H { s with heap := h', toks := tk } := I.kept hk
  have hl : acc.length = ds.length := by rw [← rv.length, rs.length]
  refine wpAny_bind (wpAny_newList ?_ (by rw [hl]; exact ok.sz))
  have hoL : (h'.push (seqObj "list" acc.toArray 0)).get? h'.objs.size = some (seqObj "list" acc.toArray 0) := Heap.get?_push_size _ rfl
  show wpAny _ _ _ _ _ { s with heap := h'.push (seqObj "list" acc.toArray 0), toks := tk }
  have es := stands_all rv rs
  have er := each_reads (h' := h'.push (seqObj "list" acc.toArray 0)) (a := h'.objs.size) I1.hok st (fun b o e => Heap.get?_push_of_some _ e) (Nat.le_refl _) es ok.pu
  refine wpAny_bind (wpAny_holding (PySem.W.list_sort_data (s := { s with heap := h'.push (seqObj "list" acc.toArray 0), toks := tk }) hoL es er ok.al ok.so ok.sz (fun d hd => ?_) fun out h1 h2 => ?_))
  · obtain ⟨p, e, sh⟩ := ok.pu d hd
    have e2 : toPD d = p := by unfold toPD; rw [e]; rfl
    have := SeqAt.depth_of_shaped sh
    rw [e2]; omega
  · obtain ⟨e', he'⟩ := PyProof.Rows.sortedHeap_at (vs := acc) (out := out.toArray) hoL
    obtain ⟨vs', rv', rs'⟩ := stands_back h2
    have hlen : vs'.length ≤ sizeLine := by rw [rv'.length, h1]; exact ok.sz
    have hn : H h'.objs.size = none := I1.hok.fresh (Nat.le_refl _)
    refine wpAny_pure ⟨_, rfl, .ref h'.objs.size, upd H h'.objs.size (.lst vs'), I1.laid (t' := tk) (fun b u e => ?_) (Nat.le_refl _)
      (show ObjOk X.prog X.w _ _ _ (.lst vs') from ⟨hlen, out, e', rv', he'⟩), rfl, k _ vs' hn rs'⟩
    have hb : b < h'.objs.size := Heap.lt_size e
    show (sortedHeap (h'.push (seqObj "list" acc.toArray 0)) h'.objs.size acc out.toArray).get? b = some u
    rw [PyProof.Rows.sortedHeap_old (Nat.ne_of_lt hb) (by rw [size_push']; exact Nat.lt_succ_of_lt hb)]
    exact Heap.get?_push_of_some _ e

/-- what sorted, set, list walk -/
def srcD : D → Option (List D)
  | .lst xs => some xs
  | .tup xs => some xs
  | .dk kvs => some (kvs.map fun kv => keyD kv.1)
  | .dt kvs => some (kvs.map fun kv => D.tup (kv.1.map keyD))
  | _ => none
theorem keys_dK {P : Program} {w : World} {F : Hp} : ∀ {es : List DictEntry} {vs : List (Key × Value)}, Pairs (mixKind P w) es vs → Vals ((vs.map (·.1)).map kV) (es.map (·.key))
  | _, _, .nil => .nil
  | _, (k, x) :: _, .cons h1 h2 t => .cons (by
      rcases keyIs_shape h1 with ⟨i, t, e, e2⟩ | ⟨z, t, e, e2⟩
      · simp only at e; subst e; exact ⟨t, e2⟩
      · simp only at e; subst e; exact ⟨t, e2⟩) (keys_dK (F := F) t)
theorem keys_dT {P : Program} {w : World} {F H : Hp} (st : Std F H) : ∀ {ws : List (List Key × V)} {xs : List (List Key × Addr × Value)}, KT H ws xs →
    ∃ vs, Vals vs ((xs.map (entryOfKey (tupleKind (mixKind P w)))).map (·.key)) ∧ RepL K F vs ((ws.map (·.1)).map fun k => D.tup (k.map keyD))
  | _, _, .nil => ⟨[], .nil, .nil⟩
  | _, _, .cons ⟨e, ht, r⟩ t => by
    obtain ⟨vs, a, b⟩ := keys_dT (P := P) (w := w) st t
    exact ⟨.ref _ :: vs, .cons (show RelV (.ref _) (.ref _) from rfl) a, .cons (.tup (st.tp _ _ ht) (keys_rep _)) b⟩
theorem acc_keys {es : Array DictEntry} {acc : Array Value} (h : ItemsOf (fun i v => ∃ en : DictEntry, es[i]? = some en ∧ v = en.key) acc es.size) : acc.toList = es.toList.map (·.key) := by
  apply List.ext_getElem?
  intro i
  rw [List.getElem?_map, Array.getElem?_toList, Array.getElem?_toList]
  by_cases hi : i < es.size
  · have hi2 : i < acc.size := by rw [h.1]; exact hi
    obtain ⟨en, e1, e2⟩ := h.2 i _ (Array.getElem?_eq_getElem hi2)
    rw [e1, Array.getElem?_eq_getElem hi2, e2]; rfl
  · rw [Array.getElem?_eq_none (by rw [h.1]; omega), Array.getElem?_eq_none (by omega)]; rfl
/-- walking a list, a tuple, a dict: the items as they come -/
theorem collect_src {pins : List (Addr × Obj)} {σ : L2.St} {F H : Hp} {s : Shared} {v : V} {u : Value} {d : D} {ds : List D} {A : Around} (I : Inv X pins σ H s) (hh : A.handled = none) (st : Std F H) (vw : View X.K F H v d) (e : srcD d = some ds) (hz : ds.length ≤ sizeLine) (r : RelV v u) (R : List Value → Shared → Prop)
    (h : ∀ h' tk acc vs, (∀ b o, s.heap.get? b = some o → h'.get? b = some o) → Vals vs acc → RepL X.K F vs ds → R acc { s with heap := h', toks := tk }) {E : Value → Shared → Prop} : wpAny (model X.prog X.w) A (collect u) R E s := by
  unfold srcD at e
  split at e
  · cases e
    obtain ⟨a, vs, rfl, hs, rs⟩ := vw.lst'
    cases r
    obtain ⟨z, its, n, rv, hl, ho⟩ := lst_at I hs
    exact wpAny_collect_seq a (.inl rfl) ho rfl rfl (fun h' hk => h h' s.toks _ vs hk (by simpa using rv) rs) (by rw [List.size_toArray, ← hl]; exact z)
  · cases e
    obtain ⟨a, vs, rfl, hs, rs⟩ := vw.tup'
    cases r
    obtain ⟨its, o, n, rv, h1, h2, h3⟩ := tup_reads I.hok hs
    exact wpAny_collect_seq a (.inr rfl) h1 h2 h3 (fun h' hk => h h' s.toks _ vs hk (by simpa using rv) rs) (by rw [List.size_toArray, ← rv.length, rs.length]; exact hz)
  · cases e
    obtain ⟨a, ws, rfl, hs, rs⟩ := vw.dk'
    cases r
    obtain ⟨_, na, va, xa, oa, es, ep, hoa, cxa, hda, kka, pa, _⟩ := hs.ok I.hok
    have lw : es.size = ws.length := by
      have h1 := pa.length; have h2 := xa.length
      rw [Array.length_toList] at h1; omega
    have hn : es.size ≤ sizeLine := by rw [lw, rs.length]; simpa using hz
    refine PySem.W.kdu_collect (kdl_raw na cxa hda) hh hoa hn fun h' tk acc hk hacc => ?_
    rw [acc_keys hacc]
    have hv := keys_dK (F := F) pa
    have e1 : (va.map (·.1)) = ws.map (·.1) := (paired_keys xa).1.symm
    have e3 : ∀ kvs : List (Key × D), (kvs.map fun kv => keyD kv.1) = (kvs.map (·.1)).map keyD := fun _ => by simp
    refine h h' tk _ _ hk hv ?_
    rw [e1, rs.keys, e3]
    exact keys_rep _
  · cases e
    obtain ⟨a, ws, rfl, hs, rs⟩ := vw.dt'
    cases r
    obtain ⟨_, na, xa, qa, oa, es, ep, hoa, cxa, hda, ea, _⟩ := hs.ok I.hok
    have lw : es.size = ws.length := by
      have h1 := size_of_entries ea; have h2 := qa.length
      omega
    have hn : es.size ≤ sizeLine := by rw [lw, rs.length]; simpa using hz
    refine PySem.W.kdu_collect (kdl_raw na cxa hda) hh hoa hn fun h' tk acc hk hacc => ?_
    rw [acc_keys hacc, ea]
    obtain ⟨vs, hv, rv⟩ := keys_dT (K := X.K) (P := X.prog) (w := X.w) st qa
    have e3 : ∀ kvs : List (List Key × D), (kvs.map fun kv => D.tup (kv.1.map keyD)) = (kvs.map (·.1)).map fun k => D.tup (k.map keyD) := fun _ => by simp
    refine h h' tk _ _ hk hv ?_
    rw [e3, ← rs.keys]
    exact rv
  · cases e
def gSorted : G1O := fun ds Q => ∃ d xs, ds = [d] ∧ srcD d = some xs ∧ SortOk xs ∧ Q (.lst (sortD xs))
theorem c_sorted (hc : X.calm = true) (hu : X.A.units + 200 < cLine) (hin : X.A.in1.units ≤ X.A.units + 8 := by exact Nat.add_le_add_left (show 1 ≤ 8 by decide) _) (hh : X.A.in1.handled = X.A.handled := by rfl) : CallR X (.builtin "sorted") (cNO X.K gSorted) := by
  intro pins s σ H xs us Q I r h
  obtain ⟨F, ds, Q', st, vw, ⟨d, xs, rfl, hs, ok, g⟩, k⟩ := h
  cases vw with
  | cons v1 t =>
    cases t
    obtain ⟨u, rfl, ru⟩ := vals1 r
    exact sorted_core I st ok hu hin (fun R hR => collect_src I (hh.trans (I.ok.hd hc)) st v1 hs ok.sz ru R hR) fun p vs hp rv => k F _ p _ (.lst _) (Grown.newO st hp) hp upd_same (st.ex.nn hp) ⟨vs, upd_same, rv⟩ g
end
end Mv

namespace Mv
open PySem PySem.Spec PyProof.Rows L2
section
variable {K : PySem.W.Frag} {F0 H0 F H F' H' : Hp} {P : Pl} {δ : Dl} {σ : L2.St}
theorem RepS.congrP {Q : Pl} (R : RepS K F0 H0 P δ σ F H) (h : ∀ q, q ∈ Q ↔ q ∈ P) : RepS K F0 H0 Q δ σ F H := R.unP fun q hq => (h q).mp hq
/-- several results, some owned -/
inductive MixL (K : PySem.W.Frag) (F H : Hp) : List V → List S → Pl → Prop
  | nil : MixL K F H [] [] []
  | fz {v : V} {d : D} {vs : List V} {ss : List S} {P : Pl} : Rep K F v d → MixL K F H vs ss P → MixL K F H (v :: vs) (.fz d :: ss) P
  | own {p : Addr} {ho : HO} {o : O} {vs : List V} {ss : List S} {P : Pl} : OwnAt K F H p o → MixL K F H vs ss P → MixL K F H (.ref p :: vs) (.own o :: ss) ((p, ho) :: P)
def setAll : Dl → List Nat → List S → Dl
  | δ, i :: is, s :: ss => setAll (δ.set i (some s)) is ss
  | δ, _, _ => δ
def setVs : L2.St → List Nat → List V → L2.St
  | σ, i :: is, v :: vs => setVs (σ.set i (some v)) is vs
  | σ, _, _ => σ
theorem RepS.setMix {vs : List V} {ss : List S} {P' : Pl} (m : MixL K F H vs ss P') : ∀ {is : List Nat} {δ : Dl} {σ : L2.St}, RepS K F0 H0 (P' ++ P) δ σ F H → (pk P').Nodup ∧ (∀ p ∈ pk P', p ∉ pk P) → is.length = vs.length →
    RepS K F0 H0 P (setAll δ is ss) (setVs σ is vs) F H := by
  induction m with
  | nil =>
    intro is δ σ R _ hl
    cases is with
    | nil => exact R
    | cons i is => exact absurd hl (by simp)
  | fz r m ih =>
    intro is δ σ R nd hl
    cases is with
    | nil => exact absurd hl (by simp)
    | cons i is => exact ih (R.setF i r) nd (by simpa using hl)
  | @own p ho o vs ss P'' oa m ih =>
    intro is δ σ R nd hl
    cases is with
    | nil => exact absurd hl (by simp)
    | cons i is =>
      obtain ⟨n1, n2⟩ := nd
      have n1 : (p :: pk P'').Nodup := n1
      have h2 := List.nodup_cons.mp n1
      have np : p ∉ pk (P'' ++ P) := fun z => by
        have z : p ∈ pk P'' ++ pk P := by simpa [pk] using z
        rcases List.mem_append.mp z with z | z
        · exact h2.1 z
        · exact n2 p (List.mem_cons_self ..) z
      exact ih (RepS.setO R np i oa) ⟨h2.2, fun q hq => n2 q (List.mem_cons_of_mem _ hq)⟩ (by simpa using hl)
end
abbrev DM := Dl → (Dl → List S → Prop) → Prop
def upAM (K : PySem.W.Frag) (t : DM) : TA := fun σ H Q => ∃ F0 H0 P δ F Q', RepS K F0 H0 P δ σ F H ∧ t δ Q' ∧ ∀ δ' F' H' P' vs ss, RepS K F0 H0 (P' ++ P) δ' σ F' H' → MixL K F' H' vs ss P' → (pk P').Nodup ∧ (∀ p ∈ pk P', p ∉ pk P) → Ex F F' → Q' δ' ss → Q vs H'
def dmNil : DM := fun δ Q => Q δ []
def dmF (te : DE) (ts : DM) : DM := fun δ Q => te δ fun δ1 d => ts δ1 fun δ2 ss => Q δ2 (.fz d :: ss)
def dmO (to : DOw) (ts : DM) : DM := fun δ Q => to δ fun δ1 o => ts δ1 fun δ2 ss => Q δ2 (.own o :: ss)
section
variable {X : Cx} {K : PySem.W.Frag} {e a b c o : Expr} {es : List Expr} {te : DE} {to : DOw} {tm : DM} {tw : DV} {pos p apos cpos : Pos}
theorem mmn : PA X [] (upAM K dmNil) := pimpA pa_nil fun σ H Q ⟨F0, H0, P, δ, F, Q', R, ht, k⟩ => k δ F H [] [] [] R .nil ⟨List.nodup_nil, fun _ h => nomatch h⟩ (Ex.refl F) ht
theorem mmf (he : PE X e (upE K te)) (hr : PA X es (upAM K tm)) (hs : starEach (e :: es) X.env = (false, eval e X.env) :: starEach es X.env := by rfl) : PA X (e :: es) (upAM K (dmF te tm)) := pimpA (pa_cons he hr hs) fun σ H Q ⟨F0, H0, P, δ, F, Q', R, ht, k⟩ => by
  refine ⟨F0, H0, P, δ, F, _, R, ht, fun δ1 F1 H1 x dx R1 e1 rx ht => ?_⟩
  refine ⟨F0, H0, P, δ1, F1, _, R1, ht, fun δ2 F2 H2 P' vs ss R2 m nd e2 ht => ?_⟩
  exact k δ2 F2 H2 P' (x :: vs) _ R2 (.fz (rx.mono e2) m) nd (e1.trans e2) ht
theorem mmo (he : PE X e (upO K to)) (hr : PA X es (upAM K tm)) (hs : starEach (e :: es) X.env = (false, eval e X.env) :: starEach es X.env := by rfl) : PA X (e :: es) (upAM K (dmO to tm)) := pimpA (pa_cons he hr hs) fun σ H Q ⟨F0, H0, P, δ, F, Q', R, ht, k⟩ => by
  refine ⟨F0, H0, P, δ, F, _, R, ht, fun δ1 F1 H1 p ho o R1 hP e1 oa ht => ?_⟩
  refine ⟨F0, H0, _, δ1, F1, _, R1, ht, fun δ2 F2 H2 P' vs ss R2 m nd e2 ht => ?_⟩
  have hH : H2 p = some ho := (R2.rsv p ho (by simp)).2.2
  have hH1 : H1 p = some ho := (R1.rsv p ho (by simp)).2.2
  have np : p ∉ pk P' := fun z => nd.2 p z (List.mem_cons_self ..)
  refine k δ2 F2 H2 ((p, ho) :: P') (.ref p :: vs) _ (R2.congrP fun q => ?_) (.own (oa.mono e2 (hH1.trans hH.symm)) m) ⟨List.nodup_cons.mpr ⟨np, nd.1⟩, fun q hq => ?_⟩ (e1.trans e2) ht
  · simp only [List.cons_append, List.mem_cons, List.mem_append]
    constructor
    · rintro (h | h | h)
      · exact .inr (.inl h)
      · exact .inl h
      · exact .inr (.inr h)
    · rintro (h | h | h)
      · exact .inr (.inl h)
      · exact .inl h
      · exact .inr (.inr h)
  · rcases List.mem_cons.mp hq with e | hq
    · rw [e]; exact hP
    · exact fun z => nd.2 q hq (List.mem_cons_of_mem _ z)
theorem MixL.length {F H : Hp} {vs : List V} {ss : List S} {P : Pl} (m : MixL K F H vs ss P) : vs.length = ss.length := by
  induction m with
  | nil => rfl
  | fz _ _ ih => simp [ih]
  | own _ _ ih => simp [ih]
/-- a, b = e1, e2 -/
def dPar (is : List Nat) (tm : DM) : DS := fun D δ => tm δ fun δ1 ss => ss.length = is.length ∧ D.nx (setAll δ1 is ss)
theorem ss_par2 {i j : Nat} {x y : Str} {px py pt : Pos} {kt k2 pt2} (hc : X.calm = true) (hN : X.N.Nodup) (hi : X.N[i]? = some x) (hj : X.N[j]? = some y) (hij : i ≠ j)
    (hx : X.env.scope.names.lookup x = some .local) (hy : X.env.scope.names.lookup y = some .local) (ha : PA X [a, b] (upAM K tm))
    (hw : swappedStores [.Tuple [.Name x px, .Name y py] kt pt] (.Tuple [a, b] k2 pt2) X.env = pure (some [x, y]))
    (hs : swapsWithSole [.Tuple [.Name x px, .Name y py] kt pt] (.Tuple [a, b] k2 pt2) pos.line X.env = pure false := by rfl) :
    PS X (.Assign [.Tuple [.Name x px, .Name y py] kt pt] (.Tuple [a, b] k2 pt2) pos) (upS K (dPar [i, j] tm)) := pimpS (ps_par hc hN hi hj hij hx hy ha hw hs) fun D σ H ⟨F0, H0, δ, F, D', W⟩ => by
  refine ⟨F0, H0, [], δ, F, _, W.rep, W.t, fun δ1 F1 H1 P' vs ss R1 m nd e1 ⟨hl, q⟩ => ?_⟩
  have hv : vs.length = 2 := by rw [m.length, hl]; rfl
  obtain ⟨v, u, rfl⟩ : ∃ v u, vs = [v, u] := by
    match vs, hv with
    | [v, u], _ => exact ⟨v, u, rfl⟩
  exact ⟨v, u, rfl, W.nx _ _ F1 H1 (RepS.setMix m (is := [i, j]) R1 nd rfl) e1 q⟩
theorem ss_par3 {i j l : Nat} {x y z : Str} {px py pz pt : Pos} {kt k2 pt2} (hc : X.calm = true) (hN : X.N.Nodup) (hi : X.N[i]? = some x) (hj : X.N[j]? = some y) (hl : X.N[l]? = some z) (hij : i ≠ j) (hil : i ≠ l) (hjl : j ≠ l)
    (hx : X.env.scope.names.lookup x = some .local) (hy : X.env.scope.names.lookup y = some .local) (hz : X.env.scope.names.lookup z = some .local) (ha : PA X [a, b, c] (upAM K tm))
    (hw : swappedStores [.Tuple [.Name x px, .Name y py, .Name z pz] kt pt] (.Tuple [a, b, c] k2 pt2) X.env = pure (some [x, y, z]))
    (hs : swapsWithSole [.Tuple [.Name x px, .Name y py, .Name z pz] kt pt] (.Tuple [a, b, c] k2 pt2) pos.line X.env = pure false := by rfl) :
    PS X (.Assign [.Tuple [.Name x px, .Name y py, .Name z pz] kt pt] (.Tuple [a, b, c] k2 pt2) pos) (upS K (dPar [i, j, l] tm)) := pimpS (ps_par3 hc hN hi hj hl hij hil hjl hx hy hz ha hw hs) fun D σ H ⟨F0, H0, δ, F, D', W⟩ => by
  refine ⟨F0, H0, [], δ, F, _, W.rep, W.t, fun δ1 F1 H1 P' vs ss R1 m nd e1 ⟨hl, q⟩ => ?_⟩
  have hv : vs.length = 3 := by rw [m.length, hl]; rfl
  obtain ⟨v, u, w, rfl⟩ : ∃ v u w, vs = [v, u, w] := by
    match vs, hv with
    | [v, u, w], _ => exact ⟨v, u, w, rfl⟩
  exact ⟨v, u, w, rfl, W.nx _ _ F1 H1 (RepS.setMix m (is := [i, j, l]) R1 nd rfl) e1 q⟩
/-- the same by a tuple that is unpacked -/
def gNames : List Nat → TGs
  | [] => gNil
  | i :: is => gCons (gName i) (gNames is)
theorem gNames_at {H : Hp} {Q : L2.St → Hp → Prop} : ∀ {is : List Nat} {vs : List V} {σ : L2.St}, is.length = vs.length → Q (setVs σ is vs) H → gNames is vs σ H Q
  | [], [], σ, _, q => ⟨rfl, q⟩
  | i :: is, v :: vs, σ, h, q => ⟨v, vs, rfl, gNames_at (is := is) (by simpa using h) q⟩
theorem pgn_nil : PGs X [] (gNames []) := pgs_nil
theorem pgn_cons {tg : Expr} {tgs : List Expr} {i : Nat} {is : List Nat} (h1 : PG X tg (gName i)) (h2 : PGs X tgs (gNames is)) (hs : (assignEach (tg :: tgs) X.env).map (·.2) = assign tg X.env :: (assignEach tgs X.env).map (·.2) := by rfl) : PGs X (tg :: tgs) (gNames (i :: is)) := pgs_cons h1 h2 hs
theorem ss_parT {is : List Nat} {tgs : List Expr} {kt k2 : Nat} {pt pt2 : Pos} {n : Nat} (hc : X.calm = true) (ha : PA X es (upAM K tm)) (hg : PGs X tgs (gNames is))
    (hn : (assignEach tgs X.env).length = n := by rfl) (hst : (assignEach tgs X.env).findIdx? (·.1) = none := by rfl) (hin : is.length = n := by rfl)
    (hs : swapsWithSole [.Tuple tgs kt pt] (.Tuple es k2 pt2) pos.line X.env = pure false := by rfl) (hw : swappedStores [.Tuple tgs kt pt] (.Tuple es k2 pt2) X.env = pure none := by rfl)
    (h1 : (assignEach [.Tuple tgs kt pt] X.env).map (·.2) = [assign (.Tuple tgs kt pt) X.env] := by rfl) (hK : X.K = K := by rfl) (hz : n ≤ sizeLine := by decide) :
    PS X (.Assign [.Tuple tgs kt pt] (.Tuple es k2 pt2) pos) (upS K (dPar is tm)) := pimpS (ps_asg (pe_tup ha) (pg_tup hc hg hn hst) hs hw h1) fun D σ H ⟨F0, H0, δ, F, D', W⟩ => by
  subst hK
  refine ⟨F0, H0, [], δ, F, _, W.rep, W.t, fun δ1 F1 H1 P' vs ss R1 m nd e1 ⟨hl, q⟩ => ?_⟩
  have hv : vs.length = n := by rw [m.length, hl, hin]
  refine ⟨by rw [hv]; exact hz, fun t ht => ⟨t, vs, rfl, .inl (.inl upd_same), hv, gNames_at (by rw [hin, hv]) ?_⟩⟩
  have R2 : RepS X.K F0 H0 (P' ++ []) δ1 σ (upd F1 t (.tup vs)) (upd H1 t (.tup vs)) := R1.newF ht
  have m2 : MixL X.K (upd F1 t (.tup vs)) (upd H1 t (.tup vs)) vs ss P' := by
    have ex : Ex F1 (upd F1 t (.tup vs)) := Ex.new (R1.e3.nn ht)
    clear q hl hv nd W
    have key : ∀ {us : List V} {ss : List S} {P : Pl}, MixL X.K F1 H1 us ss P → MixL X.K (upd F1 t (.tup vs)) (upd H1 t (.tup vs)) us ss P := by
      intro us ss P m
      induction m with
      | nil => exact .nil
      | fz r _ ih => exact .fz (r.mono ex) ih
      | own oa _ ih =>
        obtain ⟨ho, hh, _⟩ := oa.there
        exact .own (oa.mono ex (by rw [upd_ne (ne_of_none hh ht)])) ih
    exact key m
  exact W.nx _ _ _ _ (RepS.setMix m2 (is := is) R2 nd (by rw [hin, hv])) (e1.trans (Ex.new (R1.e3.nn ht))) q

/-! ### text and list things -/
def strsD : List D → Option (List Str)
  | [] => some []
  | .str s :: ds => (strsD ds).map (s :: ·)
  | _ => none
theorem strsD_map : ∀ zs : List Str, strsD (zs.map D.str) = some zs
  | [] => rfl
  | z :: zs => by simp [strsD, strsD_map zs]
theorem strsD_rep {F : Hp} : ∀ {vs : List V} {ds : List D} {ns : List Str}, RepL K F vs ds → strsD ds = some ns → vs = ns.map V.str
  | _, _, _, .nil, h => by cases h; rfl
  | _, .str i :: ds, _, .cons r t, h => by
    cases r
    simp only [strsD, Option.map_eq_some_iff] at h
    obtain ⟨ns, h, rfl⟩ := h
    rw [strsD_rep t h]; rfl
/-- s.join(xs) -/
def dJoin (ta te : DE) : DE := fun δ Q => ta δ fun δ1 x => (∃ a, x = .str a) ∧ te δ1 fun δ2 y => ∃ a xs ys, x = .str a ∧ (y = .lst xs ∨ y = .tup xs) ∧ strsD xs = some ys ∧ (ys.map (·.length)).sum + ys.length * a.length ≤ 16777216 ∧ Q δ2 (.str (Txt.join a ys))
theorem pd_join {ta : DE} (ho : PE X o (upE K ta)) (he : PE X e (upE K te)) (hK : X.K = K := by rfl) (hs : starEach [e] X.env = [(false, eval e X.env)] := by rfl) (hbase : attributeBase o "join" X.env (eval o X.env) = eval o X.env := by rfl) (hline : (apos.endLine == pos.line) = true := by rfl) :
    PE X (.Call (.Attribute o "join" apos) [e] [] pos) (upE K (dJoin ta te)) := by
  subst hK
  refine pimp (pe_join ho he hs hbase hline) fun σ H Q ⟨F0, H0, P, δ, F, Q', R, ht, k⟩ => ?_
  refine ⟨F0, H0, P, δ, F, _, R, ht, fun δ1 F1 H1 x dx R1 e1 rx ⟨⟨a, ea⟩, ht⟩ => ?_⟩
  subst ea
  cases rx
  refine ⟨⟨a, rfl⟩, F0, H0, P, δ1, F1, _, R1, ht, fun δ2 F2 H2 y dy R2 e2 ry ⟨a', xs, ys, e1', e2', e3', hz, q⟩ => ?_⟩
  cases e1'
  rcases e2' with e2' | e2'
  · subst e2'
    cases ry with
    | lst h1 rs =>
      obtain rfl := strsD_rep rs e3'
      exact ⟨_, _, ys, rfl, rfl, .inl (.inl (.inr ⟨_, R2.e3 _ _ h1⟩)), hz, k δ2 F2 H2 _ _ R2 (e1.trans e2) (.str _) q⟩
  · subst e2'
    cases ry with
    | tup h1 rs =>
      obtain rfl := strsD_rep rs e3'
      exact ⟨_, _, ys, rfl, rfl, .inr (.inl (.inl (R2.e3 _ _ h1))), hz, k δ2 F2 H2 _ _ R2 (e1.trans e2) (.str _) q⟩
/-- list(range(..)) -/
def dRg1 (ta : DE) : DOw := fun δ Q => ta δ fun δ1 x => ∃ n, x = .int n ∧ RgOk 0 n ∧ Q δ1 (.lst (rngD 0 n))
def dRg2 (ta tb : DE) : DOw := fun δ Q => ta δ fun δ1 x => tb δ1 fun δ2 y => ∃ i j, x = .int i ∧ y = .int j ∧ RgOk i j ∧ Q δ2 (.lst (rngD i j))
theorem rgD_rep {F : Hp} (a b : Int) : RepL K F (rgV a b) (rngD a b) := by
  unfold rgV rngD
  generalize (b - a).toNat = n
  have : ∀ l : List Nat, RepL K F (l.map fun (i : Nat) => V.int (a + (i : Int))) (l.map fun (i : Nat) => D.int (a + (i : Int))) := by
    intro l
    induction l with
    | nil => exact .nil
    | cons x r ih => exact .cons (.int _) ih
  exact this _
theorem po_listRg1 {ta : DE} {p2 q2 : Pos} (hc : X.calm = true) (hg : Gl X "list") (hm : X.mg "list" = none) (hg2 : Gl X "range") (hm2 : X.mg "range" = none) (ha : PE X a (upE K ta)) (na : starEach [a] X.env = (false, eval a X.env) :: starEach [] X.env := by rfl)
    (nb : starEach [.Call (.Name "range" p2) [a] [] q2] X.env = (false, eval (.Call (.Name "range" p2) [a] [] q2) X.env) :: starEach [] X.env := by rfl) : PE X (.Call (.Name "list" p) [.Call (.Name "range" p2) [a] [] q2] [] pos) (upO K (dRg1 ta)) := by
  refine pimp (pe_listRg hc hg hm (prg_1 hg2 hm2 ha na) nb) fun σ H Q ⟨F0, H0, P, δ, F, Q', R, ht, k⟩ => ?_
  refine ⟨F0, H0, P, δ, F, _, R, ht, fun δ1 F1 H1 x dx R1 e1 rx ⟨n, ed, hr, q⟩ => ?_⟩
  subst ed
  cases rx
  exact ⟨n, rfl, hr, fun l hl => k δ1 F1 _ l _ _ (R1.newP hl) (R1.fresh hl) e1 (show OwnAt K F1 _ l (.lst _) from ⟨_, upd_same, rgD_rep 0 n⟩) q⟩
theorem po_listRg2 {ta tb : DE} {p2 q2 : Pos} (hc : X.calm = true) (hg : Gl X "list") (hm : X.mg "list" = none) (hg2 : Gl X "range") (hm2 : X.mg "range" = none) (ha : PE X a (upE K ta)) (hb : PE X b (upE K tb)) (na : starEach [a, b] X.env = (false, eval a X.env) :: starEach [b] X.env := by rfl)
    (nc : starEach [b] X.env = (false, eval b X.env) :: starEach [] X.env := by rfl) (hp : (backTo q2 (starEach [b] X.env)).any (·.1) = false := by rfl)
    (nb : starEach [.Call (.Name "range" p2) [a, b] [] q2] X.env = (false, eval (.Call (.Name "range" p2) [a, b] [] q2) X.env) :: starEach [] X.env := by rfl) : PE X (.Call (.Name "list" p) [.Call (.Name "range" p2) [a, b] [] q2] [] pos) (upO K (dRg2 ta tb)) := by
  refine pimp (pe_listRg hc hg hm (prg_2 hg2 hm2 ha hb na nc hp) nb) fun σ H Q ⟨F0, H0, P, δ, F, Q', R, ht, k⟩ => ?_
  refine ⟨F0, H0, P, δ, F, _, R, ht, fun δ1 F1 H1 x dx R1 e1 rx ht => ?_⟩
  refine ⟨F0, H0, P, δ1, F1, _, R1, ht, fun δ2 F2 H2 y dy R2 e2 ry ⟨i, j, ed, ed2, hr, q⟩ => ?_⟩
  subst ed ed2
  cases rx; cases ry
  exact ⟨i, j, rfl, rfl, hr, fun l hl => k δ2 F2 _ l _ _ (R2.newP hl) (R2.fresh hl) (e1.trans e2) (show OwnAt K F2 _ l (.lst _) from ⟨_, upd_same, rgD_rep i j⟩) q⟩
end
end Mv

namespace Mv
open PySem PySem.Spec PyProof.Rows L2

/-! ### the law's own call: one context, whose guards are known -/
/-- what a def does when it is called in the context A from the top -/
structure FnAt (P : Program) (w : World) (K : PySem.W.Frag) (mg : Str → Option Value) (base : Heap) (A : Around) (f : Addr) (fd : FuncData) (ps : List Str) (sp : Sp) : Prop where
  len : ∀ vs H Q E, sp vs H Q E → vs.length = ps.length
  run : ∀ (outer : List Env) (s : Shared) (H : Hp) (args : Args) (us : List Value) (vs : List V) (Q : VK), Env0 P w K mg base A outer s H → BindsTo s fd args (ps.zip us) → Vals vs us → sp vs H Q (fun _ _ _ => False) →
    codeAny (model P w) A (.call (.ref f) args) (CR CX0 outer P w H s Q (fun _ _ _ => False)) s
section
variable {P : Program} {w : World} {K : PySem.W.Frag} {mg : Str → Option Value} {base : Heap}
theorem fnAt {k : Nat} {A : Around} {f : Addr} {x qual : Str} {st : Stmt} {fd : FuncData} {N ps : List Str} {sp : Sp} (Fn : Fun K x qual st f fd) (S : FnScope N ps (defScope st)) (hr : Room (k + 1) A) (len : ∀ vs H Q E, sp vs H Q E → vs.length = ps.length)
    (hbody : ∀ (cdv : Value) (outer : List Env) (s : Shared) (H : Hp) (vs : List V) (Q : VK), Room k (A.deeper (envOfC qual (defScope st) s.heap.objs.size f cdv)) → sp vs H Q (fun _ _ _ => False) →
      ∃ t, PSs (cxOf CX0 P w K mg base N qual (defScope st) f cdv A outer s H (fun _ _ _ => False)).nox (defBody st) t ∧ t { nx := fun _ H' => Q .non H', rt := Q } (start N vs) H) : FnAt P w K mg base A f fd ps sp := by
  obtain ⟨oc, od, kV, doc, pm, an, cdv, ct, osl, rfl, lk, hcd⟩ := Fn.ex
  refine ⟨len, fun outer s H args us vs Q e0 hb r hsp => ?_⟩
  have keep : ∀ b o, base.get? b = some o → s.heap.get? b = some o := fun b o e => (e0.bs b o e).1
  have KX : K.In s.heap := e0.mod.kin.keeps keep
  have kinds : ∀ y ∈ ps.zip us, (defScope st).names.lookup y.1 = some .local ∨ ((defScope st).names.lookup y.1 = some .cell ∧ ((cellsFrom (s.heap.objs.size + 1) (defScope st).names []).lookup y.1).isSome = true) := fun ⟨n, v⟩ hy =>
    (S.par n (List.of_mem_zip hy).1).elim .inl fun q => .inr ⟨q, PySem.W.cellsFrom_some _ _ _ (.inl q)⟩
  refine codeAny_call_function hr.depth (KX _ _ lk) rfl S.co S.gen rfl (PySem.W.codeRec_of KX hcd) (hb _ _ _ _ (wpAny_newFunctionEnv_cells S.kind kinds fun env he s1 x => ?_))
  subst he
  refine ⟨(e0.mod.nolimit.keeps keep).keeps x.toInCall.keep, codeAny_func ?_⟩
  obtain ⟨t, ht, hq⟩ := hbody cdv outer s H vs Q (hr.deeper _) hsp
  have I : Inv (cxOf CX0 P w K mg base N qual (defScope st) f cdv A outer s H (fun _ _ _ => False)) [] (start N vs) H s1 := inv_start S hr.hd e0 (len _ _ _ _ hsp) r x
  refine wpAny_mono (ht.nox.run [] s1 (start N vs) H _ I hq) (fun fl s' hs => ?_) fun e s' hs => hs
  cases fl with
  | ret u => obtain ⟨v, σ', H', J, rv, q⟩ := hs; exact ⟨v, H', J.os, J.bare, J.base, J.hok, rv, q⟩
  | next => obtain ⟨σ', H', J, q⟩ := hs; exact ⟨V.non, H', J.os, J.bare, J.base, J.hok, rfl, q⟩
  | brk => obtain ⟨_, _, _, q⟩ := hs; exact q.elim
  | cont => obtain ⟨_, _, _, q⟩ := hs; exact q.elim
/-- the rule for the law's def -/
theorem okL {k : Nat} {A : Around} {f : Addr} {x qual : Str} {st : Stmt} {fd : FuncData} {N ps : List Str} {sp : DSp} (Fn : Fun K x qual st f fd) (S : FnScope N ps (defScope st)) (hr : Room (k + 1) A)
    (hbody : ∀ (cdv : Value) (outer : List Env) (s : Shared) (H : Hp), Room k (A.deeper (envOfC qual (defScope st) s.heap.objs.size f cdv)) →
      ∃ t, PSs (cxOf CX0 P w K mg base N qual (defScope st) f cdv A outer s H (fun _ _ _ => False)).nox (defBody st) (upS K t) ∧ ∀ ds Q', ds.length = ps.length → sp ds Q' → t { nx := fun _ => Q' (.fz .non), rt := Q' } (startD N.length ds)) : FnAt P w K mg base A f fd ps (spD K ps.length sp) := by
  refine fnAt Fn S hr (fun vs H Q E h => ?_) (fun cdv outer s H vs Q hr h => ?_)
  · obtain ⟨F, ds, Q', _, _, _, r, l, _⟩ := h
    rw [r.length, l]
  · obtain ⟨F, ds, Q', e, tp, lo, r, l, hs, k'⟩ := h
    obtain ⟨t, ht, hq⟩ := hbody cdv outer s H hr
    refine ⟨_, ht, F, H, startD N.length ds, F, _, ⟨start_rep e tp lo r, hq ds Q' l hs, fun δ' σ' F' H' R _ q => ?_, fun _ _ _ _ _ _ q => q.elim, fun _ _ _ _ _ _ q => q.elim, fun F' H' v r G ok q => k' F' H' v r G ok q⟩⟩
    exact k' F' H' .non (.fz .non) R.grown .non q
/-- from the top: the script and sys.modules alone are tracked, both frozen -/
theorem law_mv {mb : Str → Option Value} {fa a : Addr} {fd : FuncData} {x : Str} {sp : DSp} {s₁ : Shared} {vs : List Value} {ns : List Int}
    (KX : K.In s₁.heap) (hns : s₁.heap.Ns mainGlobals mg) (hb : s₁.heap.Ns builtinsNs mb) (hbb : ∀ x : Str, x ≠ "__name__" → mb x = bootBuiltins x) (hlim : s₁.heap.NoLimit) (hseer : s₁.heap.NoSeer) (hg : s₁.gens = #[])
    (ha : s₁.heap.get? a = some { cls := .type "list", data := .seq vs.toArray }) (hi : IntsAre vs ns) (hl : ns.length ≤ sizeLine) (hK1 : K.lookup sysModules = none)
    (Fn : ∀ base : Heap, K.In base → base.Ns mainGlobals mg → FnAt P w K mg base callerA fa fd [x] (spD K 1 sp)) (hbind : ∀ (s : Shared) (u : Value), BindsTo s fd ⟨[u], []⟩ [(x, u)])
    (hsp : sp [.scr ns] fun r => r = .fz (.bl true)) :
    codeAny (model P w) callerA (.call (.ref fa) ⟨[.ref a], []⟩) (fun r s' => r = .ok (.ret (.bool true)) ∧ OldK s₁.heap s'.heap ∧ s'.os = s₁.os ∧ AllBare s'.gens) s₁ := by
  obtain ⟨mm, ⟨om, em, epm, hom, hdm, _⟩, _⟩ := hseer.mods
  have na : a ≠ sysModules := fun z => by
    rw [z, hom] at ha
    cases ha
    cases hdm
  let own : Addr → Bool := fun b => decide (b = a) && (K.lookup a).isNone
  let H : Hp := fun b => if own b = true then some (.frz { cls := .type "list", data := .seq vs.toArray } (.lst (ns.map V.int))) else if b = sysModules then some (.frz om (.ext fun _ => True)) else none
  have Hsys : H sysModules = some (.frz om (.ext fun _ => True)) := by
    have : own sysModules = false := by simp [own, Ne.symm na]
    show (if own sysModules = true then _ else _) = _
    rw [this, if_neg (by decide), if_pos rfl]
  have Hcase : ∀ b u, H b = some u → (b = a ∧ K.lookup a = none ∧ u = .frz { cls := .type "list", data := .seq vs.toArray } (.lst (ns.map V.int))) ∨ (b = sysModules ∧ u = .frz om (.ext fun _ => True)) := fun b u e => by
    have e : (if own b = true then _ else _) = some u := e
    split at e
    · rename_i q
      simp only [own, Bool.and_eq_true, decide_eq_true_eq, Option.isNone_iff_eq_none] at q
      exact .inl ⟨q.1, q.2, (Option.some.inj e).symm⟩
    · split at e
      · rename_i q; exact .inr ⟨q, (Option.some.inj e).symm⟩
      · cases e
  have rv := vals_ints hi
  have free : ∀ b o, s₁.heap.get? b = some o → (∃ es ep, o.data = .dict es ep) → b ≠ sysModules → H b = none := fun b o e ⟨es, ep, hd⟩ nb => by
    cases q : H b with
    | none => rfl
    | some u =>
      rcases Hcase b u q with ⟨rfl, _, _⟩ | ⟨rfl, _⟩
      · rw [ha] at e; cases e; cases hd
      · exact absurd rfl nb
  have nsK : ∀ {b : Addr} {m : Str → Option Value}, b ≠ sysModules → s₁.heap.Ns b m → (hidT s₁.heap H).Ns b m := fun {b m} nb ⟨o, es, ep, e, d, r⟩ => ⟨o, es, ep, hidT_get e (free b o e ⟨es, ep, d⟩ nb), d, r⟩
  have hKb : K.In (hidT s₁.heap H) := fun b o e => hidT_get (KX b o e) (by
    cases q : H b with
    | none => rfl
    | some u =>
      rcases Hcase b u q with ⟨rfl, e2, _⟩ | ⟨rfl, _⟩
      · rw [e2] at e; cases e
      · rw [hK1] at e; cases e)
  have hM : Mod K mg (hidT s₁.heap H) := ⟨hKb, nsK (by decide) hns, ⟨mb, nsK (by decide) hb, hbb⟩, let ⟨mc, h1, h2⟩ := hlim; ⟨mc, nsK (by decide) h1, h2⟩⟩
  have hok : HOk P w H s₁.heap := fun b u e => by
    rcases Hcase b u e with ⟨rfl, _, rfl⟩ | ⟨rfl, rfl⟩
    · exact ⟨ha, by rw [List.length_map]; exact hl, vs, _, rv, ha⟩
    · exact ⟨hom, trivial, ⟨_, hom⟩, fun _ _ _ _ => trivial⟩
  have e0 : Env0 P w K mg (hidT s₁.heap H) callerA [] s₁ H := ⟨rfl, hM, fun b o e => of_hidT e, Nat.le_of_eq (hidT_size _ _), trivial, (fun b hb => nomatch (show b ∈ ([] : List Addr) from hb)), hok, .of_eq hg⟩
  have hS : SqL K H a (ns.map V.int) := by
    cases hk : K.lookup a with
    | some o =>
      have e := KX a o hk
      rw [ha] at e
      cases e
      exact .inr ⟨_, vs.toArray, _, hk, rfl, rfl, rfl, by rw [List.size_toArray, hi.length]; exact hl, by simpa using rv⟩
    | none =>
      have : own a = true := by simp [own, hk]
      exact .inl (.inr ⟨_, if_pos this⟩)
  have tp : Tp H H := fun b us e => e
  refine codeAny_mono ((Fn _ hKb (nsK (by decide) hns)).run [] s₁ H ⟨[.ref a], []⟩ [.ref a] [.ref a] (fun v _ => v = .bl true) e0 (hbind s₁ (.ref a)) (.cons (show RelV (.ref a) (.ref a) from rfl) .nil)
    ⟨H, [.scr ns], _, Ex.refl H, tp, ⟨om, Hsys⟩, .cons (.scr hS) .nil, rfl, hsp, fun F' H' v r _ rr q => ?_⟩) fun r s' h => ?_
  · subst q
    cases rr
    rfl
  · cases r with
    | error e => exact h.elim
    | ok fl =>
      cases fl with
      | next => exact h.elim
      | brk => exact h.elim
      | cont => exact h.elim
      | ret u =>
        obtain ⟨v, H', os, bare, un, hok', r', q⟩ := h
        have q' : v = .bl true := q
        subst q'
        obtain rfl : u = Value.bool true := r'
        refine ⟨rfl, OldK.of_keep fun b o e => ?_, os, bare⟩
        cases q : H b with
        | none => exact un.keep b o e q (fun z => nomatch (show b ∈ ([] : List Addr) from z)) (fun z => nomatch z)
        | some u =>
          obtain ⟨ob, uu, rfl⟩ : ∃ ob uu, u = .frz ob uu := by
            rcases Hcase b u q with ⟨_, _, rfl⟩ | ⟨_, rfl⟩
            · exact ⟨_, _, rfl⟩
            · exact ⟨_, _, rfl⟩
          obtain ⟨e1, _⟩ := hok b _ q
          obtain ⟨e2, _⟩ := hok' b _ (un.frzs b ob _ q)
          rw [e] at e1; cases e1
          exact e2
end
/-- the goal behind the law's head, from its D-level promise -/
theorem walk_mv {l : PySem.W.OpenLaw} {n : Nat} {q : Program} {loose : List Str} {XP : (Str → Option Value) → Heap → Prop} {YP : World → Heap → Prop} {d : DefRec} {K : Params → PySem.W.Frag} {sp : DSp} {x : Str}
    (hn : l.most = some n) (hn2 : n ≤ sizeLine) (hdf : d.params.defaults = []) (hi : importsNone q = true)
    (hY : ∀ (w : World) (h : Heap), YP w h → (K w.params).In h)
    (Fn : ∀ (w : World) (mg : Str → Option Value) (fa : Addr) (h : Heap), (K w.params).In h → h.Ns mainGlobals mg → mg d.name = some (.ref fa) →
      (K w.params).lookup sysModules = none ∧ ∃ fd : FuncData, (∀ (s : Shared) (u : Value), BindsTo s fd ⟨[u], []⟩ [(x, u)]) ∧
        ∀ base : Heap, (K w.params).In base → base.Ns mainGlobals mg → FnAt l.prog w (K w.params) mg base callerA fa fd [x] (spD (K w.params) 1 sp))
    (hsp : ∀ ns : List Int, ns.length ≤ n → (∀ z ∈ ns, Builtin.Int.intBits z ≤ 1048576) → sp [.scr ns] fun r => r = .fz (.bl true)) :
    PySem.W.WalkO q loose XP YP l.row.toRowW d [] (fun f vs => PySem.call f vs) := by
  refine Att.attach_callB hn hdf fun w s₀ s₁ mg mb fa o pm cd doc a vs ns G Y ho hd hcd hmg hobj hints hlen hbits hg => ?_
  have KX := hY w _ Y
  obtain ⟨hK1, fd, hb, hF⟩ := Fn w mg fa _ KX G.T.g hmg
  exact law_mv KX G.T.g G.T.b G.T.builtins G.T.nolimit (G.T.seer hi) hg hobj hints (Nat.le_trans hlen hn2) hK1 hF hb (hsp ns hlen hbits)
end Mv

namespace Mv
open PySem PySem.Spec PyProof.Rows L2
structure ReprOk (p : PyData) : Prop where
  sh : p.showable = true
  dp : p.depth ≤ 60
  sz : p.shown.length ≤ sizeLine
/-- repr(x): where no repr is under way -/
def gRepr : G1 := fun ds Q => ∃ d p, ds = [d] ∧ toP d = some p ∧ ReprOk p ∧ Q (.str p.shown)
theorem c_repr {X : Cx} (hg : X.A.guards = some []) (hu : X.A.units + 80 < cLine) : CallR X (.builtin "repr") (cN X.K gRepr) := by
  intro pins s σ H xs us Q I r h
  obtain ⟨F, ds, Q', st, vw, ⟨d, p, rfl, e, ok, g⟩, k⟩ := h
  cases vw with
  | cons v1 t =>
    cases t
    obtain ⟨u, rfl, ru⟩ := vals1 r
    obtain ⟨as, ra, nn⟩ := v1.reads I.hok st e ru
    have fin : ∀ h' tk ut, (∀ b o, s.heap.get? b = some o → h'.get? b = some o) → EP X pins σ Q (.str p.shown ut) { s with heap := h', toks := tk } := fun h' tk ut hk =>
      ⟨.str _, H, I.kept hk, ⟨ut, rfl⟩, k F H _ _ (Grown.refl st) (.str _) g⟩
    have dp := ok.dp
    cases ra with
    | none => exact PySem.P.repr_of_none (fin s.heap _ _ fun _ _ e => e)
    | bool b => exact PySem.P.repr_of_bool (fin s.heap _ _ fun _ _ e => e)
    | int i t =>
      have hs := ok.sh
      exact PySem.P.repr_of_int (of_decide_eq_true (by simpa [PyData.showable] using hs)) (fin s.heap _ _ fun _ _ e => e)
    | str x t => exact PySem.P.repr_of_str (fin s.heap _ _ fun _ _ e => e) (by have := ok.sz; simpa [PyData.shown] using this)
    | list h1 h2 h3 h4 => exact repr_of_reads' (.list h1 h2 h3 h4) ok.sh (fun _ => nn) hg (by omega) (fun _ _ e => e) (fun h' u tk hk => fin h' tk u hk) ok.sz
    | tuple h1 h2 h3 h4 => exact repr_of_reads' (.tuple h1 h2 h3 h4) ok.sh (fun _ => nn) hg (by omega) (fun _ _ e => e) (fun h' u tk hk => fin h' tk u hk) ok.sz
    | dict h1 h2 h3 h4 h5 => exact repr_of_reads' (.dict h1 h2 h3 h4 h5) ok.sh (fun _ => nn) hg (by omega) (fun _ _ e => e) (fun h' u tk hk => fin h' tk u hk) ok.sz
end Mv

namespace Mv
open PySem PySem.Spec PyProof.Rows L2
/-! ### the stream of draws: a list of two ints whose content is not told -/
section
variable {X : Cx} {K : PySem.W.Frag} {pins : List (Addr × Obj)} {σ : L2.St} {H : Hp} {s : Shared} {p : Addr}
theorem upd_self {H : Hp} {p : Addr} {o : HO} (h : H p = some o) : upd H p o = H := by
  funext b
  unfold upd
  split
  · rename_i e; rw [e, h]
  · rfl
theorem strm_obj {P : Program} {w : World} {H : Hp} {h : Heap} {x y : Int} {t u : Tok} {n : Nat} (h0 : 0 ≤ y) (h1 : y < 2 ^ 32) (e : h.get? p = some { cls := .type "list", data := .seq [Value.int x t, Value.int y u].toArray n }) : ObjOk P w H h p (strmO p) :=
  ⟨⟨x, y, t, u, n, h0, h1, e⟩, ⟨_, e⟩, fun _ h2 ⟨x, y, t, u, n, a, b, c⟩ k => ⟨x, y, t, u, n, a, b, k _ c⟩⟩
theorem strm_open (I : Inv X pins σ H s) (hp : H p = some (strmO p)) : ∃ x y : Int, 0 ≤ y ∧ y < 2 ^ 32 ∧ Inv X pins σ (upd H p (.lst [.int x, .int y])) s := by
  obtain ⟨⟨x, y, t, u, n, h0, h1, e⟩, _⟩ := I.hok p _ hp
  refine ⟨x, y, h0, h1, ?_⟩
  have I2 := I.write (x := p) (e := p) (o := .lst [.int x, .int y]) (h' := s.heap) (t' := s.toks) (by rw [hp]; trivial) (.inl rfl) (fun b u _ q => q) ⟨_, e⟩
    ⟨(by show 2 ≤ sizeLine; decide), _, n, .cons ⟨t, rfl⟩ (.cons ⟨u, rfl⟩ .nil), e⟩
  exact I2
theorem strm_close {x y : Int} (I : Inv X pins σ H s) (hp : H p = some (.lst [.int x, .int y])) (h0 : 0 ≤ y) (h1 : y < 2 ^ 32) : Inv X pins σ (upd H p (strmO p)) s := by
  obtain ⟨_, its, n, r, e⟩ := I.hok p _ hp
  cases r with
  | cons a r => cases r with
    | cons b r =>
      cases r
      obtain ⟨t, rfl⟩ := a
      obtain ⟨u, rfl⟩ := b
      exact I.write (x := p) (e := p) (o := strmO p) (h' := s.heap) (t' := s.toks) (by rw [hp]; trivial) (.inl rfl) (fun b u _ q => q) ⟨_, e⟩ (strm_obj h0 h1 e)
def rIxO : R2 := fun x y H Q => ∃ p, x = .ref p ∧ H p = some (strmO p) ∧ ((y = .int 0 ∧ ∀ z, Q (.int z) H) ∨ (y = .int 1 ∧ ∀ z : Int, 0 ≤ z → z < 2 ^ 32 → Q (.int z) H))
theorem ix_strm : IxR X rIxO := by
  intro value slice pins s σ H x y v u Q I rx ry h hs
  obtain ⟨p, rfl, hp, h⟩ := h
  obtain ⟨a, b, h0, h1, I1⟩ := strm_open I hp
  have back : ∀ (v : V) (w : Value) (s' : Shared), EP X pins σ (fun v' H' => H' = upd H p (.lst [.int a, .int b]) ∧ v' = v ∧ Q v H) w s' → EP X pins σ Q w s' := fun v w s' ⟨v', H', I', r', e1, e2, q⟩ => by
    subst e1 e2
    have := strm_close I' upd_same h0 h1
    rw [upd_upd, upd_self hp] at this
    exact ⟨v', H, this, r', q⟩
  rcases h with ⟨rfl, q⟩ | ⟨rfl, q⟩
  · exact thn (ix_list value slice pins s σ _ _ _ v u _ I1 rx ry ⟨p, _, 0, .int a, rfl, rfl, .inl (.inl upd_same), rfl, ⟨rfl, rfl, q a⟩⟩ hs) fun w s' h => back _ w s' h
  · exact thn (ix_list value slice pins s σ _ _ _ v u _ I1 rx ry ⟨p, _, 1, .int b, rfl, rfl, .inl (.inl upd_same), rfl, ⟨rfl, rfl, q b h0 h1⟩⟩ hs) fun w s' h => back _ w s' h
def rSetO : V → V → V → Hp → (Hp → Prop) → Prop := fun o i v H Q => ∃ p z, o = .ref p ∧ H p = some (strmO p) ∧ v = .int z ∧ (i = .int 0 ∨ i = .int 1 ∧ 0 ≤ z ∧ z < 2 ^ 32) ∧ Q H
theorem set_strm : PSet X rSetO := by
  intro pins s σ H o i v ov iv u Q I ro ri rv h
  obtain ⟨p, z, rfl, hp, rfl, hi, q⟩ := h
  obtain ⟨a, b, h0, h1, I1⟩ := strm_open I hp
  have back : ∀ (c d : Int), 0 ≤ d → d < 2 ^ 32 → ∀ s', (∃ H', Inv X pins σ H' s' ∧ H' = upd H p (.lst [.int c, .int d])) → ∃ H', Inv X pins σ H' s' ∧ Q H' := fun c d g0 g1 s' ⟨H', I', e⟩ => by
    subst e
    have := strm_close I' upd_same g0 g1
    rw [upd_upd, upd_self hp] at this
    exact ⟨H, this, q⟩
  rcases hi with rfl | ⟨rfl, g0, g1⟩
  · exact thn (set_list pins s σ _ _ _ _ ov iv u _ I1 ro ri rv ⟨p, _, 0, 0, rfl, rfl, upd_same, rfl, rfl⟩) fun _ s' h => back z b h0 h1 s' (by
      obtain ⟨H', I', e⟩ := h; exact ⟨H', I', by rw [← e, upd_upd]; rfl⟩)
  · exact thn (set_list pins s σ _ _ _ _ ov iv u _ I1 ro ri rv ⟨p, _, 1, 1, rfl, rfl, upd_same, rfl, rfl⟩) fun _ s' h => back a z g0 g1 s' (by
      obtain ⟨H', I', e⟩ := h; exact ⟨H', I', by rw [← e, upd_upd]; rfl⟩)
end
section
variable {X : Cx} {K : PySem.W.Frag} {e a b c o : Expr} {te ta tb tk : DE} {to : DOw} {pos p apos cpos : Pos}
/-- x[0], x[1] of the stream -/
def gIxS : D → D → (D → Prop) → Prop
  | .obj 0, .int i, Q => (i = 0 ∧ ∀ z, Q (.int z)) ∨ (i = 1 ∧ ∀ z : Int, 0 ≤ z → z < 2 ^ 32 → Q (.int z))
  | _, _, _ => False
theorem o2_ixS : Op2 K rIxO gIxS := by
  intro x y F H dx dy Q Q' rx ry ex g k
  unfold gIxS at g
  split at g
  · cases rx with
    | obj n h =>
      cases ry
      refine ⟨_, rfl, ex _ _ h, ?_⟩
      rcases g with ⟨rfl, g⟩ | ⟨rfl, g⟩
      · exact .inl ⟨rfl, fun z => k _ _ (.int z) (g z)⟩
      · exact .inr ⟨rfl, fun z h0 h1 => k _ _ (.int z) (g z h0 h1)⟩
  · exact g.elim
theorem pd_ixS (ha : PE X a (upE K ta)) (hb : PE X b (upE K tb)) (hs : PlainIx b := by exact fun _ _ => rfl) : PE X (.Subscript a b pos) (upE K (d2 gIxS ta tb)) := pimp (pe_ix ix_strm ha hb hs) fun _ _ _ h => up2 o2_ixS h
/-- x[0] = v, x[1] = v of the stream -/
def gSetS (to ti : DE) : DG := fun d δ Q => to δ fun δ1 x => ti δ1 fun δ2 y => x = .obj 0 ∧ ∃ z, d = .int z ∧ (y = .int 0 ∨ y = .int 1 ∧ 0 ≤ z ∧ z < 2 ^ 32) ∧ Q δ2
theorem ug_setS {ti : DE} (ho : PE X o (upE K ta)) (hi : PE X e (upE K ti)) (ha : ∀ v, assign (.Subscript o e pos) X.env v = (do
      let ov ← holding [v] (eval o X.env)
      let iv ← holding [v, ov] (eval e X.env)
      standAt pos
      holding [v, ov, iv] (setItem ov iv v)
      release [v, ov, iv] []) := by intro _; rfl) : PG X (.Subscript o e pos) (upG K (gSetS ta ti)) := by
  refine gimp (pg_sub ho hi set_strm ha) fun v σ H Q ⟨F0, H0, P, δ, F, d, Q', R, r, g, k⟩ => ?_
  refine ⟨F0, H0, P, δ, F, _, R, g, fun δ1 F1 H1 x dx R1 e1 rx g => ?_⟩
  refine ⟨F0, H0, P, δ1, F1, _, R1, g, fun δ2 F2 H2 y dy R2 e2 ry ⟨ex, z, ed, hy, q⟩ => ?_⟩
  subst ex ed
  cases r
  cases rx with
  | obj n h =>
    have hH := R2.e3 _ _ (e2 _ _ h)
    refine ⟨_, z, rfl, hH, rfl, ?_, k δ2 σ F2 H2 R2 (e1.trans e2) q⟩
    rcases hy with hy | ⟨hy, h0, h1⟩
    · subst hy; cases ry; exact .inl rfl
    · subst hy; cases ry; exact .inr ⟨rfl, h0, h1⟩
/-- a fresh list of two ints as a stream -/
def dStrm (to : DOw) : DE := fun δ Q => to δ fun δ1 o => ∃ x y : Int, o = .lst [.int x, .int y] ∧ 0 ≤ y ∧ y < 2 ^ 32 ∧ Q δ1 (.obj 0)
def pHide (t : TE) : TE := fun σ H Q => t σ H fun v H' => ∃ q x y, H' q = some (.lst [.int x, .int y]) ∧ 0 ≤ y ∧ y < 2 ^ 32 ∧ Q v (upd H' q (strmO q))
theorem pe_hide {t : TE} (h : PE X e t) : PE X e (pHide t) := ⟨fun pins s σ H Q I q => thn (h.run pins s σ H _ I q) fun u s1 ⟨v, H1, I1, r1, q, x, y, hq, h0, h1, k⟩ => ⟨v, _, strm_close I1 hq h0 h1, r1, k⟩⟩
theorem pstrm (h : PE X e (upO K to)) : PE X e (upE K (dStrm to)) := pimp (pe_hide h) fun σ H Q ⟨F0, H0, P, δ, F, Q', R, ht, k⟩ => by
  refine ⟨F0, H0, P, δ, F, _, R, ht, fun δ1 F1 H1 p ho o R1 hP e1 oa ⟨x, y, eo, h0, h1, q⟩ => ?_⟩
  subst eo
  obtain ⟨vs, hv, rs⟩ := oa
  have ev : vs = [.int x, .int y] := by
    cases rs with
    | cons a r => cases r with
      | cons b r => cases r; cases a; cases b; rfl
  subst ev
  have n1 := (R1.rsv p ho (by simp)).2.1
  exact ⟨p, x, y, hv, h0, h1, k δ1 _ _ _ _ (R1.frzP hP (strmO p)) (e1.trans (Ex.new n1)) (.obj 0 upd_same) q⟩
end
end Mv

namespace Mv
open PySem PySem.Spec PyProof.Rows L2
section
variable {X : Cx} {K : PySem.W.Frag} {e a b c o : Expr} {te ta tb tk : DE} {to : DOw} {tw : DV} {pos p apos cpos : Pos}
theorem pe_or {t t' : TE} (h : PE X e t) (h' : PE X e t') : PE X e (fun σ H Q => t σ H Q ∨ t' σ H Q) := ⟨fun pins s σ H Q I q => q.elim (h.run pins s σ H Q I) (h'.run pins s σ H Q I)⟩
theorem pi_or {tg it : Expr} {w w' : TI} (h : PI X tg it w) (h' : PI X tg it w') : PI X tg it (fun σ H R => w σ H R ∨ w' σ H R) := ⟨fun pins s σ H R I q => q.elim (h.run pins s σ H R I) (h'.run pins s σ H R I)⟩
/-! ### clear -/
def rClr : V → List V → Hp → VK → Prop := fun x vs H Q => ∃ a, x = .ref a ∧ vs = [] ∧ ((∃ kvs, H a = some (.dK kvs) ∧ Q .non (upd H a (.dK []))) ∨ ∃ kvs, H a = some (.dT kvs) ∧ Q .non (upd H a (.dT [])))
theorem mt_clr : MtR X "dict.clear" rClr := by
  intro pins s σ H x vs v us Q I rx rv h
  obtain ⟨a, rfl, rfl, h⟩ := h
  cases rx
  cases rv
  rcases h with ⟨kvs, ha, q⟩ | ⟨kvs, ha, q⟩
  · obtain ⟨hz, na, va, xa, oa, es, ep, hoa, cxa, hda, kka, pa, _⟩ := I.hok a _ ha
    have lw : es.size = kvs.length := by
      have h1 := pa.length; have h2 := xa.length
      rw [Array.length_toList] at h1; omega
    refine call_meetsIn PySem.F.slot_dict_clear ⟨_, hoa, cxa.1⟩ PySem.F.entry_dict_clear (PySem.F.args_dict_clear_1 _) (PySem.meets_dict_clear_raw a) ⟨es, ep, ⟨oa, hoa, cxa, hda⟩, by rw [lw]; exact hz, fun h' hr hs => ?_⟩
    obtain ⟨o', ho', cx', hd'⟩ := hr
    exact ⟨.non, _, I.write (x := a) (e := a) (o := .dK []) (t' := s.toks) (by rw [ha]; trivial) (.inl rfl) (fun b u hb q => (hs.2 b hb).trans q) ⟨_, ho'⟩
      ⟨Nat.zero_le _, na, [], .nil, o', #[], _, ho', cx', hd', (fun e he => nomatch (Array.not_mem_empty e he)), .nil, List.nodup_nil⟩, rfl, q⟩
  · obtain ⟨hz, na, xs, kt, oa, es, ep, hoa, cxa, hda, he, hn⟩ := I.hok a _ ha
    have lw : es.size = kvs.length := by
      have h1 := size_of_entries he; have h2 := kt.length
      omega
    refine call_meetsIn PySem.F.slot_dict_clear ⟨_, hoa, cxa.1⟩ PySem.F.entry_dict_clear (PySem.F.args_dict_clear_1 _) (PySem.meets_dict_clear_raw a) ⟨es, ep, ⟨oa, hoa, cxa, hda⟩, by rw [lw]; exact hz, fun h' hr hs => ?_⟩
    obtain ⟨o', ho', cx', hd'⟩ := hr
    exact ⟨.non, _, I.write (x := a) (e := a) (o := .dT []) (t' := s.toks) (by rw [ha]; trivial) (.inl rfl) (fun b u hb q => (hs.2 b hb).trans q) ⟨_, ho'⟩
      ⟨Nat.zero_le _, na, [], .nil, o', #[], _, ho', cx', hd', rfl, List.nodup_nil⟩, rfl, q⟩
def O.empty : O → O
  | .lst _ => .lst []
  | .dk _ => .dk []
  | .dt _ => .dt []
/-- x.clear() of an owned thing -/
def dClr (i : Nat) : DE := fun δ Q => match δ[i]? with
  | some (some (.own o)) => Q (δ.set i (some (.own o.empty))) .non
  | _ => False
theorem pd_clr {i : Nat} (h : PE X o (tVar i)) (hbase : attributeBase o "clear" X.env (eval o X.env) = eval o X.env := by rfl) (hline : (apos.endLine == cpos.line) = true := by rfl) : PE X (.Call (.Attribute o "clear" apos) [] [] cpos) (upE K (dClr i)) := by
  refine pimp (pe_or (pe_bm0 PySem.F.plainAttrs_list PySem.F.slot_list_clear PySem.F.type_list_clear mt_clear h hbase hline) (pe_bm0 PySem.F.plainAttrs_dict PySem.F.slot_dict_clear PySem.F.type_dict_clear mt_clr h hbase hline)) fun σ H Q ⟨F0, H0, P, δ, F, Q', R, ht, k⟩ => ?_
  unfold dClr at ht
  split at ht
  · rename_i o1 e1
    obtain ⟨a, ea, oa, n1, n2⟩ := R.ownd e1
    cases o1 with
    | lst ds =>
      obtain ⟨vs, hv, rs⟩ := oa
      exact .inl ⟨_, ea, .inl ⟨rfl, vs, .inl (.inl hv)⟩, a, vs, rfl, rfl, hv, k _ F _ _ _ (R.write e1 ea (o' := .lst []) (show OwnAt K F _ a (.lst []) from ⟨_, upd_same, .nil⟩)) (Ex.refl F) .non ht⟩
    | dk ds =>
      obtain ⟨vs, hv, rs⟩ := oa
      exact .inr ⟨_, ea, .inr (.inr (.inl ⟨rfl, .inl ⟨_, hv⟩⟩)), a, rfl, rfl, .inl ⟨vs, hv, k _ F _ _ _ (R.write e1 ea (o' := .dk []) (show OwnAt K F _ a (.dk []) from ⟨_, upd_same, .nil⟩)) (Ex.refl F) .non ht⟩⟩
    | dt ds =>
      obtain ⟨vs, hv, rs⟩ := oa
      exact .inr ⟨_, ea, .inr (.inr (.inl ⟨rfl, .inr ⟨_, hv⟩⟩)), a, rfl, rfl, .inr ⟨vs, hv, k _ F _ _ _ (R.write e1 ea (o' := .dt []) (show OwnAt K F _ a (.dt []) from ⟨_, upd_same, .nil⟩)) (Ex.refl F) .non ht⟩⟩
  · exact ht.elim
end
end Mv

namespace Mv
open PySem PySem.Spec PyProof.Rows L2
section
variable {X : Cx} {K : PySem.W.Frag} {e a b c o : Expr} {te ta tb tk : DE} {to : DOw} {tw : DV} {tt : DT} {g : DG} {wi : DI} {g0 : TG} {pos p apos cpos spos : Pos} {elt tg iter : Expr} {ifs : List Expr} {scope : Scope} {own : List (Str × Nat)} {vs : List Nat}
/-! ### list comprehensions -/
theorem po_lc (hc : X.calm = true) (hN : X.N.Nodup) (hi : PI X tg iter (upI K wi)) (ok : BlkOk X.N X.env.scope scope own)
    (hg : ∀ (s : Shared) (H : Hp) (C : Addr) (cl : List (Str × Addr)) (fp : List Addr), PG (X.blk s H scope (compEnvC scope cl C X.env) fp) tg g0) (ht : ∀ (s : Shared) (H : Hp) (C : Addr) (cl : List (Str × Addr)) (fp : List Addr), PTs (X.blk s H scope (compEnvC scope cl C X.env) fp) ifs (upT K tt))
    (he : ∀ (s : Shared) (H : Hp) (C : Addr) (cl : List (Str × Addr)) (fp : List Addr), PE (X.blk s H scope (compEnvC scope cl C X.env) fp) elt (upE K te)) (gk : CT K (own.map (·.2)) g0 g) (hs : ∀ x, foldedSetIterable iter X.env x = pure x := by intro _; rfl) :
    PE X (.ListComp elt [⟨tg, iter, ifs, 0⟩] scope pos) (upO K (dLc wi g tt te (own.map (·.2)))) := pimp (pe_lc hc hN hi ok hg ht he hs) fun _ _ _ h => lc_up gk h
def pLockS (t : TS) : TS := fun D σ H => t { D with nx := fun σ' H' => D.nx σ' H' ∨ ∃ d u, H' d = some u ∧ Mut (some u) ∧ ∀ od, D.nx σ' (upd H' d (.frz od u)) } σ H
theorem ps_plock {st : Stmt} {t : TS} (h : PS X st t) : PS X st (pLockS t) := ⟨fun pins s σ H D I q => thn (h.run pins s σ H _ I q) fun f s1 r => by
  cases f with
  | next =>
    obtain ⟨σ1, H1, I1, q1⟩ := r
    rcases q1 with q1 | ⟨d, u, h1, mu, q1⟩
    · exact ⟨σ1, H1, I1, q1⟩
    · obtain ⟨od, I2⟩ := I1.lock h1 mu
      exact ⟨σ1, _, I2, q1 od⟩
  | ret u => exact r
  | brk => exact r
  | cont => exact r⟩
/-- name = a comprehension, the name's slot frozen -/
def dAsgF (i : Nat) (to : DOw) : DS := fun D δ => to δ fun δ1 o => D.nx (δ1.set i (some (.fz o.d)))
theorem ss_setLc {i : Nat} {y : Str} {py : Pos} (hc : X.calm = true) (hN : X.N.Nodup) (hy : X.N[i]? = some y) (hyl : X.env.scope.names.lookup y = some .local)
    (hsw : swapsWith (.ListComp elt [⟨tg, iter, ifs, 0⟩] scope pos) (some (.Name y py)) spos.line X.env = pure true) (hi : PI X tg iter (upI K wi)) (ok : BlkOk X.N X.env.scope scope own)
    (hg : ∀ (s : Shared) (H : Hp) (C : Addr) (cl : List (Str × Addr)) (fp : List Addr), PG (X.blk s H scope (compEnvC scope cl C X.env) fp) tg g0) (ht : ∀ (s : Shared) (H : Hp) (C : Addr) (cl : List (Str × Addr)) (fp : List Addr), PTs (X.blk s H scope (compEnvC scope cl C X.env) fp) ifs (upT K tt))
    (he : ∀ (s : Shared) (H : Hp) (C : Addr) (cl : List (Str × Addr)) (fp : List Addr), PE (X.blk s H scope (compEnvC scope cl C X.env) fp) elt (upE K te)) (gk : CT K (own.map (·.2)) g0 g) (hs : ∀ x, foldedSetIterable iter X.env x = pure x := by intro _; rfl) :
    PS X (.Assign [.Name y py] (.ListComp elt [⟨tg, iter, ifs, 0⟩] scope pos) spos) (upS K (dAsgF i (dLc wi g tt te (own.map (·.2))))) := pimpS (ps_plock (L2.ps_setLc hc hN hy hyl hsw hi ok hg ht he hs)) fun D σ H ⟨F0, H0, δ, F, D', W⟩ => by
  show tLc (upI K wi) g0 (upT K tt) (upE K te) (own.map (·.2)) σ H fun x H1 => D.nx (σ.set i (some x)) H1 ∨ ∃ d u, H1 d = some u ∧ Mut (some u) ∧ ∀ od, D.nx (σ.set i (some x)) (upd H1 d (.frz od u))
  refine lc_up gk ⟨F0, H0, [], δ, F, _, W.rep, W.t, fun δ1 F1 H1 p ho o R1 hP e1 oa q => ?_⟩
  have n1 := (R1.rsv p ho (by simp)).2.1
  obtain ⟨ho', hh, mu, rp⟩ := oa.rep n1
  exact .inr ⟨p, ho', hh, mu, fun od => W.nx _ _ _ _ ((R1.frzP hP _).setF i (rp od)) (e1.trans (Ex.new n1)) q⟩
theorem ss_setLcO {i : Nat} {y : Str} {py : Pos} (hc : X.calm = true) (hN : X.N.Nodup) (hy : X.N[i]? = some y) (hyl : X.env.scope.names.lookup y = some .local)
    (hsw : swapsWith (.ListComp elt [⟨tg, iter, ifs, 0⟩] scope pos) (some (.Name y py)) spos.line X.env = pure true) (hi : PI X tg iter (upI K wi)) (ok : BlkOk X.N X.env.scope scope own)
    (hg : ∀ (s : Shared) (H : Hp) (C : Addr) (cl : List (Str × Addr)) (fp : List Addr), PG (X.blk s H scope (compEnvC scope cl C X.env) fp) tg g0) (ht : ∀ (s : Shared) (H : Hp) (C : Addr) (cl : List (Str × Addr)) (fp : List Addr), PTs (X.blk s H scope (compEnvC scope cl C X.env) fp) ifs (upT K tt))
    (he : ∀ (s : Shared) (H : Hp) (C : Addr) (cl : List (Str × Addr)) (fp : List Addr), PE (X.blk s H scope (compEnvC scope cl C X.env) fp) elt (upE K te)) (gk : CT K (own.map (·.2)) g0 g) (hs : ∀ x, foldedSetIterable iter X.env x = pure x := by intro _; rfl) :
    PS X (.Assign [.Name y py] (.ListComp elt [⟨tg, iter, ifs, 0⟩] scope pos) spos) (upS K (dAsgO i (dLc wi g tt te (own.map (·.2))))) := pimpS (L2.ps_setLc hc hN hy hyl hsw hi ok hg ht he hs) fun D σ H ⟨F0, H0, δ, F, D', W⟩ => by
  show tLc (upI K wi) g0 (upT K tt) (upE K te) (own.map (·.2)) σ H fun x H1 => D.nx (σ.set i (some x)) H1
  refine lc_up gk ⟨F0, H0, [], δ, F, _, W.rep, W.t, fun δ1 F1 H1 p ho o R1 hP e1 oa q => W.nx _ _ F1 H1 (R1.setO hP i oa) e1 q⟩
/-- name += e, name -= e of ints -/
def dAug (i : Nat) (f : Int → Int → Int) (te : DE) : DS := fun D δ => match δ[i]? with
  | some (some (.fz (.int a))) => te δ fun δ1 d => ∃ b, d = .int b ∧ D.nx (δ1.set i (some (.fz (.int (f a b)))))
  | _ => False
theorem ss_aug {i : Nat} {x : Str} {op : Operator} {f : Int → Int → Int} {pos' : Pos} (hN : X.N.Nodup) (hi : X.N[i]? = some x) (hx : Loc X.env.scope x) (he : PE X e (upE K te)) (ho : PIp X op (ipI f)) (hf : X.fn x = true ∨ X.env.scope.names.lookup x = some .local := by first | exact .inl rfl | exact .inr rfl | assumption) :
    PS X (.AugAssign (.Name x pos') op e pos) (upS K (dAug i f te)) := pimpS (ps_aug hN hi hx he ho hf) fun D σ H ⟨F0, H0, δ, F, D', W⟩ => by
  have ht := W.t
  unfold dAug at ht
  split at ht
  · rename_i n e1
    obtain ⟨v, ev, r⟩ := W.rep.fz e1
    cases r
    exact ⟨_, ev, F0, H0, [], δ, F, _, W.rep, ht, fun δ1 F1 H1 y dy R1 ex1 ry ⟨b, eb, q⟩ => by
      subst eb
      cases ry
      exact ⟨n, b, rfl, rfl, W.nx _ _ F1 H1 (R1.setF i (.int _)) ex1 q⟩⟩
  · exact ht.elim
end
end Mv

namespace Mv
open PySem PySem.Spec PyProof.Rows L2

/-! ### blocks: one clause's loop, whatever stands in its turn -/
abbrev noE : Value → Shared → Prop := fun _ _ => False
section
variable {prog : Program} {w : World} {A : Around} {R : Result → Shared → Prop} {comp tg : Expr} {c : Nat} {p : Pos} {ifs : List Expr} {it acc : Value} {env : Env} {body : Sem PySem.Fin}
theorem clause_loop (hq : (Code.compLoop comp c it acc env).quiet = true)
    (hT : compTurn comp c it acc env = (do
      standAt p
      match ← pyNext it with
      | none => pure (.done .next)
      | some v =>
        letOwnedTupleGo tg it v
        assign tg env v
        let mut ok := true
        for t in ifs do
          if ok then ok ← isTrue t env (eval t env)
        if ok then body
        else again (.compLoop comp c it acc env)))
    (hd : ∀ s Q E, wpAny (model prog w) A ((compTurn comp c it acc env).onRaise fun x => do noteFrame x env; theTreesLotGoes x) Q E s → wpAny (model prog w) (A.under (.compLoop comp c it acc env)) ((model prog w).den (.compLoop comp c it acc env)) Q E s)
    (I : Nat → Shared → Prop)
    (turn : ∀ n s, I n s → wpAny (model prog w) A (pyNext it) (fun r s1 => match r with
      | none => R (.ok .next) s1
      | some v => wpAny (model prog w) A (letOwnedTupleGo tg it v) (fun _ s2 => wpAny (model prog w) A (assign tg env v) (fun _ s3 =>
          wpAny (model prog w) A (forIn ifs true fun t r => if r = true then do let ok ← isTrue t env (eval t env); pure (ForInStep.yield ok) else pure (ForInStep.yield r)) (fun ok s4 =>
            if ok = true then wpAny (model prog w) A body (fun fin s5 => fin = .again (.compLoop comp c it acc env) ∧ ∃ m, m < n ∧ I m s5) noE s4 else ∃ m, m < n ∧ I m s4) noE s3) noE s2) noE s1) noE s)
    {n : Nat} {s : Shared} (h : I n s) : codeAny (model prog w) A (.compLoop comp c it acc env) R s := by
  refine codeAny_loop hq I (fun n s hI => hd _ _ _ (wpAny_noted ?_)) n h
  rw [hT]
  refine wpAny_bind (wpAny_standAt (wpAny_bind (thnF (turn n s hI) fun r s1 h1 => ?_)))
  cases r with
  | none => exact wpAny_pure h1
  | some v =>
    refine wpAny_bind (thnF h1 fun _ s2 h2 => wpAny_bind (thnF h2 fun _ s3 h3 => wpAny_bind (thnF h3 fun ok s4 h4 => ?_)))
    cases ok with
    | false => exact wpAny_pure ⟨rfl, h4⟩
    | true => exact thnF h4 fun fin s5 ⟨e, h5⟩ => by subst e; exact ⟨rfl, h5⟩
end
/-- a turn's own work, by values: what it may store, and whence the next turn starts -/
abbrev TB := L2.St → Hp → (Hp → Prop) → Prop
def tLoop (g : TG) (tt : TT) (tb : TB) (vs : List Nat) (J : It) : TB := fun σ H Qd => ∃ W : Nat → Nat → Hp → Prop, (∃ m, W 0 m H) ∧ ∀ i m H, W i m H →
  (J.stop i H ∧ Qd H) ∨ (J.go i H ∧ ∃ Nx : Hp → Prop, (∀ H', Nx H' → ∃ m', m' < m ∧ W (i + 1) m' H') ∧ ∀ x H', J.yld i H x H' → g x (wipe σ vs) H' fun σ2 H2 => wipe σ2 vs = wipe σ vs ∧
    tt σ2 H2 fun b H3 => if b = true then tb σ2 H3 Nx else Nx H3)
/-- a turn's own work, from any state of the block; the slots us are lost -/
def PB (Y : Cx) (lc : Code) (body : Sem PySem.Fin) (tb : TB) (us : List Nat) : Prop := ∀ (pins : List (Addr × Obj)) (s : Shared) (σ : L2.St) (H : Hp) (N : Hp → Prop), Inv Y pins σ H s → tb σ H N →
  wpAny (model Y.prog Y.w) Y.A body (fun fin s' => fin = .again lc ∧ ∃ H', Inv Y pins (wipe σ us) H' s' ∧ N H') noE s
theorem wipe_sub {σ τ : L2.St} {vs us : List Nat} (hu : ∀ i ∈ us, i ∈ vs) (e : wipe τ vs = wipe σ vs) : (wipe σ vs).length = (wipe τ us).length ∧ ∀ (j : Nat) v, (wipe σ vs)[j]? = some (some v) → (wipe τ us)[j]? = some (some v) := by
  refine ⟨by rw [← e, wipe_length, wipe_length], fun j v h => ?_⟩
  rw [← e] at h
  obtain ⟨h1, h2⟩ := wipe_some h
  rw [wipe_not fun m => h2 (hu j m)]
  exact h1
theorem blk_walk {Y : Cx} (hc : Y.calm = true) (hxe : Y.xe = noE) {comp tg : Expr} {c : Nat} {p : Pos} {ifs : List Expr} {it : Addr} {acc : Value} {body : Sem PySem.Fin} {g : TG} {tt : TT} {tb : TB} {vs us : List Nat} {J : It} {fp : List Addr} {tn : Nat → Heap → Prop} {R : Result → Shared → Prop}
    (hq : (Code.compLoop comp c (.ref it) acc Y.env).quiet = true)
    (hT : compTurn comp c (.ref it) acc Y.env = (do
      standAt p
      match ← pyNext (.ref it) with
      | none => pure (.done .next)
      | some v =>
        letOwnedTupleGo tg (.ref it) v
        assign tg Y.env v
        let mut ok := true
        for t in ifs do
          if ok then ok ← isTrue t Y.env (eval t Y.env)
        if ok then body
        else again (.compLoop comp c (.ref it) acc Y.env)))
    (hd : ∀ s Q E, wpAny (model Y.prog Y.w) Y.A ((compTurn comp c (.ref it) acc Y.env).onRaise fun x => do noteFrame x Y.env; theTreesLotGoes x) Q E s → wpAny (model Y.prog Y.w) (Y.A.under (.compLoop comp c (.ref it) acc Y.env)) ((model Y.prog Y.w).den (.compLoop comp c (.ref it) acc Y.env)) Q E s)
    (T : Turn Y.prog Y.w Y.K tg J fp it tn) (pg : PG Y tg g) (pt : PTs Y ifs tt) (pb : PB Y (.compLoop comp c (.ref it) acc Y.env) body tb us) (hu : ∀ i ∈ us, i ∈ vs)
    {pins : List (Addr × Obj)} {s : Shared} {σ : L2.St} {H : Hp} (I : Inv Y pins (wipe σ vs) H s) (st : tn 0 s.heap) (f0 : ∀ b ∈ fp, FpOk Y pins H b) {Qd : Hp → Prop} (h : tLoop g tt tb vs J σ H Qd)
    (hR : ∀ s' H', Inv Y pins (wipe σ vs) H' s' → Qd H' → R (.ok .next) s') : codeAny (model Y.prog Y.w) Y.A (.compLoop comp c (.ref it) acc Y.env) R s := by
  obtain ⟨W, ⟨m0, w0⟩, turn⟩ := h
  refine clause_loop hq hT hd (fun n s' => ∃ i H', Inv Y pins (wipe σ vs) H' s' ∧ tn i s'.heap ∧ (∀ b ∈ fp, H' b = none) ∧ W i n H') ?_ (n := m0) ⟨0, H, I, st, fun b hb => (f0 b hb).1, w0⟩
  rintro n s1 ⟨i, H1, I1, st1, n1, w1⟩
  have f1 : ∀ b ∈ fp, FpOk Y pins H1 b := fun b hb => ⟨n1 b hb, (f0 b hb).2⟩
  rcases turn i n H1 w1 with ⟨stop, qq⟩ | ⟨go, Nx, hNx, step⟩
  · refine thnF (T.done Y rfl rfl rfl hc i pins s1 _ H1 noE I1 f1 st1 stop) fun r s2 ⟨hr, I2⟩ => ?_
    subst hr
    exact hR s2 H1 I2 qq
  · refine thnF (T.item Y rfl rfl rfl hc i pins s1 _ H1 noE I1 f1 st1 go) fun r s2 ⟨u, hr, h2⟩ => ?_
    subst hr
    refine thnF h2 fun _ s3 ⟨x, H3, I3, r3, y3, st3, n3⟩ => ?_
    have I3' := I3.pinned (fun b hb => ⟨n3 b hb, (f0 b hb).2⟩) (T.obj _ _ st3)
    have pgr := pg.run _ s3 _ H3 x u _ I3' r3 (step x H3 y3)
    rw [hxe] at pgr
    refine thnF pgr fun _ s4 ⟨σ4, H4, I4, hw4, q4⟩ => ?_
    have ptr := pt.run _ s4 σ4 H4 _ I4 q4
    rw [hxe] at ptr
    refine thnF ptr fun b s5 ⟨H5, I5, q5⟩ => ?_
    have fin : ∀ {τ : L2.St} {s' : Shared} {H' : Hp}, Inv Y (pins ++ pinsAt fp s3.heap) τ H' s' → ((wipe σ vs).length = τ.length ∧ ∀ (j : Nat) v, (wipe σ vs)[j]? = some (some v) → τ[j]? = some (some v)) → Nx H' →
        ∃ m, m < n ∧ ∃ i H', Inv Y pins (wipe σ vs) H' s' ∧ tn i s'.heap ∧ (∀ b ∈ fp, H' b = none) ∧ W i m H' := fun {τ s' H'} I' hl nx => by
      obtain ⟨m, hm, w'⟩ := hNx H' nx
      have pin : ∀ b ∈ fp, ∀ o, s3.heap.get? b = some o → s'.heap.get? b = some o ∧ H' b = none := fun b hb o e =>
        have z := I'.pin (b, o) (List.mem_append_right _ (List.mem_append_right _ (mem_pinsAt hb e)))
        ⟨z.1, z.2.1⟩
      refine ⟨m, hm, i + 1, H', I'.unpinned.weak hl.1 hl.2, T.keep _ _ _ st3 (fun b hb o e => (pin b hb o e).1), fun b hb => ?_, w'⟩
      obtain ⟨o, e, _⟩ := T.obj _ _ st3 b hb
      exact (pin b hb o e).2
    cases b with
    | false =>
      rw [if_neg (by decide)] at q5 ⊢
      exact fin I5 (wipe_sub (us := []) (fun i h => nomatch h) hw4) q5
    | true =>
      rw [if_pos rfl] at q5 ⊢
      exact thnF (pb _ s5 σ4 H5 Nx I5 q5) fun _ s6 ⟨ea, H6, I6, q6⟩ => ⟨ea, fin I6 (wipe_sub hu hw4) q6⟩
/-! ### a dict comprehension's turns -/
/-- d[y] = z inside a comprehension -/
theorem d_keep {Y : Cx} {pins : List (Addr × Obj)} {σ : L2.St} {H H' : Hp} {s : Shared} {E : Value → Shared → Prop} {D : Addr} {y z : V} {u r : Value} {Q : Unit → Shared → Prop} (hu : Y.A.units + 1 < cLine) (I : Inv Y pins σ H s) (g : DPut H D y z H') (ry : RelV y u) (rz : RelV z r)
    (h : ∀ s', Inv Y pins σ H' s' → Q () s') : wpAny (model Y.prog Y.w) Y.A (dictSet D u r) Q E s := by
  rcases g with ⟨kvs, k, e, rfl, l, rfl⟩ | ⟨kvs, k, b, e, rfl, eb, l, rfl⟩
  · exact d_dictSet I e l ry rz h
  · cases ry
    obtain ⟨hz, hd, xs, rel, dd⟩ := dt_of I.hok e
    have hx : xs.length ≤ sizeLine := by rw [← rel.length]; exact hz
    have hl : (putK kvs k z).length ≤ sizeLine := by have := length_putK kvs k z; omega
    refine wpAny_dictSet_heap (show Y.A.units < cLine by omega) (key_of I.hok eb) dd (fun h' dd' hs => h _ ?_) hx
    obtain ⟨q, es, ep, hq, h2, h3, h4, _, h5⟩ := dd'
    have ok' : ObjOk Y.prog Y.w (upd H D (.dT (putK kvs k z))) h' D (.dT (putK kvs k z)) := ⟨hl, hd, _, (rel.put k eb rz).keeps fun c ys ec => by rw [upd_ne (ne_of ec e (fun z => nomatch z))]; exact ec, q, es, ep, hq, h2, h3, h4, h5⟩
    exact d_write I (by rw [e]; exact True.intro) hs ⟨q, hq⟩ ok'
def tPut (tk tv : TE) (D : Addr) : TB := fun σ H N => tk σ H fun y H1 => tv σ H1 fun z H2 => ∃ H3, DPut H2 D y z H3 ∧ N H3
section
variable {Y : Cx} {kx vx : Expr} {tk tv : TE}
theorem pb_put {D : Addr} {q : Pos} {lc : Code} (hxe : Y.xe = noE) (hu : Y.A.units + 1 < cLine) (pk : PE Y kx tk) (pv : PE Y vx tv) :
    PB Y lc (do
      (do let a ← eval kx Y.env
          let b ← holding [a] (eval vx Y.env)
          standAt q
          holding [a, b] (dictSet D a b))
      again lc) (tPut tk tv D) [] := fun pins s σ H N I h => by
  have r1 := pk.run pins s σ H _ I h
  rw [hxe] at r1
  refine wpAny_bind (wpAny_bind (thnF r1 fun a s1 ⟨y, H1, I1, ry, h1⟩ => ?_))
  have r2 := pv.run pins s1 σ H1 _ I1 h1
  rw [hxe] at r2
  exact wpAny_bind (wpAny_holding (thnF r2 fun b s2 ⟨z, H2, I2, rz, H3, g, h3⟩ => wpAny_bind (wpAny_standAt (wpAny_holding (d_keep hu I2 g ry rz fun s' I' => wpAny_pure ⟨rfl, H3, I', h3⟩)))))
/-- a second clause: its source and its own loop -/
def tInner (wi : TI) (g : TG) (tt : TT) (tb : TB) (vs : List Nat) : TB := fun σ H N => wi σ H fun J H1 => tLoop g tt tb vs J σ H1 N
theorem pb_inner {comp tg i1 : Expr} {ifs : List Expr} {p : Pos} {acc : Value} {lc : Code} {body : Addr → Sem PySem.Fin} {wi : TI} {g : TG} {tt : TT} {tb : TB} {vs us : List Nat} (hc : Y.calm = true) (hxe : Y.xe = noE) (hs : ∀ x, foldedSetIterable i1 Y.env x = pure x)
    (hq : ∀ it, (Code.compLoop comp 1 (.ref it) acc Y.env).quiet = true)
    (hT : ∀ it : Addr, compTurn comp 1 (.ref it) acc Y.env = (do
      standAt p
      match ← pyNext (.ref it) with
      | none => pure (.done .next)
      | some v =>
        letOwnedTupleGo tg (.ref it) v
        assign tg Y.env v
        let mut ok := true
        for t in ifs do
          if ok then ok ← isTrue t Y.env (eval t Y.env)
        if ok then body it
        else again (.compLoop comp 1 (.ref it) acc Y.env)))
    (hd : ∀ (it : Addr) s Q E, wpAny (model Y.prog Y.w) Y.A ((compTurn comp 1 (.ref it) acc Y.env).onRaise fun x => do noteFrame x Y.env; theTreesLotGoes x) Q E s → wpAny (model Y.prog Y.w) (Y.A.under (.compLoop comp 1 (.ref it) acc Y.env)) ((model Y.prog Y.w).den (.compLoop comp 1 (.ref it) acc Y.env)) Q E s)
    (go : ∀ (it : Addr) (R : Result → Shared → Prop) (s : Shared), codeAny (model Y.prog Y.w) Y.A (.compLoop comp 1 (.ref it) acc Y.env) R s → (wpAny (model Y.prog Y.w) Y.A (pyIter (.ref it)) (fun it' s' => codeAny (model Y.prog Y.w) Y.A (.compLoop comp 1 it' acc Y.env) R s') noE s) →
      codeAny (model Y.prog Y.w) Y.A (.compStart comp 1 (.ref it) acc Y.env) R s)
    (hi : PI Y tg i1 wi) (pg : PG Y tg g) (pt : PTs Y ifs tt) (pb : ∀ it : Addr, PB Y (.compLoop comp 1 (.ref it) acc Y.env) (body it) tb us) (hu : ∀ i ∈ us, i ∈ vs) :
    PB Y lc (do
      let x ← eval i1 Y.env
      standAt i1.pos
      let x ← foldedSetIterable i1 Y.env x
      let _ ← runOwn (.compStart comp 1 (← holding [x] (pyIter x)) acc Y.env) Y.env
      again lc) (tInner wi g tt tb vs) vs := fun pins s σ H N I h => by
  have r1 := hi.run pins s σ H _ I h
  rw [hxe] at r1
  refine wpAny_bind (thnF r1 fun xv s1 h1 => wpAny_bind (wpAny_standAt (wpAny_bind (wpAny_of_eq (hs xv) (wpAny_bind (wpAny_holding (thnF h1 fun itv s2 h2 => ?_)))))))
  obtain ⟨it, fp, tn, J, H2, e, I2, T, st2, f2, q⟩ := h2
  subst e
  have loop : codeAny (model Y.prog Y.w) Y.A (.compLoop comp 1 (.ref it) acc Y.env) (fun r s' => match r with
      | .ok _ => ∃ H', Inv Y pins (wipe σ vs) H' s' ∧ N H'
      | .error _ => False) s2 :=
    blk_walk hc hxe (hq it) (hT it) (hd it) T pg pt (pb it) hu (I2.weak (wipe_length _ _) (fun j v e => (wipe_some e).1)) st2 f2 q fun s' H' I' n => ⟨H', I', n⟩
  refine wpAny_bind (wpAny_runOwn ?_)
  rw [Around.mark_none]
  refine codeAny_mono (go it _ s2 loop (T.self Y.A 0 _ _ _ st2 loop)) fun r s' hr => ?_
  cases r with
  | ok f => exact wpAny_pure ⟨rfl, hr⟩
  | error e => exact hr.elim
end
/-! ### the comprehension itself -/
theorem comp_top {X : Cx} {pins : List (Addr × Obj)} {s : Shared} {σ : L2.St} {H : Hp} {comp tg iter : Expr} {ifs : List Expr} {rest : List Comprehension} {scope : Scope} {own : List (Str × Nat)} {pos' : Pos} {wi : TI} {new : HO} {obj0 : Obj} {mk : Sem Value} {Qd : Addr → Hp → Prop} {Qf : Value → Shared → Prop} {use : Option (Value → Sem Unit)}
    (hN : X.N.Nodup) (I : Inv X pins σ H s) (hi : PI X tg iter wi) (ok : BlkOk X.N X.env.scope scope own) (hcl : clausesOf comp = ⟨tg, iter, ifs, 0⟩ :: rest) (hs : ∀ x, foldedSetIterable iter X.env x = pure x)
    (hmk : ∀ (s : Shared) (Q : Value → Shared → Prop) (E : Value → Shared → Prop), Q (.ref s.heap.objs.size) { s with heap := s.heap.push obj0 } → wpAny (model X.prog X.w) X.A mk Q E s)
    (hnew : ∀ (h : Heap) (H : Hp), sysModules < h.objs.size → ObjOk X.prog X.w H (h.push obj0) h.objs.size new)
    {R0 : It → Hp → Prop} (h : wi σ H R0) (hw : ∀ J H1, R0 J H1 → ∀ D, H1 D = none → ∀ (s3 : Shared) (fp : List Addr) (tn : Nat → Heap → Prop) (it : Addr) (ce : Env) (s4 : Shared), Turn X.prog X.w X.K tg J fp it tn → tn 0 s4.heap →
      ce = compEnvC scope (cellsFrom (s3.heap.objs.size + 1) scope.names (cloFrom X.env.cells scope.names [])) s3.heap.objs.size X.env →
      Inv (X.blk s3 (upd H1 D new) scope ce fp) [] (wipe σ (own.map (·.2))) (upd H1 D new) s4 → (∀ b ∈ fp, FpOk (X.blk s3 (upd H1 D new) scope ce fp) [] (upd H1 D new) b) →
      ∀ R : Result → Shared → Prop, (∀ s' H', Inv (X.blk s3 (upd H1 D new) scope ce fp) [] (wipe σ (own.map (·.2))) H' s' → Qd D H' → R (.ok .next) s') → codeAny (model X.prog X.w) X.A (.compStart comp 0 (.ref it) (.ref D) ce) R s4)
    (hQ : ∀ D C s' m H', Inv X pins σ H' s' → Qd D H' → s'.heap.Ns C m → FpOk X pins H' C → compPost (model X.prog X.w) X.A X.xe use Qf (.ref D) C (.ok .next) s') :
    wpAny (model X.prog X.w) X.A (comprehension comp scope X.env pos' mk false (eval iter X.env) use) Qf X.xe s := by
  have hfree : ∀ y ∈ scope.names, y.2 = .free → ∃ c, X.env.cells.lookup y.1 = some c := fun y hy e => (ok.free y hy e).elim (fun k => I.ok.has _ (.inl k)) fun k => I.ok.has _ (.inr k)
  refine wpAny_comprehension_free (use := use) hcl hs (closure_ok hfree) ok.kind (fun y hy e => (ok.uniq y hy).trans (congrArg some e)) (thn (hi.run pins s σ H _ I h) fun xv s1 h1 => thn h1 fun itv s2 h2 => ?_)
  obtain ⟨it, fp, tn, J, H2, e, I2, T, st2, f2, q⟩ := h2
  subst e
  refine hmk s2 _ _ (newEnv_comp ?_)
  have hn2 : H2 s2.heap.objs.size = none := I2.hok.fresh (Nat.le_refl _)
  have keep3 : ∀ b o, s2.heap.get? b = some o → (s2.heap.push obj0).get? b = some o := fun b o z => Heap.get?_push_of_some _ z
  have I3 : Inv X pins σ (upd H2 s2.heap.objs.size new) { s2 with heap := s2.heap.push obj0 } := I2.laid (t' := s2.toks) keep3 (Nat.le_refl _) (hnew _ _ I2.big)
  have f3 : ∀ b ∈ fp, FpOk X pins (upd H2 s2.heap.objs.size new) b ∧ b < (s2.heap.push obj0).objs.size := fun b hb => by
    obtain ⟨o, z, _⟩ := T.obj _ _ st2 b hb
    have lt := Heap.lt_size z
    exact ⟨⟨(upd_ne (Nat.ne_of_lt lt)).trans (f2 b hb).1, (f2 b hb).2⟩, by rw [Heap.size_push]; exact Nat.lt_succ_of_lt lt⟩
  have I4 := block_start I3 ok hN f3
  refine hw J H2 q _ hn2 { s2 with heap := s2.heap.push obj0 } fp tn it _ _ T ?_ rfl I4 (fun b hb => ?_) _ fun s' H' I' qd => ?_
  · exact T.keep _ _ _ st2 fun b _ o z => pushCells_keeps _ _ _ _ (Heap.get?_push_of_some _ (keep3 b o z))
  · exact ⟨(f3 b hb).1.1, (I4.ok.exf b hb).1, I4.ok.exfs b hb, .inl hb, fun x c z => (I4.ok.exf b hb).2 x c z, fun p hp => absurd (show p ∈ ([] : List (Addr × Obj)) ++ [] from hp) (by simp)⟩
  · have I7 : Inv X pins σ H' s' := I3.call' (ch := fp) I'.os I'.base I'.hok I'.bare fun b hb => have z := (f3 b hb).1.2; ⟨z.2.2.1, z.1, z.2.2.2.1, z.2.2.2.2⟩
    obtain ⟨m, hm, _⟩ := I'.loc
    exact hQ _ _ s' m H' I7 qd hm (I3.fpOk (Nat.le_refl _) I'.free)
end Mv

namespace Mv
open PySem PySem.Spec PyProof.Rows L2
/-! ### dict comprehensions: one clause, two clauses; keys of either kind -/
abbrev dict0 : Obj := { cls := .type "dict", data := .dict #[] }
theorem start1 {prog : Program} {w : World} {A : Around} {R : Result → Shared → Prop} {s : Shared} {kx vx t0 i0 t1 i1 : Expr} {f0 f1 : List Expr} {scope : Scope} {pos : Pos} {it acc : Value} {env : Env} (h0 : codeAny (model prog w) A (.compLoop (.DictComp kx vx [⟨t0, i0, f0, 0⟩, ⟨t1, i1, f1, 0⟩] scope pos) 1 it acc env) R s)
    (h : wpAny (model prog w) A (pyIter it) (fun it' s' => codeAny (model prog w) A (.compLoop (.DictComp kx vx [⟨t0, i0, f0, 0⟩, ⟨t1, i1, f1, 0⟩] scope pos) 1 it' acc env) R s') noE s) :
    codeAny (model prog w) A (.compStart (.DictComp kx vx [⟨t0, i0, f0, 0⟩, ⟨t1, i1, f1, 0⟩] scope pos) 1 it acc env) R s := by
  refine codeAny_of_tree (show wpAny _ _ ((compStart (.DictComp kx vx [⟨t0, i0, f0, 0⟩, ⟨t1, i1, f1, 0⟩] scope pos) 1 it acc env).onRaise fun x => do noteFrame x env; standAt theWindowsPlace) _ _ s from wpAny_notedAt ?_)
  unfold compStart
  refine (show wpAny _ _ (ask >>= _) _ _ s from wpAny_bind (wpAny_askSetting (wpAny_ite ?_)))
  split
  · first | exact wpAny_pure ⟨rfl, h0⟩ | exact wpAny_bind (wpAny_pure (wpAny_pure ⟨rfl, h0⟩))
  · refine wpAny_bind (wpAny_rule ?_)
    first
      | exact (show wpAny _ _ (standAt i1.pos >>= _) _ _ s from wpAny_bind (wpAny_standAt (wpAny_bind (thnF h fun it' s' h' => wpAny_pure ⟨rfl, h'⟩))))
      | exact wpAny_bind (wpAny_standAt (wpAny_bind (thnF h fun it' s' h' => wpAny_pure ⟨rfl, h'⟩)))
section
variable {X : Cx} {kx vx tg iter tg1 i1 : Expr} {ifs ifs1 : List Expr} {scope : Scope} {own : List (Str × Nat)} {pos : Pos} {wi wi1 : TI} {g g1 : TG} {tt tt1 : TT} {tk tv : TE} {new : HO} {vs1 : List Nat}
def tDc1 (new : HO) (wi : TI) (g : TG) (tt : TT) (tb : Addr → TB) (vs : List Nat) : TE := fun σ H Q => wi σ H fun J H1 => ∀ D, H1 D = none → tLoop g tt (tb D) vs J σ (upd H1 D new) fun H' => Q (.ref D) H'
def NewD (X : Cx) (new : HO) : Prop := ∀ (h : Heap) (H : Hp), sysModules < h.objs.size → ObjOk X.prog X.w H (h.push dict0) h.objs.size new
theorem newDK : NewD X (.dK []) := fun h H hb => dk_empty h hb
theorem newDT : NewD X (.dT []) := fun h H hb => dt_empty h hb
/-- a dict comprehension runs, whatever is done with the dict -/
def DcR (X : Cx) (kx vx : Expr) (tg iter : Expr) (ifs : List Expr) (rest : List Comprehension) (scope : Scope) (pos : Pos) (t : TE) : Prop := ∀ (pins : List (Addr × Obj)) (s : Shared) (σ : L2.St) (H : Hp) (Q : VK) (pos' : Pos) (use : Option (Value → Sem Unit)) (Qf : Value → Shared → Prop), Inv X pins σ H s → t σ H Q →
  (∀ D C s' m H', Inv X pins σ H' s' → Q (.ref D) H' → s'.heap.Ns C m → FpOk X pins H' C → compPost (model X.prog X.w) X.A X.xe use Qf (.ref D) C (.ok .next) s') →
  wpAny (model X.prog X.w) X.A (comprehension (.DictComp kx vx (⟨tg, iter, ifs, 0⟩ :: rest) scope pos) scope X.env pos' newDict false (eval iter X.env) use) Qf X.xe s
theorem pe_dcr {rest : List Comprehension} {t : TE} (h : DcR X kx vx tg iter ifs rest scope pos t) : PE X (.DictComp kx vx (⟨tg, iter, ifs, 0⟩ :: rest) scope pos) t := by
  refine ⟨fun pins s σ H Q I q => ?_⟩
  rw [arm_eval_DictComp]
  refine h pins s σ H Q _ none _ I q fun D C s' m H' I' q hn f => ⟨m, hn, fun h'' sb => ?_⟩
  obtain ⟨f0, f1, f2, f3, f4, f5⟩ := f
  exact ⟨.ref D, H', I'.turned (t' := s'.toks) (fun b o hb e => (sb.2 b hb).trans e) f0 f1 f3 f4 f5, rfl, q⟩
theorem ps_dcr {rest : List Comprehension} {t : TE} {i : Nat} {y : Str} {py spos : Pos} (h : DcR X kx vx tg iter ifs rest scope pos t) (hN : X.N.Nodup) (hy : X.N[i]? = some y) (hyl : X.env.scope.names.lookup y = some .local)
    (hsw : swapsWith (.DictComp kx vx (⟨tg, iter, ifs, 0⟩ :: rest) scope pos) (some (.Name y py)) spos.line X.env = pure true) : PS X (.Assign [.Name y py] (.DictComp kx vx (⟨tg, iter, ifs, 0⟩ :: rest) scope pos) spos) (tAsg t (gName i)) := by
  refine ⟨fun pins s σ H D I q => ?_⟩
  rw [exec_Assign_Name_used _ _ _ _ hsw]
  refine wpAny_bind (wpAny_standAt (wpAny_bind ?_))
  rw [arm_evalThenUse_DictComp]
  have q : t σ H (fun x H1 => gName i x σ H1 D.nx) := q
  refine wpAny_bind (thn (h pins s σ H _ _ (some (assign (.Name y py) X.env)) (fun _ s' => SP X pins D .next s') I q fun L C s' m H' I' q hn f => ?_) fun _ s' hq => wpAny_pure (wpAny_pure hq))
  obtain ⟨f0, f1, f2, f3, f4, f5⟩ := f
  refine (show wpAny _ _ (assign (.Name y py) X.env (.ref L)) _ _ _ from wpAny_assign_Name (store_ok2 (v := V.ref L) I' hN hy (.inl hyl) rfl (fun s2 I2 ⟨a, sb, ha⟩ => ⟨m, hn.sameBut sb ?_, fun h3 sb3 => ⟨_, H', I2.turned (t' := s2.toks) (fun b o hb e => (sb3.2 b hb).trans e) f0 f1 f3 f4 f5, q⟩⟩) (.inr hyl)))
  exact ha.elim (fun z => z ▸ f1) fun z e => f4 y a z e.symm
theorem sw_dc {gs : List Comprehension} {py : Pos} {y : Str} {l : Nat} {env : Env} (hk : env.scope.kind = .function) (hy : env.scope.names.lookup y = some .local) (hl : (py.line == pos.line) = true)
    (ha : (scope.names.any fun (n, k) => n == y && (k == .local || k == .cell)) = false) : swapsWith (.DictComp kx vx gs scope pos) (some (.Name y py)) l env = pure true := by
  have hb : env.blockKind = .function := by unfold Env.blockKind; rw [hk]; rfl
  have hy' : env.kindOf y = some .local := hy
  unfold swapsWith
  simp only [hb, hy', ha, Expr.pos, hl]
  rfl
/-- the loop of the first clause, whatever its turn does -/
theorem dc_run {pins : List (Addr × Obj)} {s : Shared} {σ : L2.St} {H : Hp} {rest : List Comprehension} {tb : Addr → TB} {us : List Nat} {body : Code → Addr → Env → Sem PySem.Fin} {use : Option (Value → Sem Unit)} {Qf : Value → Shared → Prop} {pos' : Pos} {Q : VK} (hc : X.calm = true) (hN : X.N.Nodup) (I : Inv X pins σ H s) (hi : PI X tg iter wi)
    (ok : BlkOk X.N X.env.scope scope own) (hg : ∀ s H C cl fp, PG (X.blk s H scope (compEnvC scope cl C X.env) fp) tg g) (ht : ∀ s H C cl fp, PTs (X.blk s H scope (compEnvC scope cl C X.env) fp) ifs tt) (hb : ∀ lc D s H C cl fp, PB (X.blk s H scope (compEnvC scope cl C X.env) fp) lc (body lc D (compEnvC scope cl C X.env)) (tb D) us)
    (hu : ∀ i ∈ us, i ∈ own.map (·.2)) (hs : ∀ x, foldedSetIterable iter X.env x = pure x) (nw : NewD X new)
    (hT : ∀ (it : Value) (D : Addr) (env : Env), compTurn (.DictComp kx vx (⟨tg, iter, ifs, 0⟩ :: rest) scope pos) 0 it (.ref D) env = (do
      standAt iter.pos
      match ← pyNext it with
      | none => pure (.done .next)
      | some v =>
        letOwnedTupleGo tg it v
        assign tg env v
        let mut ok := true
        for t in ifs do
          if ok then ok ← isTrue t env (eval t env)
        if ok then body (.compLoop (.DictComp kx vx (⟨tg, iter, ifs, 0⟩ :: rest) scope pos) 0 it (.ref D) env) D env
        else again (.compLoop (.DictComp kx vx (⟨tg, iter, ifs, 0⟩ :: rest) scope pos) 0 it (.ref D) env)))
    (h : tDc1 new wi g tt tb (own.map (·.2)) σ H Q) (hQ : ∀ D C s' m H', Inv X pins σ H' s' → Q (.ref D) H' → s'.heap.Ns C m → FpOk X pins H' C → compPost (model X.prog X.w) X.A X.xe use Qf (.ref D) C (.ok .next) s') :
    wpAny (model X.prog X.w) X.A (comprehension (.DictComp kx vx (⟨tg, iter, ifs, 0⟩ :: rest) scope pos) scope X.env pos' newDict false (eval iter X.env) use) Qf X.xe s := by
  refine comp_top (obj0 := dict0) (Qd := fun D H' => Q (.ref D) H') hN I hi ok rfl hs (fun s Q E q => wpAny_newObj_type q) nw h (fun J H1 q D hD s3 fp tn it ce s4 T st e I4 f4 R hR => ?_) hQ
  subst e
  have loop : codeAny (model X.prog X.w) X.A (.compLoop (.DictComp kx vx (⟨tg, iter, ifs, 0⟩ :: rest) scope pos) 0 (.ref it) (.ref D) (compEnvC scope (cellsFrom (s3.heap.objs.size + 1) scope.names (cloFrom X.env.cells scope.names [])) s3.heap.objs.size X.env)) R s4 :=
    blk_walk (Y := X.blk s3 (upd H1 D new) scope _ fp) hc rfl rfl (hT (.ref it) D _) (fun s Q E q => q) T (hg _ _ _ _ _) (ht _ _ _ _ _) (hb _ D _ _ _ _ _) hu I4 st f4 (q D hD) hR
  exact codeAny_compStart_dict loop (T.self X.A 0 _ _ _ st loop)
abbrev putK1 (kx vx : Expr) (lc : Code) (D : Addr) (env : Env) : Sem PySem.Fin := do
  (do let a ← eval kx env
      let b ← holding [a] (eval vx env)
      standAt { kx.pos with endLine := vx.pos.endLine, endCol := vx.pos.endCol }
      holding [a, b] (dictSet D a b))
  again lc
theorem dcr_1 (hc : X.calm = true) (hN : X.N.Nodup) (hx : X.A.units + 1 < cLine) (hi : PI X tg iter wi) (ok : BlkOk X.N X.env.scope scope own) (hg : ∀ s H C cl fp, PG (X.blk s H scope (compEnvC scope cl C X.env) fp) tg g) (ht : ∀ s H C cl fp, PTs (X.blk s H scope (compEnvC scope cl C X.env) fp) ifs tt)
    (hk : ∀ s H C cl fp, PE (X.blk s H scope (compEnvC scope cl C X.env) fp) kx tk) (hv : ∀ s H C cl fp, PE (X.blk s H scope (compEnvC scope cl C X.env) fp) vx tv) (nw : NewD X new) (hs : ∀ x, foldedSetIterable iter X.env x = pure x := by intro _; rfl) :
    DcR X kx vx tg iter ifs [] scope pos (tDc1 new wi g tt (tPut tk tv) (own.map (·.2))) := by
  intro pins s σ H Q pos' use Qf I h hQ
  refine dc_run (us := []) (tb := tPut tk tv) (body := putK1 kx vx) (use := use) hc hN I hi ok hg ht (fun lc D s H C cl fp => pb_put (Y := X.blk s H scope (compEnvC scope cl C X.env) fp) rfl hx (hk _ _ _ _ _) (hv _ _ _ _ _)) (fun i h => nomatch h) hs nw (fun it D env => by rfl) h hQ
theorem dcr_2 (hc : X.calm = true) (hN : X.N.Nodup) (hx : X.A.units + 1 < cLine) (hi : PI X tg iter wi) (ok : BlkOk X.N X.env.scope scope own) (hg : ∀ s H C cl fp, PG (X.blk s H scope (compEnvC scope cl C X.env) fp) tg g) (ht : ∀ s H C cl fp, PTs (X.blk s H scope (compEnvC scope cl C X.env) fp) ifs tt)
    (hi1 : ∀ s H C cl fp, PI (X.blk s H scope (compEnvC scope cl C X.env) fp) tg1 i1 wi1) (hg1 : ∀ s H C cl fp, PG (X.blk s H scope (compEnvC scope cl C X.env) fp) tg1 g1) (ht1 : ∀ s H C cl fp, PTs (X.blk s H scope (compEnvC scope cl C X.env) fp) ifs1 tt1)
    (hk : ∀ s H C cl fp, PE (X.blk s H scope (compEnvC scope cl C X.env) fp) kx tk) (hv : ∀ s H C cl fp, PE (X.blk s H scope (compEnvC scope cl C X.env) fp) vx tv) (hu : ∀ i ∈ vs1, i ∈ own.map (·.2)) (nw : NewD X new)
    (hs : ∀ x, foldedSetIterable iter X.env x = pure x := by intro _; rfl) (hs1 : ∀ env x, foldedSetIterable i1 env x = pure x := by intro _ _; rfl) :
    DcR X kx vx tg iter ifs [⟨tg1, i1, ifs1, 0⟩] scope pos (tDc1 new wi g tt (fun D => tInner wi1 g1 tt1 (tPut tk tv D) vs1) (own.map (·.2))) := by
  intro pins s σ H Q pos' use Qf I h hQ
  refine dc_run (us := vs1) (tb := fun D => tInner wi1 g1 tt1 (tPut tk tv D) vs1) (use := use) (body := fun lc D env => do
    let x ← eval i1 env
    standAt i1.pos
    let x ← foldedSetIterable i1 env x
    let _ ← runOwn (.compStart (.DictComp kx vx [⟨tg, iter, ifs, 0⟩, ⟨tg1, i1, ifs1, 0⟩] scope pos) 1 (← holding [x] (pyIter x)) (.ref D) env) env
    again lc) hc hN I hi ok hg ht
    (fun lc D s H C cl fp => pb_inner (Y := X.blk s H scope (compEnvC scope cl C X.env) fp) (acc := .ref D) (us := []) (p := i1.pos) (body := fun it => putK1 kx vx (.compLoop (.DictComp kx vx [⟨tg, iter, ifs, 0⟩, ⟨tg1, i1, ifs1, 0⟩] scope pos) 1 (.ref it) (.ref D) (compEnvC scope cl C X.env)) D (compEnvC scope cl C X.env))
      hc rfl (hs1 _) (fun it => rfl) (fun it => by rfl) (fun it s Q E q => q) (fun it R s h0 h1 => start1 h0 h1) (hi1 _ _ _ _ _) (hg1 _ _ _ _ _) (ht1 _ _ _ _ _) (fun it => pb_put (Y := X.blk s H scope (compEnvC scope cl C X.env) fp) rfl hx (hk _ _ _ _ _) (hv _ _ _ _ _)) (fun i h => nomatch h)) hu hs nw (fun it D env => by rfl) h hQ
end
end Mv

namespace Mv
open PySem PySem.Spec PyProof.Rows L2
/-! ### dict comprehensions at the D-level -/
abbrev DB := Dl → O → (Dl → O → Prop) → Prop
def dLoop (g : DG) (tt : DT) (tb : DB) (vs : List Nat) (ds : List D) (δ1 : Dl) (acc0 : O) (Q : Dl → O → Prop) : Prop := ds.length ≤ sizeLine ∧ ∃ I : Nat → Dl → O → Prop, I 0 (wipeD δ1 vs) acc0 ∧
  (∀ i d δ2 acc, ds[i]? = some d → I i δ2 acc → g d δ2 fun δ3 => tt δ3 fun δ4 b => if b = true then tb δ4 acc fun δ5 acc' => I (i + 1) (wipeD δ5 vs) acc' else I (i + 1) (wipeD δ4 vs) acc) ∧
  ∀ δ2 acc, I ds.length δ2 acc → Q (wipeD δ2 vs) acc
def putO (acc : O) (y z : D) (Q : O → Prop) : Prop := match acc with
  | .dk kvs => ∃ k, dkey y = some k ∧ kvs.length < sizeLine ∧ Q (.dk (putG kvs k z))
  | .dt kvs => ∃ k, tkey y = some k ∧ kvs.length < sizeLine ∧ Q (.dt (putG kvs k z))
  | _ => False
def dPutB (tk tv : DE) : DB := fun δ acc Q => tk δ fun δ1 y => tv δ1 fun δ2 z => putO acc y z (Q δ2)
def dInner (wi : DI) (g : DG) (tt : DT) (tb : DB) (vs : List Nat) : DB := fun δ acc Q => wi δ fun δ1 ds => dLoop g tt tb vs ds δ1 acc Q
def dDc (o0 : O) (wi : DI) (g : DG) (tt : DT) (tb : DB) (vs : List Nat) : DOw := fun δ Q => wi δ fun δ1 ds => dLoop g tt tb vs ds δ1 o0 fun δ2 acc => Q (restD δ1 δ2 vs) acc
def OwnO (K : PySem.W.Frag) (F : Hp) (ho : HO) : O → Prop
  | .lst ds => ∃ vs, ho = .lst vs ∧ RepL K F vs ds
  | .dk kvs => ∃ ws, ho = .dK ws ∧ RepK K F ws kvs
  | .dt kvs => ∃ ws, ho = .dT ws ∧ RepT K F ws kvs
theorem OwnO.mono {K : PySem.W.Frag} {F F' : Hp} {ho : HO} {o : O} (h : OwnO K F ho o) (e : Ex F F') : OwnO K F' ho o := by
  cases o <;> (obtain ⟨vs, h1, h2⟩ := h; exact ⟨vs, h1, h2.mono e⟩)
theorem OwnO.own {K : PySem.W.Frag} {F H : Hp} {p : Addr} {ho : HO} {o : O} (h : OwnO K F ho o) (e : H p = some ho) : OwnAt K F H p o := by
  cases o <;> (obtain ⟨vs, rfl, h2⟩ := h; exact ⟨vs, e, h2⟩)
def BUp (K : PySem.W.Frag) (D : Addr) (tb0 : TB) (tb : DB) (us : List Nat) : Prop := ∀ (F0 H0 : Hp) (P : Pl) (δ : Dl) (σ : L2.St) (F H : Hp) (ho : HO) (acc : O) (Q' : Dl → O → Prop) (N : Hp → Prop), RepS K F0 H0 ((D, ho) :: P) δ σ F H → D ∉ pk P → OwnO K F ho acc → tb δ acc Q' →
  (∀ δ' F' H' ho' acc', RepS K F0 H0 ((D, ho') :: P) δ' (L2.wipe σ us) F' H' → Ex F F' → OwnO K F' ho' acc' → Q' δ' acc' → N H') → tb0 σ H N
theorem wipe_two {τ : L2.St} {us vs : List Nat} (h : ∀ i ∈ us, i ∈ vs) : L2.wipe (L2.wipe τ us) vs = L2.wipe τ vs := by
  apply List.ext_getElem?
  intro j
  rw [wipe_get, wipe_get, wipe_get, L2.wipe_length]
  by_cases a : j ∈ vs
  · by_cases b : j < τ.length
    · rw [if_pos ⟨a, b⟩, if_pos ⟨a, b⟩]
    · rw [if_neg (fun z => b z.2), if_neg (fun z => b z.2), if_neg (fun z => b z.2)]
  · rw [if_neg (fun z => a z.1), if_neg (fun z => a (h j z.1)), if_neg (fun z => a z.1)]
section
variable {K : PySem.W.Frag} {L : Addr} {g0 : TG} {g : DG} {tt : DT} {tb0 : TB} {tb : DB} {vs us : List Nat}
theorem loop_up (gk : CT K vs g0 g) (bu : BUp K L tb0 tb us) (hu : ∀ i ∈ us, i ∈ vs) {F0 H0 : Hp} {P : Pl} {δ1 : Dl} {σ : L2.St} {F1 H1 : Hp} {ho : HO} {acc0 : O} {Q' : Dl → O → Prop} {Qd : Hp → Prop} {J : It} {ds : List D}
    (R1 : RepS K F0 H0 ((L, ho) :: P) δ1 σ F1 H1) (hD : L ∉ pk P) (oa : OwnO K F1 ho acc0) (wk : WalkD K F1 J ds) (h : dLoop g tt tb vs ds δ1 acc0 Q')
    (k : ∀ δ2 F' H' ho' acc', RepS K F0 H0 ((L, ho') :: P) (wipeD δ2 vs) (L2.wipe σ vs) F' H' → Ex F1 F' → OwnO K F' ho' acc' → Q' (wipeD δ2 vs) acc' → Qd H') : tLoop g0 (upT K tt) tb0 vs J σ H1 Qd := by
  obtain ⟨hsz, I, i0, is, id⟩ := h
  refine ⟨fun i m H2 => m = ds.length - i ∧ i ≤ ds.length ∧ ∃ δ2 F2 ho2 acc, RepS K F0 H0 ((L, ho2) :: P) δ2 (L2.wipe σ vs) F2 H2 ∧ Ex F1 F2 ∧ OwnO K F2 ho2 acc ∧ I i δ2 acc, ⟨_, rfl, Nat.zero_le _, _, F1, ho, acc0, R1.wipe vs, Ex.refl F1, oa, i0⟩, ?_⟩
  rintro i m H2 ⟨rfl, hi, δ2, F2, ho2, acc, R2, e2, oa2, q2⟩
  by_cases hlt : i < ds.length
  · have hd : ds[i]? = some ds[i] := List.getElem?_eq_getElem hlt
    refine .inr ⟨wk.go i H2 hlt (e2.trans R2.e3), fun H3 => ∃ δ3 F3 ho3 acc, RepS K F0 H0 ((L, ho3) :: P) δ3 (L2.wipe σ vs) F3 H3 ∧ Ex F1 F3 ∧ OwnO K F3 ho3 acc ∧ I (i + 1) δ3 acc,
      fun H3 ⟨δ3, F3, ho3, acc, z⟩ => ⟨_, by omega, rfl, hlt, δ3, F3, ho3, acc, z⟩, fun x H3 y => ?_⟩
    have y' := wk.yld i _ F2 H2 x H3 hd e2 R2.e3 R2.tp y
    obtain ⟨F3, R3, e3, rx⟩ := y'.rep R2
    refine gk F0 H0 _ _ _ F3 H3 x _ _ _ R3 rx (is i _ _ acc hd q2) fun δ4 σ4 R4 w4 q4 => ⟨w4.trans wipe_wipe, ?_⟩
    have w5 : L2.wipe σ4 vs = L2.wipe σ vs := w4.trans wipe_wipe
    refine ⟨F0, H0, _, δ4, F3, _, R4, q4, fun δ5 F5 H5 b R5 e5 q5 => ?_⟩
    cases b with
    | true =>
      rw [if_pos rfl] at q5 ⊢
      refine bu F0 H0 P δ5 σ4 F5 H5 ho2 acc _ _ R5 hD (oa2.mono (e3.trans e5)) q5 fun δ6 F6 H6 ho6 acc6 R6 e6 oa6 q6 => ?_
      have R7 := R6.wipe vs
      rw [wipe_two hu, w5] at R7
      exact ⟨_, F6, ho6, acc6, R7, e2.trans ((e3.trans e5).trans e6), oa6, q6⟩
    | false =>
      rw [if_neg (by decide)] at q5 ⊢
      exact ⟨_, F5, ho2, acc, w5 ▸ (R5.wipe vs), e2.trans (e3.trans e5), oa2.mono (e3.trans e5), q5⟩
  · have e : i = ds.length := by omega
    subst e
    refine .inl ⟨wk.stop H2 (e2.trans R2.e3), ?_⟩
    have R3 := R2.wipe vs
    rw [wipe_wipe] at R3
    exact k δ2 F2 H2 ho2 acc R3 e2 oa2 (id _ acc q2)
theorem bu_put {tk tv : DE} : BUp K L (tPut (upE K tk) (upE K tv) L) (dPutB tk tv) [] := fun F0 H0 P δ σ F H ho acc Q' N R hD oa h k => by
  refine ⟨F0, H0, _, δ, F, _, R, h, fun δ1 F1 H1 y dy R1 e1 ry h1 => ?_⟩
  refine ⟨F0, H0, _, δ1, F1, _, R1, h1, fun δ2 F2 H2 z dz R2 e2 rz h2 => ?_⟩
  have hH := (R2.rsv L ho (by simp)).2.2
  have oa2 := oa.mono (e1.trans e2)
  cases acc with
  | lst _ => exact h2.elim
  | dk kvs =>
    obtain ⟨ws, rfl, rw⟩ := oa2
    obtain ⟨kk, hk, hl, q⟩ := h2
    exact ⟨_, .inl ⟨ws, kk, hH, rep_key ry hk, by rw [rw.g.length]; exact hl, rfl⟩, k δ2 F2 _ _ (.dk _) (R2.wrP hD _) (e1.trans e2) ⟨_, rfl, (rw.g.put kk rz).k⟩ q⟩
  | dt kvs =>
    obtain ⟨ws, rfl, rw⟩ := oa2
    obtain ⟨kk, hk, hl, q⟩ := h2
    obtain ⟨c, rfl, hc⟩ := rep_tkey (ry.mono e2) hk
    exact ⟨_, .inr ⟨ws, kk, c, hH, rfl, R2.e3 _ _ hc, by rw [rw.g.length]; exact hl, rfl⟩, k δ2 F2 _ _ (.dt _) (R2.wrP hD _) (e1.trans e2) ⟨_, rfl, (rw.g.put kk rz).t⟩ q⟩
theorem bu_inner {wi : DI} (gk : CT K vs g0 g) (bu : BUp K L tb0 tb us) (hu : ∀ i ∈ us, i ∈ vs) : BUp K L (tInner (upI K wi) g0 (upT K tt) tb0 vs) (dInner wi g tt tb vs) vs := fun F0 H0 P δ σ F H ho acc Q' N R hD oa h k =>
  ⟨F0, H0, _, δ, F, _, R, h, fun δ1 F1 H1 J ds R1 e1 wk q => loop_up gk bu hu R1 hD (oa.mono e1) wk q fun δ2 F2 H2 ho2 acc2 R2 e2 oa2 q2 => k _ F2 H2 ho2 acc2 R2 (e1.trans e2) oa2 q2⟩
/-- the new dict's kind -/
inductive New0 : HO → O → Prop
  | k : New0 (.dK []) (.dk [])
  | t : New0 (.dT []) (.dt [])
theorem dc_up {wi : DI} {new : HO} {o0 : O} (nw : New0 new o0) (gk : CT K vs g0 g) {tbs : Addr → TB} (bu : ∀ C, BUp K C (tbs C) tb us) (hu : ∀ i ∈ us, i ∈ vs) {σ : L2.St} {H : Hp} {Q : VK} (h : upO K (dDc o0 wi g tt tb vs) σ H Q) : tDc1 new (upI K wi) g0 (upT K tt) tbs vs σ H Q := by
  obtain ⟨F0, H0, P, δ, F, Q', R, ht, k⟩ := h
  refine ⟨F0, H0, P, δ, F, _, R, ht, fun δ1 F1 H1 J ds R1 e1 wk q C hD => ?_⟩
  have hP := R1.fresh hD
  have RD : RepS K F0 H0 ((C, new) :: P) δ1 σ F1 (upd H1 C new) := by cases nw <;> exact R1.newP hD
  have oa : OwnO K F1 new o0 := by
    cases nw
    · exact ⟨[], rfl, .nil⟩
    · exact ⟨[], rfl, .nil⟩
  refine loop_up gk (bu C) hu RD hP oa wk q fun δ2 F2 H2 ho2 acc2 R2 e2 oa2 q2 => ?_
  exact k _ F2 H2 C ho2 acc2 (RepS.rest2 R1 e2 (RepS.unwipe R2)) hP (e1.trans e2) (oa2.own (R2.rsv C _ (by simp)).2.2) q2
end
section
variable {X : Cx} {K : PySem.W.Frag} {kx vx tg iter tg1 i1 : Expr} {ifs ifs1 : List Expr} {scope : Scope} {own : List (Str × Nat)} {pos : Pos} {wi wi1 : DI} {g0 g01 : TG} {g g1 : DG} {tt tt1 : DT} {tk tv : DE} {vs1 : List Nat} {new : HO} {o0 : O} {rest : List Comprehension} {t : DOw} {t0 : TE}
theorem newD_of (h : New0 new o0) : NewD X new := by cases h; exact newDK; exact newDT
/-- a dict comprehension's reading -/
def DcU (X : Cx) (K : PySem.W.Frag) (kx vx tg iter : Expr) (ifs : List Expr) (rest : List Comprehension) (scope : Scope) (pos : Pos) (t : DOw) : Prop := ∃ t0, DcR X kx vx tg iter ifs rest scope pos t0 ∧ ∀ σ H Q, upO K t σ H Q → t0 σ H Q
theorem dcu1 (nw : New0 new o0) (hc : X.calm = true) (hN : X.N.Nodup) (hx : X.A.units + 1 < cLine) (hi : PI X tg iter (upI K wi)) (ok : BlkOk X.N X.env.scope scope own) (hg : ∀ s H C cl fp, PG (X.blk s H scope (compEnvC scope cl C X.env) fp) tg g0) (ht : ∀ s H C cl fp, PTs (X.blk s H scope (compEnvC scope cl C X.env) fp) ifs (upT K tt))
    (hk : ∀ s H C cl fp, PE (X.blk s H scope (compEnvC scope cl C X.env) fp) kx (upE K tk)) (hv : ∀ s H C cl fp, PE (X.blk s H scope (compEnvC scope cl C X.env) fp) vx (upE K tv)) (gk : CT K (own.map (·.2)) g0 g) (hs : ∀ x, foldedSetIterable iter X.env x = pure x := by intro _; rfl) :
    DcU X K kx vx tg iter ifs [] scope pos (dDc o0 wi g tt (dPutB tk tv) (own.map (·.2))) :=
  ⟨_, dcr_1 hc hN hx hi ok hg ht hk hv (newD_of nw) hs, fun σ H Q h => dc_up nw gk (us := []) (fun C => bu_put) (fun i h => nomatch h) h⟩
theorem dcu2 (nw : New0 new o0) (hc : X.calm = true) (hN : X.N.Nodup) (hx : X.A.units + 1 < cLine) (hi : PI X tg iter (upI K wi)) (ok : BlkOk X.N X.env.scope scope own) (hg : ∀ s H C cl fp, PG (X.blk s H scope (compEnvC scope cl C X.env) fp) tg g0) (ht : ∀ s H C cl fp, PTs (X.blk s H scope (compEnvC scope cl C X.env) fp) ifs (upT K tt))
    (hi1 : ∀ s H C cl fp, PI (X.blk s H scope (compEnvC scope cl C X.env) fp) tg1 i1 (upI K wi1)) (hg1 : ∀ s H C cl fp, PG (X.blk s H scope (compEnvC scope cl C X.env) fp) tg1 g01) (ht1 : ∀ s H C cl fp, PTs (X.blk s H scope (compEnvC scope cl C X.env) fp) ifs1 (upT K tt1))
    (hk : ∀ s H C cl fp, PE (X.blk s H scope (compEnvC scope cl C X.env) fp) kx (upE K tk)) (hv : ∀ s H C cl fp, PE (X.blk s H scope (compEnvC scope cl C X.env) fp) vx (upE K tv)) (gk : CT K (own.map (·.2)) g0 g) (gk1 : CT K vs1 g01 g1) (hu : ∀ i ∈ vs1, i ∈ own.map (·.2))
    (hs : ∀ x, foldedSetIterable iter X.env x = pure x := by intro _; rfl) (hs1 : ∀ env x, foldedSetIterable i1 env x = pure x := by intro _ _; rfl) :
    DcU X K kx vx tg iter ifs [⟨tg1, i1, ifs1, 0⟩] scope pos (dDc o0 wi g tt (dInner wi1 g1 tt1 (dPutB tk tv) vs1) (own.map (·.2))) :=
  ⟨_, dcr_2 hc hN hx hi ok hg ht hi1 hg1 ht1 hk hv hu (newD_of nw) hs hs1, fun σ H Q h => dc_up nw gk (us := vs1) (fun C => bu_inner gk1 bu_put (fun i h => nomatch h)) hu h⟩
theorem po_dc (h : DcU X K kx vx tg iter ifs rest scope pos t) : PE X (.DictComp kx vx (⟨tg, iter, ifs, 0⟩ :: rest) scope pos) (upO K t) := let ⟨_, r, u⟩ := h; pimp (pe_dcr r) u
theorem ss_setDc {i : Nat} {y : Str} {py spos : Pos} (hN : X.N.Nodup) (hy : X.N[i]? = some y) (hyl : X.env.scope.names.lookup y = some .local) (hsw : swapsWith (.DictComp kx vx (⟨tg, iter, ifs, 0⟩ :: rest) scope pos) (some (.Name y py)) spos.line X.env = pure true)
    (h : DcU X K kx vx tg iter ifs rest scope pos t) : PS X (.Assign [.Name y py] (.DictComp kx vx (⟨tg, iter, ifs, 0⟩ :: rest) scope pos) spos) (upS K (dAsgF i t)) := let ⟨_, r, u⟩ := h
  pimpS (ps_plock (ps_dcr r hN hy hyl hsw)) fun E σ H ⟨F0, H0, δ, F, D', W⟩ => u σ H _ ⟨F0, H0, [], δ, F, _, W.rep, W.t, fun δ1 F1 H1 p ho o R1 hP e1 oa q => by
    have n1 := (R1.rsv p ho (by simp)).2.1
    obtain ⟨ho', hh, mu, rp⟩ := oa.rep n1
    exact .inr ⟨p, ho', hh, mu, fun od => W.nx _ _ _ _ ((R1.frzP hP _).setF i (rp od)) (e1.trans (Ex.new n1)) q⟩⟩
theorem ss_setDcO {i : Nat} {y : Str} {py spos : Pos} (hN : X.N.Nodup) (hy : X.N[i]? = some y) (hyl : X.env.scope.names.lookup y = some .local) (hsw : swapsWith (.DictComp kx vx (⟨tg, iter, ifs, 0⟩ :: rest) scope pos) (some (.Name y py)) spos.line X.env = pure true)
    (h : DcU X K kx vx tg iter ifs rest scope pos t) : PS X (.Assign [.Name y py] (.DictComp kx vx (⟨tg, iter, ifs, 0⟩ :: rest) scope pos) spos) (upS K (dAsgO i t)) := let ⟨_, r, u⟩ := h
  pimpS (ps_dcr r hN hy hyl hsw) fun E σ H ⟨F0, H0, δ, F, D', W⟩ => u σ H _ ⟨F0, H0, [], δ, F, _, W.rep, W.t, fun δ1 F1 H1 p ho o R1 hP e1 oa q => W.nx _ _ F1 H1 (R1.setO hP i oa) e1 q⟩
end
end Mv

namespace Mv
open PySem PySem.Spec PyProof.Rows L2
/-! ### isinstance with a built-in class -/
def tyD : D → Option String
  | .non => some "NoneType"
  | .bl _ => some "bool"
  | .int _ => some "int"
  | .str _ => some "str"
  | .tup _ => some "tuple"
  | .lst _ => some "list"
  | .dk _ => some "dict"
  | .dt _ => some "dict"
  | _ => none
section
variable {X : Cx} {K : PySem.W.Frag} {e : Expr} {es : List Expr} {tw : DV} {pos p p2 : Pos} {n : String} {x y : Str}
theorem ty_view {pins : List (Addr × Obj)} {σ : L2.St} {F H : Hp} {s : Shared} {v : V} {d : D} {u : Value} {T : String} (I : Inv X pins σ H s) (vw : View X.K F H v d) (r : RelV v u) (h : tyD d = some T) :
    ∃ P : Heap → Prop, PySem.W.KitX X.K u (.type T) P ∧ P s.heap ∧ u ≠ .builtin "__main__.__loader__#opaque" := by
  cases vw with
  | lst h1 rs => cases h; exact kit_of I r (.base (.lst h1))
  | dk h1 rs => cases h; exact kit_of I r (.base (.dK h1))
  | dt h1 rs => cases h; exact kit_of I r (.base (.dT h1))
  | flat rp ex =>
    cases rp with
    | non => cases h; exact kit_of I r (.base .non)
    | bl b => cases h; exact kit_of I r (.base (.bl b))
    | int i => cases h; exact kit_of I r (.base (.int i))
    | str z => cases h; exact kit_of I r (.base (.str z))
    | tup h1 rs => cases h; exact kit_of I r (.base (.tup (ex _ _ h1)))
    | lst h1 rs => cases h; exact kit_of I r (.base (.frz (ex _ _ h1)))
    | dk h1 rs => cases h; exact kit_of I r (.fDict (ex _ _ h1))
    | dt h1 rs =>
      cases h
      cases r
      obtain ⟨_, _, _, xs, _, o, es, ep, e1, e2, _⟩ := I.hok _ _ (ex _ _ h1)
      exact ⟨_, PySem.W.kitx_dict, ⟨o, e1, e2.1⟩, fun z => nomatch z⟩
    | scr _ => cases h
    | obj _ _ => cases h
def rIsD (K : PySem.W.Frag) (n : String) : List V → Hp → VK → Prop := fun vs H Q => ∃ v F d T b, vs = [v, .ty n] ∧ View K F H v d ∧ tyD d = some T ∧ kitB T n = some b ∧ Q (.bl b) H
theorem c_isD : CallR X (.builtin "isinstance") (rIsD X.K n) := by
  intro pins s σ H xs us Q I r ⟨v, F, d, T, b, ex, vw, ht, hb, q⟩
  subst ex
  obtain ⟨u1, u2, rfl, r1, r2⟩ := vals2 r
  cases (show u2 = Value.type n from r2)
  obtain ⟨P, Z, hp, hx⟩ := ty_view I vw r1 ht
  exact PySem.W.kia_one Z I.kIn hp (kit_ty hb) hx fun tk => ⟨.bl b, H, I.tok tk, rfl, q⟩
/-- isinstance(e, n) -/
def dIs (n : String) (tw : DV) : DE := fun δ Q => tw δ fun δ1 x => ∃ d T b, vwD δ1 x = some d ∧ tyD d = some T ∧ kitB T n = some b ∧ Q δ1 (.bl b)
theorem pd_is (hg : Gl X "isinstance") (hm : X.mg "isinstance" = none) (hv : bootBuiltins "isinstance" = some (.builtin "isinstance")) (he : PE X e (upV X.K tw)) (hy : Gl X y) (hmy : X.mg y = none) (hvy : bootBuiltins y = some (.type n)) (hny : y ≠ "__name__" := by decide) (hdy : (y == ("__debug__" : Str)) = false := by decide)
    (h1 : starEach [e, .Name y p2] X.env = (false, eval e X.env) :: starEach [.Name y p2] X.env := by rfl) (hpl : (backTo pos (starEach [.Name y p2] X.env)).any (·.1) = false := by rfl) : PE X (.Call (.Name "isinstance" p) [e, .Name y p2] [] pos) (upE X.K (dIs n tw)) :=
  pimp (pe_callB c_isD hg hm hv (pa_cons he (pa_cons (pe_bltn (v := .ty n) hy hmy hvy rfl hny hdy) pa_nil) h1) (by decide) (by decide) h1 hpl) fun σ H Q ⟨F0, H0, P, δ, F, Q', R, ht, k⟩ =>
    ⟨F0, H0, P, δ, F, _, R, ht, fun δ1 F1 H1 v vx R1 e1 rx ⟨d, T, b, hd, hT, hb, q⟩ => ⟨v, F1, d, T, b, rfl, R1.view rx (Ex.refl F1) hd, hT, hb, k δ1 F1 H1 _ _ R1 e1 (.bl b) q⟩⟩
/-! ### all, any of a list of bools -/
def bsD : List D → Option (List Bool)
  | [] => some []
  | .bl b :: r => (bsD r).map (b :: ·)
  | _ :: _ => none
theorem bsD_rep {F : Hp} : ∀ {vs : List V} {ds : List D} {bs : List Bool}, RepL K F vs ds → bsD ds = some bs → vs = bs.map V.bl
  | [], [], bs, _, h => by cases h; rfl
  | v :: vs, d :: ds, bs, .cons a b, h => by
    cases a <;> simp only [bsD, reduceCtorEq, Option.map_eq_some_iff] at h
    obtain ⟨cs, hc, rfl⟩ := h
    rw [bsD_rep b hc]; rfl
theorem bsD_map : ∀ bs : List Bool, bsD (bs.map D.bl) = some bs
  | [] => rfl
  | b :: bs => by simp [bsD, bsD_map bs]
def gAll : G1 := fun ds Q => ∃ xs bs, ds = [.lst xs] ∧ bsD xs = some bs ∧ Q (.bl (bs.all id))
def gAny : G1 := fun ds Q => ∃ xs bs, ds = [.lst xs] ∧ bsD xs = some bs ∧ Q (.bl (bs.any id))
theorem c_all (hc : X.calm = true) : CallR X (.builtin "all") (cN X.K gAll) := by
  intro pins s σ H xs us Q I r ⟨F, ds, Q', st, vw, ⟨zs, bs, ed, hb, g⟩, k⟩
  subst ed
  cases vw with
  | cons v1 t =>
    cases t
    obtain ⟨a, vs, rfl, hs, rs⟩ := v1.lst'
    obtain rfl := bsD_rep rs hb
    exact cr_all hc pins s σ H _ us Q I r ⟨a, bs, rfl, .inl hs, k F H _ _ (Grown.refl st) (.bl _) g⟩
theorem c_any (hc : X.calm = true) : CallR X (.builtin "any") (cN X.K gAny) := by
  intro pins s σ H xs us Q I r ⟨F, ds, Q', st, vw, ⟨zs, bs, ed, hb, g⟩, k⟩
  subst ed
  cases vw with
  | cons v1 t =>
    cases t
    obtain ⟨a, vs, rfl, hs, rs⟩ := v1.lst'
    obtain rfl := bsD_rep rs hb
    exact cr_any hc pins s σ H _ us Q I r ⟨a, bs, rfl, .inl hs, k F H _ _ (Grown.refl st) (.bl _) g⟩
end
end Mv

namespace Mv
open PySem PySem.Spec PyProof.Rows L2

/-! ### the laws' own helpers at the D-level -/
abbrev fz (d : D) : Option S := some (.fz d)
abbrev ow (o : O) : Option S := some (.own o)
abbrev DEnds.of (Q : S → Prop) : DEnds := { nx := fun _ => Q (.fz .non), rt := Q }
def t__law_draw : DS :=
 (dSeq (dIfS (dTst (d2 gGe (d2 gIxS (dVar 0) (dC (.int 0))) (dVar 1))) (dSeq (dAsg (d2 gMod (d2 gIxS (dVar 0) (dC (.int 0))) (dVar 1)) (gN 2))
 (dSeq (dAsg (d2 gDiv (d2 gIxS (dVar 0) (dC (.int 0))) (dVar 1)) (gSetS (dVar 0) (dC (.int 0))))
 (dRetV 2))) dNext)
 (dSeq (dAsg (d2 gMod (d2 gAdd (d2 gMul (d2 gIxS (dVar 0) (dC (.int 1))) (dC (.int 48271))) (dC (.int 12345))) (dC (.int 2147483647))) (gSetS (dVar 0) (dC (.int 1))))
 (dRet (d2 gMod (d2 gDiv (d2 gMod (d2 gPow (d2 gMod (d2 gPow (d2 gIxS (dVar 0) (dC (.int 1))) (dC (.int 3))) (dC (.int 2147483629))) (dC (.int 5))) (dC (.int 1000000007))) (dC (.int 7))) (dVar 1)))))
def sp_draw : DSp := fun ds Q => ∃ n : Int, ds = [.obj 0, .int n] ∧ 0 < n ∧ n < 1073741824 ∧ ∀ r : Int, 0 ≤ r → r < n → Q (.fz (.int r))
theorem ifb {b : Bool} {A B : Prop} (h1 : b = true → A) (h2 : b = false → B) : if b = true then A else B := by
  cases b with
  | true => rw [if_pos rfl]; exact h1 rfl
  | false => rw [if_neg (by decide)]; exact h2 rfl
theorem bits_lt {i : Int} {n : Nat} (h : i.natAbs < 2 ^ n) : Builtin.Int.intBits i ≤ n := by
  unfold Builtin.Int.intBits
  split
  · exact Nat.zero_le _
  · rename_i e
    have : i.natAbs ≠ 0 := by simpa using e
    exact (Nat.log2_lt this).mpr h
theorem pw_ok {i : Int} {n k : Nat} (h : i.natAbs < 2 ^ n) (hk : n * k ≤ 2 ^ 27) : CPw i k := ⟨Int.natCast_nonneg k, by
  have h1 := bits_lt h
  have h2 : Builtin.Int.intBits i * k ≤ n * k := Nat.mul_le_mul_right k h1
  have h3 : Builtin.Int.intBits i * k ≤ 2 ^ 27 := Nat.le_trans h2 hk
  exact_mod_cast h3⟩
theorem h_draw (ds : List D) (Q' : S → Prop) (h : sp_draw ds Q') : t__law_draw (DEnds.of Q') (startD 3 ds) := by
  obtain ⟨n, rfl, h0, h1, k⟩ := h
  refine .inl ⟨rfl, fun z => ⟨_, rfl, ifb (fun e => ?_) (fun e => ?_)⟩⟩
  · refine .inl ⟨rfl, fun z2 => ⟨h0, .inl ⟨rfl, fun z3 => ⟨⟨h0, h1⟩, rfl, _, rfl, .inl rfl, ?_⟩⟩⟩⟩
    exact k _ (Int.emod_nonneg _ (by omega)) (Int.emod_lt_of_pos _ h0)
  · refine .inr ⟨rfl, fun z2 a b => ⟨.inl (.inr ⟨by decide, by decide⟩), ?_⟩⟩
    have m1 := Int.emod_nonneg (z2 * 48271 + 12345) (show (2147483647 : Int) ≠ 0 by decide)
    have m2 := Int.emod_lt_of_pos (z2 * 48271 + 12345) (show (0 : Int) < 2147483647 by decide)
    refine ⟨by decide, rfl, _, rfl, .inr ⟨rfl, m1, by omega⟩, .inr ⟨rfl, fun z3 c d => ?_⟩⟩
    have n1 := Int.emod_nonneg (z3 ^ 3) (show (2147483629 : Int) ≠ 0 by decide)
    have n2 := Int.emod_lt_of_pos (z3 ^ 3) (show (0 : Int) < 2147483629 by decide)
    refine ⟨pw_ok (n := 32) (k := 3) (by omega) (by decide), by decide, pw_ok (n := 32) (k := 5) ?_ (by decide), by decide, ⟨by decide, by decide⟩, h0, ?_⟩
    · show (z3 ^ 3 % 2147483629).natAbs < 2 ^ 32
      omega
    · exact k _ (Int.emod_nonneg _ (by omega)) (Int.emod_lt_of_pos _ h0)

/-! the stream's making -/
def t_stream (c : Int) : DS :=
 (dSeq (dAsg (d2 gAdd (dC (.int c)) (dVar 1)) (gN 2))
 (dSeq (dFor (dIL (dVar 0)) (gN 3)
 (dAsg (d2 gAdd (d2 gMod (d2 gPow (d2 gAdd (d2 gMul (dVar 2) (dC (.int 40127))) (dVar 3)) (dC (.int 3))) (dC (.int 2147483629))) (dC (.int 1))) (gN 2)))
 (dSeq (dAsg (dC (.int 0)) (gN 4))
 (dSeq (dIfS (dAnd (dTst (d2 gLt (dVar 1) (d1V gLen (dVV 0)))) (dTst (d2 gGe (d2V gIx (dVV 0) (dVar 1)) (d2 gPow (dC (.int 10)) (dC (.int 18)))))) (dAsg (d2 gSub (d2V gIx (dVV 0) (dVar 1)) (d2 gPow (dC (.int 10)) (dC (.int 18)))) (gN 4)) dNext)
 (dRet (dStrm (dLst (dCons (dVar 4) (dCons (dVar 2) dNil)))))))))
theorem abs_bits {i : Int} {n : Nat} (h : Builtin.Int.intBits i ≤ n) : i.natAbs < 2 ^ n := by
  unfold Builtin.Int.intBits at h
  split at h
  · rename_i e
    have : i.natAbs = 0 := by simpa using e
    rw [this]; exact Nat.two_pow_pos n
  · rename_i e
    have : i.natAbs ≠ 0 := by simpa using e
    exact (Nat.log2_lt this).mp h
theorem mix_bits {n : Nat} (hn : 48 ≤ n) {a z : Int} (h0 : 0 ≤ a) (h1 : a < 2 ^ 32) (hz : Builtin.Int.intBits z ≤ n) : Builtin.Int.intBits (a * 40127 + z) ≤ n + 1 := by
  refine bits_lt ?_
  have h2 := abs_bits hz
  have h3 : (2 : Nat) ^ 48 ≤ 2 ^ n := Nat.pow_le_pow_right (by decide) hn
  have h4 : (2 : Nat) ^ (n + 1) = 2 * 2 ^ n := by rw [Nat.pow_succ, Nat.mul_comm]
  have h5 : (2 : Nat) ^ 48 = 281474976710656 := by decide
  rw [h4]
  generalize (2 : Nat) ^ n = m at *
  omega
def sp_stream : DSp := fun ds Q => ∃ (ns : List Int) (i : Int), ds = [.scr ns, .int i] ∧ 0 ≤ i ∧ i < 2 ^ 31 ∧ (∀ z ∈ ns, Builtin.Int.intBits z ≤ 1048576) ∧ Q (.fz (.obj 0))
theorem atI_nat' {α : Type} {xs : List α} {i : Int} (h0 : 0 ≤ i) (h1 : i < xs.length) : ∃ x, atI xs i = some x ∧ x ∈ xs := by
  obtain ⟨j, rfl⟩ := Int.eq_ofNat_of_zero_le h0
  have hj : j < xs.length := by omega
  have hj2 : xs[j]? = some xs[j] := List.getElem?_eq_getElem hj
  exact ⟨xs[j], atI_nat (j := j) hj2, List.getElem_mem hj⟩
theorem h_stream (c : Int) (c0 : 0 ≤ c) (c1 : c < 1000) (ds : List D) (Q' : S → Prop) (h : sp_stream ds Q') : t_stream c (DEnds.of Q') (startD 5 ds) := by
  obtain ⟨ns, i, rfl, i0, i1, hz, q⟩ := h
  have tail : ∀ (a : Option S) (sd dg : Int), 0 ≤ sd → sd < 2 ^ 32 → dRet (dStrm (dLst (dCons (dVar 4) (dCons (dVar 2) dNil)))) (DEnds.of Q') [fz (.scr ns), fz (.int i), fz (.int sd), a, fz (.int dg)] := fun a sd dg h0 h1 =>
    ⟨(by show 2 ≤ sizeLine; decide), dg, sd, rfl, h0, h1, q⟩
  refine ⟨fun _ δ => ∃ (sd : Int) (a : Option S), δ = [fz (.scr ns), fz (.int i), fz (.int sd), a, none] ∧ 0 ≤ sd ∧ sd < 2 ^ 32, ⟨c + i, _, rfl, by omega, by omega⟩, ?_, ?_⟩
  · rintro j d _ hd ⟨sd, a, rfl, h0, h1⟩
    rw [List.getElem?_map] at hd
    cases hj : ns[j]? with
    | none => rw [hj] at hd; cases hd
    | some z =>
      rw [hj] at hd
      cases hd
      have hb := mix_bits (n := 1048576) (by decide) h0 h1 (hz z (List.mem_of_getElem? hj))
      have n1 := Int.emod_nonneg ((sd * 40127 + z) ^ 3) (show (2147483629 : Int) ≠ 0 by decide)
      have n2 := Int.emod_lt_of_pos ((sd * 40127 + z) ^ 3) (show (0 : Int) < 2147483629 by decide)
      refine ⟨.inl (.inr ⟨by decide, by decide⟩), ⟨⟨by decide, ?_⟩, by decide, ?_⟩⟩
      · show (Builtin.Int.intBits (sd * 40127 + z) : Int) * 3 ≤ 134217728
        clear n1 n2
        generalize Builtin.Int.intBits (sd * 40127 + z) = b at hb ⊢
        omega
      · exact ⟨_, _, rfl, by show 0 ≤ (sd * 40127 + z) ^ 3 % 2147483629 + 1; omega, by show (sd * 40127 + z) ^ 3 % 2147483629 + 1 < 2 ^ 32; omega⟩
  · rintro _ ⟨sd, a, rfl, h0, h1⟩
    have p18 : CPw 10 18 := pw_ok (i := 10) (n := 4) (k := 18) (by decide) (by decide)
    refine ⟨_, rfl, _, rfl, ifb (fun e => ?_) (fun e => ?_)⟩
    · have e := of_decide_eq_true e
      obtain ⟨x, hx, _⟩ := atI_nat' i0 e
      refine ⟨_, rfl, x, hx, p18, _, rfl, ifb (fun e => ?_) (fun e => ?_)⟩
      · exact ⟨_, rfl, x, hx, p18, tail a sd _ h0 h1⟩
      · exact tail a sd _ h0 h1
    · exact tail a sd _ h0 h1

/-! choose, shuffled -/
def t__law_choose (sp__law_draw : DSp) : DS :=
 (dRet (d2V gIx (dVV 1) (dCall 2 sp__law_draw (dCons (dVar 0) (dCons (d1V gLen (dVV 1)) dNil)))))
def chD : D → Option (List D)
  | .lst xs => some xs
  | .tup xs => some xs
  | .str z => if z.length ≤ 16777216 then some (z.cps.toList.map fun c => D.str ⟨#[c]⟩) else none
  | _ => none
def sp_choose : DSp := fun ds Q => ∃ d xs, ds = [.obj 0, d] ∧ chD d = some xs ∧ 0 < xs.length ∧ xs.length < 1073741824 ∧ ∀ x ∈ xs, Q (.fz x)
theorem size_ok {n : Nat} (h : n ≤ 16777216) : n ≤ sizeLine := by rw [sizeLine_eq]; omega
theorem h_choose (ds : List D) (Q' : S → Prop) (h : sp_choose ds Q') : t__law_choose sp_draw (DEnds.of Q') (startD 2 ds) := by
  obtain ⟨d, xs, rfl, hd, h0, h1, k⟩ := h
  cases d <;> simp only [chD] at hd <;> try cases hd
  case str z =>
    split at hd
    · rename_i hz
      cases hd
      have hl : z.length = z.cps.toList.length := by show z.cps.size = _; simp
      rw [List.length_map] at h0 h1
      refine ⟨_, rfl, ⟨size_ok hz, rfl, z.length, rfl, by omega, by omega, fun r r0 r1 => ?_⟩⟩
      obtain ⟨x, hx, hm⟩ := atI_nat' (xs := z.cps.toList) r0 (by rw [← hl]; exact r1)
      exact ⟨_, rfl, x, size_ok hz, hx, k _ (List.mem_map.mpr ⟨x, hm, rfl⟩)⟩
    · cases hd
  case tup =>
    refine ⟨_, rfl, rfl, xs.length, rfl, by omega, by omega, fun r r0 r1 => ?_⟩
    obtain ⟨x, hx, hm⟩ := atI_nat' (xs := xs) r0 r1
    exact ⟨_, rfl, x, hx, k _ hm⟩
  case lst =>
    refine ⟨_, rfl, rfl, xs.length, rfl, by omega, by omega, fun r r0 r1 => ?_⟩
    obtain ⟨x, hx, hm⟩ := atI_nat' (xs := xs) r0 r1
    exact ⟨_, rfl, x, hx, k _ hm⟩
def t__law_shuffled (sp__law_draw : DSp) : DS :=
 (dSeq (dPar [2, 3] (dmO (d1O gListO (vCons (dVV 1) vNil)) (dmO (dLst dNil) dmNil)))
 (dSeq (dWhile (dTst (d2VV (gEqA true) (dVV 2) (dVF (dFrz (dLst dNil)))))
 (dApp 3 (dPopAt 2 (dCall 2 sp__law_draw (dCons (dVar 0) (dCons (d1V gLen (dVV 2)) dNil))))))
 (dRetV 3)))
/-- plain data of depth below n -/
def PureN (n : Nat) (x : D) : Prop := ∃ p, toP x = some p ∧ p.canLay0 = true ∧ p.depth ≤ n
theorem PureN.pure {n : Nat} {x : D} (h : PureN n x) (hn : n ≤ 64) : Pure x := by
  obtain ⟨p, e, c, d⟩ := h
  exact ⟨p, e, by unfold SeqAt.shaped; simp [c]; omega⟩
theorem pures {n : Nat} : ∀ {xs : List D}, (∀ x ∈ xs, PureN n x) → ∃ ps, toPs xs = some ps ∧ PyData.canLayAll0 ps = true ∧ PyData.depthAll ps ≤ n ∧ ps.length = xs.length
  | [], _ => ⟨[], rfl, by simp [PyData.canLayAll0], by simp [PyData.depthAll], rfl⟩
  | x :: xs, h => by
    obtain ⟨p, e, c, d⟩ := h x (by simp)
    obtain ⟨ps, e2, c2, d2, l⟩ := pures (n := n) (xs := xs) fun y hy => h y (by simp [hy])
    refine ⟨p :: ps, by simp [toPs, e, e2], by simp [PyData.canLayAll0, c, c2], ?_, by simp [l]⟩
    simp only [PyData.depthAll]
    omega
theorem PureN.lst {n : Nat} {xs : List D} (h : ∀ x ∈ xs, PureN n x) : PureN (n + 1) (.lst xs) := by
  obtain ⟨ps, e, c, d, _⟩ := pures h
  exact ⟨.list ps, by simp [toP, e], by simpa [PyData.canLay0] using c, by simp only [PyData.depth]; omega⟩
theorem PureN.tup {n : Nat} {xs : List D} (h : ∀ x ∈ xs, PureN n x) : PureN (n + 1) (.tup xs) := by
  obtain ⟨ps, e, c, d, _⟩ := pures h
  exact ⟨.tuple ps, by simp [toP, e], by simpa [PyData.canLay0] using c, by simp only [PyData.depth]; omega⟩
theorem PureN.mono {n m : Nat} {x : D} (h : PureN n x) (hm : n ≤ m) : PureN m x := let ⟨p, a, b, c⟩ := h; ⟨p, a, b, Nat.le_trans c hm⟩
theorem PureN.int {n : Nat} (i : Int) : PureN n (.int i) := ⟨_, rfl, by simp [PyData.canLay0], by simp [PyData.depth]⟩
theorem PureN.str {n : Nat} {i : Str} (h : PyData.strOk i = true) : PureN n (.str i) := ⟨_, rfl, by simpa [PyData.canLay0] using h, by simp [PyData.depth]⟩
theorem PureN.bl {n : Nat} (i : Bool) : PureN n (.bl i) := ⟨_, rfl, by simp [PyData.canLay0], by simp [PyData.depth]⟩
theorem PureN.non {n : Nat} : PureN n .non := ⟨_, rfl, by simp [PyData.canLay0], by simp [PyData.depth]⟩
theorem eqv_nil {n : Nat} {xs : List D} (h : ∀ x ∈ xs, PureN n x) : eqvD (.lst xs) (.lst []) = xs.isEmpty := by
  obtain ⟨ps, e, _, _, l⟩ := pures h
  unfold eqvD
  simp only [toP, e, Option.map_some, toPs]
  cases ps with
  | nil => cases xs with
    | nil => simp [PyData.eqv, PyData.eqvAll]
    | cons x xs => simp at l
  | cons p ps => cases xs with
    | nil => simp at l
    | cons x xs => simp [PyData.eqv, PyData.eqvAll]
def seqD : D → Option (List D)
  | .lst xs => some xs
  | .tup xs => some xs
  | _ => none
def sp_shuffled : DSp := fun ds Q => ∃ d xs, ds = [.obj 0, d] ∧ seqD d = some xs ∧ (∀ x ∈ xs, PureN 60 x) ∧ xs.length ≤ 1000000 ∧ ∀ ys, ys.Perm xs → Q (.own (.lst ys))
theorem perm_out {α : Type} : ∀ {ls : List α} {k : Nat} {x : α}, ls[k]? = some x → (x :: ls.eraseIdx k).Perm ls
  | [], _, _, h => by simp at h
  | y :: ls, 0, x, h => by simp at h; subst h; exact List.Perm.refl _
  | y :: ls, k + 1, x, h => by
    have ih := perm_out (ls := ls) (k := k) (x := x) (by simpa using h)
    exact (List.Perm.swap y x _).trans (ih.cons y)
theorem perm_move {α : Type} {ls fs : List α} {k : Nat} {x : α} (h : ls[k]? = some x) : (ls.eraseIdx k ++ (fs ++ [x])).Perm (ls ++ fs) := by
  have h1 := perm_out h
  have h2 : (fs ++ [x]).Perm ([x] ++ fs) := List.perm_append_comm
  have h3 : (ls.eraseIdx k ++ ([x] ++ fs)).Perm (x :: (ls.eraseIdx k ++ fs)) := by simpa using (List.perm_middle (l₁ := ls.eraseIdx k) (l₂ := fs) (a := x))
  exact (h2.append_left _).trans (h3.trans (h1.append_right fs))
theorem h_shuffled (ds : List D) (Q' : S → Prop) (h : sp_shuffled ds Q') : t__law_shuffled sp_draw (DEnds.of Q') (startD 4 ds) := by
  obtain ⟨d, xs, rfl, hd, hp, hl, q⟩ := h
  have body : dSeq (dWhile (dTst (d2VV (gEqA true) (dVV 2) (dVF (dFrz (dLst dNil))))) (dApp 3 (dPopAt 2 (dCall 2 sp_draw (dCons (dVar 0) (dCons (d1V gLen (dVV 2)) dNil)))))) (dRetV 3) (DEnds.of Q') [fz (.obj 0), fz d, ow (.lst xs), ow (.lst [])] := by
    refine ⟨fun m δ => ∃ ls fs, δ = [fz (.obj 0), fz d, ow (.lst ls), ow (.lst fs)] ∧ (ls ++ fs).Perm xs ∧ m = ls.length, ⟨_, xs, [], rfl, by simp, rfl⟩, ?_⟩
    rintro m _ ⟨ls, fs, rfl, pm, rfl⟩
    have hls : ∀ x ∈ ls, PureN 60 x := fun x hx => hp x (pm.mem_iff.mp (List.mem_append_left _ hx))
    have hz : ls.length + fs.length = xs.length := by have := pm.length_eq; simpa using this
    refine ⟨Nat.zero_le _, _, _, rfl, rfl, .inl (.inl ⟨(PureN.lst hls).pure (by decide), (PureN.lst (n := 60) (xs := []) (fun x h => nomatch h)).pure (by decide), _, rfl, ifb (fun e => ?_) (fun e => ?_)⟩)⟩
    · have e : (!eqvD (.lst ls) (.lst [])) = true := e
      rw [eqv_nil hls] at e
      have hne : ls ≠ [] := fun z => by subst z; simp at e
      have hpos : 0 < ls.length := List.length_pos_iff.mpr hne
      refine ⟨_, rfl, rfl, ls.length, rfl, by omega, by omega, fun r r0 r1 => ?_⟩
      obtain ⟨j, rfl⟩ := Int.eq_ofNat_of_zero_le r0
      have hj : j < ls.length := by omega
      have hg : ls[j]? = some ls[j] := List.getElem?_eq_getElem hj
      refine ⟨j, j, ls[j], rfl, by omega, by omega, ?_, hg, ?_⟩
      · unfold seqIndex?
        simp
        omega
      · refine ⟨by have : (sizeLine : Nat) = 16777216 := sizeLine_eq; omega, ls.length - 1, by omega, ls.eraseIdx j, fs ++ [ls[j]], rfl, (perm_move hg).trans pm, ?_⟩
        rw [List.length_eraseIdx_of_lt hj]
    · have e : (!eqvD (.lst ls) (.lst [])) = false := e
      rw [eqv_nil hls] at e
      have hne : ls = [] := by
        cases ls with
        | nil => rfl
        | cons a b => simp at e
      subst hne
      exact q fs (by simpa using pm)
  cases d <;> simp only [seqD] at hd <;> cases hd
  · exact ⟨_, rfl, .inl ⟨xs, .inr rfl, Nat.zero_le _, rfl, body⟩⟩
  · exact ⟨_, rfl, .inl ⟨xs, .inl rfl, Nat.zero_le _, rfl, body⟩⟩
end Mv

namespace Mv
open PySem PySem.Spec PyProof.Rows L2
def t__law_word (sp__law_choose : DSp) : DS :=
 (dSeq (dAsg (dC (.str "abcdefghijklmnopqrstuvwxyz")) (gN 1))
 (dSeq (dAsg (dCall 2 sp__law_choose (dCons (dVar 0) (dCons (dFrz (dLst (dCons (dC (.int 1)) (dCons (dC (.int 1)) (dCons (dC (.int 2)) (dCons (dC (.int 3)) (dCons (dC (.int 8)) (dCons (dC (.int 12)) dNil)))))))) dNil))) (gN 2))
 (dRet (dJoin (dC (.str "")) (dFrz (dLc (dIR1 (dCons (dVar 2) dNil)) (gN 3) dYes (dCall 2 sp__law_choose (dCons (dVar 0) (dCons (dVar 1) dNil))) [3]))))))
/-- a short word of small letters -/
structure WordOk (z : Str) : Prop where
  pos : 1 ≤ z.length
  le : z.length ≤ 12
  az : ∀ c ∈ z.cps.toList, 97 ≤ c ∧ c ≤ 122
theorem WordOk.ok {z : Str} (h : WordOk z) : PyData.strOk z = true := by
  unfold PyData.strOk
  rw [← Array.all_toList, List.all_eq_true]
  intro c hc
  have := h.az c hc
  simp; omega
def sp_word : DSp := fun ds Q => ds = [.obj 0] ∧ ∀ z, WordOk z → Q (.fz (.str z))
def chr1 (c : Nat) : Str := ⟨#[c]⟩
theorem joinL_nil : ∀ ps : List (List Nat), TL.joinL [] ps = ps.flatten
  | [] => rfl
  | [p] => by simp [TL.joinL]
  | p :: q :: r => by
    show p ++ ([] ++ TL.joinL [] (q :: r)) = _
    rw [joinL_nil (q :: r)]; simp
theorem join_chars (cs : List Nat) : (Txt.join "" (cs.map chr1)).cps.toList = cs := by
  have e := TL.tl_join "" (cs.map chr1)
  rw [← TL.join_eq] at e
  have e1 : TL.tl ("" : Str) = [] := by decide +kernel
  rw [e1, joinL_nil, List.map_map] at e
  have e2 : ∀ cs : List Nat, (cs.map (TL.tl ∘ chr1)).flatten = cs := fun cs => by
    induction cs with
    | nil => rfl
    | cons c r ih => rw [List.map_cons, List.flatten_cons, ih]; rfl
  exact e.trans (e2 cs)
theorem letters_ok : ∀ c ∈ ("abcdefghijklmnopqrstuvwxyz" : Str).cps.toList, 97 ≤ c ∧ c ≤ 122 := by decide +kernel
theorem letters_len : ("abcdefghijklmnopqrstuvwxyz" : Str).cps.toList.length = 26 := by decide +kernel
theorem h_word (ds : List D) (Q' : S → Prop) (h : sp_word ds Q') : t__law_word sp_choose (DEnds.of Q') (startD 4 ds) := by
  obtain ⟨rfl, k⟩ := h
  refine ⟨by show 6 ≤ sizeLine; decide, rfl, _, _, rfl, rfl, by decide, by decide, fun x hx => ?_⟩
  obtain ⟨n, rfl, hn⟩ : ∃ n : Int, x = .int n ∧ (1 ≤ n ∧ n ≤ 12) := by
    simp at hx
    rcases hx with rfl | rfl | rfl | rfl | rfl <;> exact ⟨_, rfl, by decide, by decide⟩
  refine ⟨⟨_, rfl⟩, n, rfl, ⟨by omega, by omega⟩, ?_⟩
  have hr : (rngD 0 n).length = n.toNat := by simp [rngD]
  have hs : n.toNat ≤ sizeLine := size_ok (by omega)
  refine ⟨by rw [hr]; exact hs, fun i δ acc => δ = [fz (.obj 0), fz (.str "abcdefghijklmnopqrstuvwxyz"), fz (.int n), none] ∧ ∃ cs : List Nat, acc = cs.map (fun c => D.str (chr1 c)) ∧ cs.length = i ∧ ∀ c ∈ cs, 97 ≤ c ∧ c ≤ 122, ⟨rfl, [], rfl, rfl, fun c h => nomatch h⟩, ?_, ?_⟩
  · rintro i d _ acc hd ⟨rfl, cs, rfl, hl, hc⟩
    refine ⟨rfl, _, _, rfl, rfl, by rw [List.length_map, letters_len]; decide, by rw [List.length_map, letters_len]; decide, fun x hx => ?_⟩
    obtain ⟨c, hc2, rfl⟩ := List.mem_map.mp hx
    refine ⟨rfl, cs ++ [c], by simp [chr1, S.d], by simp [hl], fun c' hc' => ?_⟩
    rcases List.mem_append.mp hc' with h | h
    · exact hc c' h
    · rw [List.mem_singleton.mp h]; exact letters_ok c hc2
  · rintro _ acc ⟨rfl, cs, rfl, hl, hc⟩
    rw [hr] at hl
    have hst : strsD (cs.map fun c => D.str (chr1 c)) = some (cs.map chr1) := by
      have := strsD_map (cs.map chr1)
      rwa [List.map_map] at this
    have hj := join_chars cs
    refine ⟨"", _, cs.map chr1, rfl, .inl rfl, hst, ?_, k _ ⟨?_, ?_, ?_⟩⟩
    · have e1 : ((cs.map chr1).map (·.length)).sum = cs.length := by
        rw [List.map_map]
        have : ((fun z : Str => z.length) ∘ chr1) = fun _ => 1 := by funext c; rfl
        rw [this]
        clear hj hst hc hl
        induction cs with
        | nil => rfl
        | cons c r ih => rw [List.map_cons, List.sum_cons, ih, List.length_cons]; omega
      rw [e1]
      have e2 : ("" : Str).length = 0 := by decide +kernel
      rw [e2]; omega
    · show 1 ≤ (Txt.join "" (cs.map chr1)).cps.size
      rw [← Array.length_toList, hj]; omega
    · show (Txt.join "" (cs.map chr1)).cps.size ≤ 12
      rw [← Array.length_toList, hj]; omega
    · rw [hj]; exact hc

/-! sorting -/
theorem sortD_perm (xs : List D) : (sortD xs).Perm xs := List.mergeSort_perm _ _
theorem toPD_int (i : Int) : toPD (.int i) = .int i := rfl
theorem toPD_str (i : Str) : toPD (.str i) = .str i := rfl
theorem sort_ints_ok {ns : List Int} (h : ns.length ≤ 16777216) : SortOk (ns.map D.int) where
  pu := fun d hd => by obtain ⟨i, _, rfl⟩ := List.mem_map.mp hd; exact (PureN.int (n := 0) i).pure (by decide)
  al := fun d hd d' hd' => by
    simp only [List.map_map, List.mem_map] at hd hd'
    obtain ⟨i, _, rfl⟩ := hd
    obtain ⟨j, _, rfl⟩ := hd'
    simp [toPD_int, PySem.W.alike]
  so := .inr fun d hd => by
    simp only [List.map_map, List.mem_map] at hd
    obtain ⟨i, _, rfl⟩ := hd
    exact ⟨by simp [toPD_int], fun xs => by simp [toPD_int]⟩
  sz := by rw [List.length_map]; exact size_ok h
theorem sort_strs_ok {ns : List Str} (hs : ∀ z ∈ ns, PyData.strOk z = true) (h : ns.length ≤ 16777216) : SortOk (ns.map D.str) where
  pu := fun d hd => by obtain ⟨i, hi, rfl⟩ := List.mem_map.mp hd; exact (PureN.str (n := 0) (hs i hi)).pure (by decide)
  al := fun d hd d' hd' => by
    simp only [List.map_map, List.mem_map] at hd hd'
    obtain ⟨i, _, rfl⟩ := hd
    obtain ⟨j, _, rfl⟩ := hd'
    simp [toPD_str, PySem.W.alike]
  so := .inr fun d hd => by
    simp only [List.map_map, List.mem_map] at hd
    obtain ⟨i, _, rfl⟩ := hd
    exact ⟨by simp [toPD_str], fun xs => by simp [toPD_str]⟩
  sz := by rw [List.length_map]; exact size_ok h
theorem sort_ints (ns : List Int) : sortD (ns.map D.int) = (ns.mergeSort fun i j => decide (i ≤ j)).map D.int := by
  unfold sortD
  symm
  refine List.map_mergeSort fun a _ b _ => ?_
  exact (congrFun (congrFun (PySem.W.dataLe_int (fun z : Int => z)) a) b).symm
def strLe (a b : Str) : Bool := decide (a.cps.toList ≤ b.cps.toList)
theorem sort_strs (ns : List Str) : sortD (ns.map D.str) = (ns.mergeSort strLe).map D.str := by
  unfold sortD
  symm
  refine List.map_mergeSort fun a _ b _ => ?_
  exact (congrFun (congrFun (PySem.W.dataLe_str (fun z : Str => z)) a) b).symm
def t__law_words (sp__law_draw : DSp) (sp__law_shuffled : DSp) (sp__law_word : DSp) : DS :=
 (dSeq (dAsgO 2 dNewK)
 (dSeq (dFor (dIR1 (dCons (dCall 2 sp__law_draw (dCons (dVar 0) (dCons (d2 gAdd (dVar 1) (dC (.int 1))) dNil))) dNil)) (gN 3)
 (dAsg (dC (.bl true)) (gSet 2 (dCall 1 sp__law_word (dCons (dVar 0) dNil)))))
 (dRet (dCall 2 sp__law_shuffled (dCons (dVar 0) (dCons (dFrz (d1O gSorted (vCons (dVV 2) vNil))) dNil))))))
/-- distinct short words -/
structure WordsOk (zs : List Str) (m : Nat) : Prop where
  ok : ∀ z ∈ zs, WordOk z
  nd : zs.Nodup
  le : zs.length ≤ m
def sp_words : DSp := fun ds Q => ∃ m : Nat, ds = [.obj 0, .int m] ∧ m ≤ 1000 ∧ ∀ zs, WordsOk zs m → Q (.fz (.lst (zs.map D.str)))
theorem putG_new {α : Type} {zs : List Str} {z : Str} {v : α} (h : z ∉ zs) : putG (zs.map fun z => ((.inr z : Key), v)) (.inr z) v = (zs ++ [z]).map fun z => ((.inr z : Key), v) := by
  unfold putG
  rw [if_neg]
  · simp
  · simp only [List.any_map, List.any_eq_true, Function.comp, decide_eq_true_eq, not_exists, not_and]
    intro x hx e
    injection e with e
    subst e; exact h hx
theorem putG_old {α : Type} {zs : List Str} {z : Str} {v : α} (h : z ∈ zs) : putG (zs.map fun z => ((.inr z : Key), v)) (.inr z) v = zs.map fun z => ((.inr z : Key), v) := by
  unfold putG
  rw [if_pos]
  · rw [List.map_map]
    refine List.map_congr_left fun x _ => ?_
    simp only [Function.comp]
    split <;> rfl
  · simp only [List.any_map, List.any_eq_true, Function.comp, decide_eq_true_eq]
    exact ⟨z, h, rfl⟩
theorem perm_strs {ys : List D} {zs : List Str} (h : ys.Perm (zs.map D.str)) : ∃ ws : List Str, ys = ws.map D.str ∧ ws.Perm zs := by
  have e : ∀ y ∈ ys, ∃ z, y = D.str z := fun y hy => by
    obtain ⟨z, _, e⟩ := List.mem_map.mp (h.mem_iff.mp hy)
    exact ⟨z, e.symm⟩
  let f : D → Str := fun d => match d with
    | .str z => z
    | _ => ⟨#[]⟩
  refine ⟨ys.map f, ?_, ?_⟩
  · rw [List.map_map]
    conv => lhs; rw [← List.map_id ys]
    refine List.map_congr_left fun y hy => ?_
    obtain ⟨z, rfl⟩ := e y hy
    rfl
  · have := h.map f
    rw [List.map_map] at this
    have e2 : (f ∘ D.str) = id := by funext z; rfl
    rwa [e2, List.map_id] at this
theorem perm_ints {ys : List D} {zs : List Int} (h : ys.Perm (zs.map D.int)) : ∃ ws : List Int, ys = ws.map D.int ∧ ws.Perm zs := by
  have e : ∀ y ∈ ys, ∃ z, y = D.int z := fun y hy => by
    obtain ⟨z, _, e⟩ := List.mem_map.mp (h.mem_iff.mp hy)
    exact ⟨z, e.symm⟩
  let f : D → Int := fun d => match d with
    | .int z => z
    | _ => 0
  refine ⟨ys.map f, ?_, ?_⟩
  · rw [List.map_map]
    conv => lhs; rw [← List.map_id ys]
    refine List.map_congr_left fun y hy => ?_
    obtain ⟨z, rfl⟩ := e y hy
    rfl
  · have := h.map f
    rw [List.map_map] at this
    have e2 : (f ∘ D.int) = id := by funext z; rfl
    rwa [e2, List.map_id] at this
theorem h_words (ds : List D) (Q' : S → Prop) (h : sp_words ds Q') : t__law_words sp_draw sp_shuffled sp_word (DEnds.of Q') (startD 4 ds) := by
  obtain ⟨m, rfl, hm, k⟩ := h
  refine ⟨rfl, (m : Int) + 1, rfl, by omega, by omega, fun r r0 r1 => ?_⟩
  refine ⟨r, rfl, ⟨by omega, by omega⟩, fun i δ => ∃ (a : Option S) (zs : List Str), δ = [fz (.obj 0), fz (.int m), ow (.dk (zs.map fun z => ((.inr z : Key), D.bl true))), a] ∧ WordsOk zs i, ⟨none, [], rfl, ⟨(fun z h => nomatch h), List.nodup_nil, Nat.le_refl _⟩⟩, ?_, ?_⟩
  · rintro i d _ hd ⟨a, zs, rfl, ok⟩
    have hi : i < r.toNat := by
      have := (List.getElem?_eq_some_iff.mp hd).1
      simpa [rngD] using this
    have hl := ok.le
    refine ⟨⟨_, rfl⟩, rfl, rfl, fun z hz => ⟨.inr z, rfl, ?_, ?_⟩⟩
    · rw [List.length_map]
      have := sizeLine_eq
      omega
    · by_cases hmem : z ∈ zs
      · exact ⟨_, zs, by rw [putG_old hmem]; rfl, ⟨ok.ok, ok.nd, by omega⟩⟩
      · refine ⟨_, zs ++ [z], by rw [putG_new hmem]; rfl, ⟨fun y hy => ?_, ?_, by simp; omega⟩⟩
        · rcases List.mem_append.mp hy with h | h
          · exact ok.ok y h
          · rw [List.mem_singleton.mp h]; exact hz
        · exact List.nodup_append.mpr ⟨ok.nd, by simp, fun x hx y hy e => by
            rw [List.mem_singleton.mp hy] at e; subst e; exact hmem hx⟩
  · rintro _ ⟨a, zs, rfl, ok⟩
    have hl := ok.le
    have hr : (rngD 0 r).length = r.toNat := by simp [rngD]
    rw [hr] at hl
    have hks : ((zs.map fun z => ((.inr z : Key), D.bl true)).map fun kv => keyD kv.1) = zs.map D.str := by rw [List.map_map]; rfl
    refine ⟨_, rfl, _, zs.map D.str, rfl, by rw [← hks]; rfl, sort_strs_ok (fun z hz => (ok.ok z hz).ok) (by omega), ?_⟩
    rw [sort_strs]
    have hp := List.mergeSort_perm zs strLe
    refine ⟨rfl, _, _, rfl, rfl, fun x hx => ?_, ?_, fun ys hys => ?_⟩
    · obtain ⟨z, hz, rfl⟩ := List.mem_map.mp hx
      exact PureN.str (ok.ok z (hp.mem_iff.mp hz)).ok
    · rw [List.length_map, hp.length_eq]; omega
    · obtain ⟨ws, rfl, hw⟩ := perm_strs hys
      have hw2 := hw.trans hp
      exact k ws ⟨fun z hz => ok.ok z (hw2.mem_iff.mp hz), hw2.nodup_iff.mpr ok.nd, by rw [hw2.length_eq]; omega⟩
end Mv

namespace Mv
open PySem PySem.Spec PyProof.Rows L2

/-! ### dicts as maps -/
section
variable {κ α : Type} [DecidableEq κ]
def keysG (t : List (κ × α)) : List κ := t.map (·.1)
theorem valG_nil (k : κ) : valG ([] : List (κ × α)) k = none := rfl
theorem valG_cons (q : κ × α) (t : List (κ × α)) (k : κ) : valG (q :: t) k = if q.1 = k then some q.2 else valG t k := by
  unfold valG
  by_cases h : q.1 = k
  · simp [h]
  · simp [h]
theorem valG_mem {t : List (κ × α)} {k : κ} {v : α} (h : valG t k = some v) : (k, v) ∈ t := by
  induction t with
  | nil => cases h
  | cons q t ih =>
    rw [valG_cons] at h
    split at h
    · rename_i e; cases h; subst e; exact List.mem_cons_self ..
    · exact List.mem_cons_of_mem _ (ih h)
theorem valG_key {t : List (κ × α)} {k : κ} : k ∈ keysG t ↔ (valG t k).isSome = true := by
  induction t with
  | nil => simp [keysG, valG_nil]
  | cons q t ih =>
    rw [valG_cons]
    by_cases h : q.1 = k
    · simp [keysG, h]
    · simp only [keysG, List.map_cons, List.mem_cons, if_neg h]
      rw [← ih]
      simp [keysG, Ne.symm h]
theorem valG_none {t : List (κ × α)} {k : κ} (h : k ∉ keysG t) : valG t k = none := by
  cases e : valG t k with
  | none => rfl
  | some v => exact absurd (valG_key.mpr (by rw [e]; rfl)) h
theorem valG_of_mem {t : List (κ × α)} (nd : (keysG t).Nodup) {k : κ} {v : α} (h : (k, v) ∈ t) : valG t k = some v := by
  induction t with
  | nil => cases h
  | cons q t ih =>
    have nd' := List.nodup_cons.mp nd
    rw [valG_cons]
    rcases List.mem_cons.mp h with e | h
    · subst e; simp
    · have : q.1 ≠ k := fun e => nd'.1 (by show q.1 ∈ _; rw [e]; exact List.mem_map.mpr ⟨_, h, rfl⟩)
      rw [if_neg this]
      exact ih nd'.2 h
theorem putG_app {t : List (κ × α)} {k : κ} {v : α} (h : k ∉ keysG t) : putG t k v = t ++ [(k, v)] := by
  unfold putG
  rw [if_neg]
  simp only [List.any_eq_true, decide_eq_true_eq, not_exists, not_and]
  intro x hx e
  exact h (by rw [← e]; exact List.mem_map.mpr ⟨x, hx, rfl⟩)
theorem putG_map {t : List (κ × α)} {k : κ} {v : α} (h : k ∈ keysG t) : putG t k v = t.map fun kv => if kv.1 = k then (kv.1, v) else kv := by
  unfold putG
  rw [if_pos]
  obtain ⟨x, hx, e⟩ := List.mem_map.mp h
  simp only [List.any_eq_true, decide_eq_true_eq]
  exact ⟨x, hx, e⟩
theorem keys_put (t : List (κ × α)) (k : κ) (v : α) : keysG (putG t k v) = if k ∈ keysG t then keysG t else keysG t ++ [k] := by
  by_cases h : k ∈ keysG t
  · rw [if_pos h, putG_map h]
    unfold keysG
    rw [List.map_map]
    refine List.map_congr_left fun x _ => ?_
    simp only [Function.comp]
    split <;> rfl
  · rw [if_neg h, putG_app h]
    simp [keysG]
theorem nodup_put {t : List (κ × α)} (nd : (keysG t).Nodup) (k : κ) (v : α) : (keysG (putG t k v)).Nodup := by
  rw [keys_put]
  split
  · exact nd
  · rename_i h
    exact List.nodup_append.mpr ⟨nd, by simp, fun x hx y hy e => by
      rw [List.mem_singleton.mp hy] at e; subst e; exact h hx⟩
theorem len_put (t : List (κ × α)) (k : κ) (v : α) : (putG t k v).length ≤ t.length + 1 := by
  by_cases h : k ∈ keysG t
  · rw [putG_map h]; simp
  · rw [putG_app h]; simp
theorem val_put (t : List (κ × α)) (k : κ) (v : α) (k' : κ) : valG (putG t k v) k' = if k' = k then some v else valG t k' := by
  by_cases h : k ∈ keysG t
  · rw [putG_map h]
    induction t with
    | nil => simp [keysG] at h
    | cons q t ih =>
      rw [List.map_cons, valG_cons, valG_cons]
      by_cases e : q.1 = k
      · rw [if_pos e]
        by_cases e2 : k' = k
        · subst e2; simp [e]
        · have : ¬ q.1 = k' := fun z => e2 (z.symm.trans e)
          simp only [this, if_false, e2]
          by_cases hk : k ∈ keysG t
          · rw [ih hk, if_neg e2]
          · have : (t.map fun kv => if kv.1 = k then (kv.1, v) else kv) = t := by
              conv => rhs; rw [← List.map_id t]
              refine List.map_congr_left fun x hx => ?_
              have : ¬ x.1 = k := fun z => hk (by rw [← z]; exact List.mem_map.mpr ⟨x, hx, rfl⟩)
              simp [this]
            rw [this]
      · rw [if_neg e]
        have hk : k ∈ keysG t := by
          rcases List.mem_cons.mp (show k ∈ q.1 :: keysG t from h) with z | z
          · exact absurd z.symm e
          · exact z
        by_cases e2 : q.1 = k'
        · have : ¬ k' = k := fun z => e (e2.trans z)
          simp [e2, this]
        · rw [if_neg e2, if_neg e2]
          exact ih hk
  · rw [putG_app h]
    induction t with
    | nil =>
      rw [List.nil_append, valG_cons, valG_nil]
      by_cases e : k = k'
      · subst e; simp
      · simp [e, Ne.symm e]
    | cons q t ih =>
      have h2 : k ∉ keysG t := fun z => h (List.mem_cons_of_mem _ z)
      have h1 : q.1 ≠ k := fun z => h (by rw [← z]; exact List.mem_cons_self ..)
      rw [List.cons_append, valG_cons, valG_cons, ih h2]
      by_cases e : q.1 = k'
      · have : ¬ k' = k := fun z => h1 (e.trans z)
        simp [e, this]
      · rw [if_neg e, if_neg e]
end
/-! equality of data with itself -/
mutual
theorem eqv_refl : ∀ p : PyData, p.canLay0 = true → PyData.eqv p p = true
  | .none, _ => by simp [PyData.eqv]
  | .bool b, _ => by simp [PyData.eqv]
  | .int i, _ => by simp [PyData.eqv]
  | .str x, _ => by simp [PyData.eqv]
  | .list xs, h => by
    rw [PyData.eqv]; exact eqvAll_refl xs (by simpa [PyData.canLay0] using h)
  | .tuple xs, h => by
    rw [PyData.eqv]; exact eqvAll_refl xs (by simpa [PyData.canLay0] using h)
  | .dict _, h => by simp [PyData.canLay0] at h
theorem eqvAll_refl : ∀ ps : List PyData, PyData.canLayAll0 ps = true → PyData.eqvAll ps ps = true
  | [], _ => by simp [PyData.eqvAll]
  | p :: ps, h => by
    simp only [PyData.canLayAll0, Bool.and_eq_true] at h
    rw [PyData.eqvAll, eqv_refl p h.1, eqvAll_refl ps h.2]; rfl
end
theorem eqvD_refl {n : Nat} {d : D} (h : PureN n d) : eqvD d d = true := by
  obtain ⟨p, e, c, _⟩ := h
  unfold eqvD
  rw [e]
  exact eqv_refl p c
/-- two dicts that are one map -/
theorem eqG_same {κ : Type} [DecidableEq κ] {a b : List (κ × D)} {n : Nat} (na : (keysG a).Nodup) (nb : (keysG b).Nodup) (h : ∀ k, valG a k = valG b k) (pu : ∀ q ∈ a, PureN n q.2) : eqG a b = true := by
  have hp : (keysG a).Perm (keysG b) := by
    refine (List.perm_ext_iff_of_nodup na nb).mpr fun k => ?_
    rw [valG_key, valG_key, h k]
  have hl : a.length = b.length := by simpa [keysG] using hp.length_eq
  unfold eqG
  rw [hl]
  simp only [beq_self_eq_true, Bool.true_and, List.all_eq_true]
  rintro ⟨k, d⟩ hq
  have hv := valG_of_mem na hq
  show (match valG b k with
    | some d' => eqvD d d'
    | none => false) = true
  rw [← h k, hv]
  exact eqvD_refl (pu _ hq)
end Mv

namespace Mv
open PySem PySem.Spec PyProof.Rows L2
/-! ### label_table -/
def t_label_table : DS :=
 (dSeq (dAsgO 3 dNewT)
 (dSeq (dFor (dIEn (dCons (dVar 1) dNil)) (gTp 2 (gsCons (gN 4) (gsCons (gN 5) gsNil)))
 (dFor (dIT (dVar 5)) (gN 6)
 (dIfS (dTst (d2W (gInB false) (dVar 6) (dVV 0))) (dSeq (dAsg (dTup (dCons (d2V gIx (dVV 0) (dVar 6)) (dCons (dVar 4) dNil))) (gN 7))
 (dAsg (d2 gAdd (dGet2 (dVV 3) (dVar 7) (dC (.int 0))) (d2V gIx (dVV 2) (dVar 6))) (gSet 3 (dVar 7)))) dNext)))
 (dRetV 3)))
/-- a group, groups as data -/
def grD (g : List Int) : D := .tup (g.map D.int)
def grsD (gs : List (List Int)) : D := .lst (gs.map grD)
def labK (z : Str) (p : Nat) : List Key := [.inr z, .inl (p : Int)]
/-- the rows of rs that bear the label z -/
def rowsOf (lab : Int → Option Str) (z : Str) (rs : List Int) : List Int := rs.filter fun r => decide (lab r = some z)
/-- t holds, by label and place, the weights of the rows done so far -/
structure LabTab (lab : Int → Option Str) (w : Int → Int) (done : Nat → List Int) (t : List (List Key × D)) : Prop where
  nd : (keysG t).Nodup
  val : ∀ z p, valG t (labK z p) = if rowsOf lab z (done p) = [] then none else some (.int ((rowsOf lab z (done p)).map w).sum)
  key : ∀ k ∈ keysG t, ∃ z p, k = labK z p
theorem labK_inj {z z' : Str} {p p' : Nat} (h : labK z p = labK z' p') : z = z' ∧ p = p' := by
  unfold labK at h
  simp at h
  exact ⟨h.1, by omega⟩
theorem LabTab.step {lab : Int → Option Str} {w : Int → Int} {done done' : Nat → List Int} {t : List (List Key × D)} (T : LabTab lab w done t) {p : Nat} {r : Int} {z : Str} (hz : lab r = some z) (hd : ∀ q, done' q = if q = p then done p ++ [r] else done q) (old : Int)
    (ho : (valG t (labK z p)).getD (.int 0) = .int old) : LabTab lab w done' (putG t (labK z p) (.int (old + w r))) := by
  refine ⟨nodup_put T.nd _ _, fun z' p' => ?_, fun k hk => ?_⟩
  · rw [val_put, hd]
    by_cases e : labK z' p' = labK z p
    · obtain ⟨rfl, rfl⟩ := labK_inj e
      rw [if_pos rfl, if_pos rfl]
      have h1 : rowsOf lab z' (done p' ++ [r]) = rowsOf lab z' (done p') ++ [r] := by simp [rowsOf, List.filter_append, hz]
      rw [h1, if_neg (by simp)]
      have hv := T.val z' p'
      rw [hv] at ho
      split at ho
      · rename_i e0
        rw [e0]
        have : old = 0 := by simpa using ho.symm
        subst this; simp
      · have : ((rowsOf lab z' (done p')).map w).sum = old := by simpa using ho
        rw [List.map_append, List.sum_append, this]; simp
    · rw [if_neg e, T.val z' p']
      by_cases ep : p' = p
      · subst ep
        have ez : z' ≠ z := fun q => e (by rw [q])
        have h1 : rowsOf lab z' (done p' ++ [r]) = rowsOf lab z' (done p') := by simp [rowsOf, List.filter_append, hz, Ne.symm ez]
        rw [if_pos rfl, h1]
      · rw [if_neg ep]
  · rw [keys_put] at hk
    split at hk
    · exact T.key k hk
    · rcases List.mem_append.mp hk with h | h
      · exact T.key k h
      · exact ⟨z, p, List.mem_singleton.mp h⟩
theorem LabTab.skip {lab : Int → Option Str} {w : Int → Int} {done done' : Nat → List Int} {t : List (List Key × D)} (T : LabTab lab w done t) {p : Nat} {r : Int} (hz : lab r = none) (hd : ∀ q, done' q = if q = p then done p ++ [r] else done q) : LabTab lab w done' t := by
  refine ⟨T.nd, fun z' p' => ?_, T.key⟩
  rw [T.val z' p', hd]
  by_cases ep : p' = p
  · subst ep
    have h1 : rowsOf lab z' (done p' ++ [r]) = rowsOf lab z' (done p') := by simp [rowsOf, List.filter_append, hz]
    rw [if_pos rfl, h1]
  · rw [if_neg ep]
theorem LabTab.congr {lab : Int → Option Str} {w : Int → Int} {done done' : Nat → List Int} {t : List (List Key × D)} (T : LabTab lab w done t) (h : ∀ q, done' q = done q) : LabTab lab w done' t :=
  ⟨T.nd, fun z p => by rw [h]; exact T.val z p, T.key⟩
theorem LabTab.nil {lab : Int → Option Str} {w : Int → Int} : LabTab lab w (fun _ => []) [] := ⟨List.nodup_nil, fun z p => rfl, fun k h => nomatch h⟩
/-- the label of a row, from the dict -/
def labOf (labels : List (Key × D)) (r : Int) : Option Str := match valG labels (.inl r) with
  | some (.str z) => some z
  | _ => none
def intOf (ws : List (Key × D)) (r : Int) : Int := match valG ws (.inl r) with
  | some (.int z) => z
  | _ => 0
structure LabIn (labels : List (Key × D)) (gs : List (List Int)) (weights : List (Key × D)) : Prop where
  lab : ∀ k d, valG labels k = some d → ∃ z, d = .str z
  wt : ∀ g ∈ gs, ∀ r ∈ g, (valG labels (.inl r)).isSome = true → ∃ w, valG weights (.inl r) = some (.int w)
  sz : gs.flatten.length ≤ 1000000
def sp_label_table : DSp := fun ds Q => ∃ labels gs weights, ds = [.dk labels, grsD gs, .dk weights] ∧ LabIn labels gs weights ∧
  ∀ t, LabTab (labOf labels) (intOf weights) (fun p => gs.getD p []) t → Q (.own (.dt t))
theorem en_get {xs : List D} {i : Nat} {d : D} (h : ((List.range xs.length).zip xs |>.map fun ix => D.tup [.int (ix.1 : Nat), ix.2])[i]? = some d) : ∃ x, xs[i]? = some x ∧ d = .tup [.int i, x] := by
  rw [List.getElem?_map] at h
  cases hz : ((List.range xs.length).zip xs)[i]? with
  | none => rw [hz] at h; cases h
  | some q =>
    rw [hz] at h
    obtain ⟨h1, h2⟩ := List.getElem?_zip_eq_some.mp hz
    have h1' := (List.getElem?_eq_some_iff.mp h1)
    obtain ⟨hl, e⟩ := h1'
    simp at e
    have h3 : D.tup [D.int (q.1 : Nat), q.2] = d := Option.some.inj h
    exact ⟨q.2, h2, by rw [← h3, ← e]⟩
theorem map_get {α β : Type} {f : α → β} {xs : List α} {i : Nat} {y : β} (h : (xs.map f)[i]? = some y) : ∃ x, xs[i]? = some x ∧ y = f x := by
  rw [List.getElem?_map] at h
  cases hz : xs[i]? with
  | none => rw [hz] at h; cases h
  | some x => rw [hz] at h; exact ⟨x, rfl, (Option.some.inj h).symm⟩
theorem take_len_flat {gs : List (List Int)} {p : Nat} {g : List Int} (h : gs[p]? = some g) {j : Nat} (hj : j < g.length) : (gs.take p).flatten.length + j < gs.flatten.length := by
  have hp := (List.getElem?_eq_some_iff.mp h)
  obtain ⟨hp, e⟩ := hp
  have h1 : gs.flatten.length = (gs.take p).flatten.length + (gs.drop p).flatten.length := by
    rw [← List.length_append, ← List.flatten_append, List.take_append_drop]
  have h2 : gs.drop p = g :: gs.drop (p + 1) := by rw [List.drop_eq_getElem_cons hp, e]
  rw [h1, h2, List.flatten_cons, List.length_append]
  omega
theorem h_label_table (ds : List D) (Q' : S → Prop) (h : sp_label_table ds Q') : t_label_table (DEnds.of Q') (startD 8 ds) := by
  obtain ⟨labels, gs, weights, rfl, I, k⟩ := h
  let doneAt (p j : Nat) (q : Nat) : List Int := if q < p then gs.getD q [] else if q = p then (gs.getD p []).take j else []
  let st (a b c e : Option S) (t : List (List Key × D)) : Dl := [fz (.dk labels), fz (grsD gs), fz (.dk weights), ow (.dt t), a, b, c, e]
  refine ⟨_, rfl, fun p δ => ∃ a b c e t, δ = st a b c e t ∧ LabTab (labOf labels) (intOf weights) (doneAt p 0) t ∧ t.length ≤ (gs.take p).flatten.length, ⟨_, _, _, _, _, rfl, ?_, Nat.le_refl _⟩, ?_, ?_⟩
  · exact LabTab.nil.congr fun q => by simp [doneAt]
  · rintro p d _ hd ⟨a, b, c, e, t, rfl, T, hl⟩
    obtain ⟨x, hx, rfl⟩ := en_get hd
    obtain ⟨g, hg, rfl⟩ := map_get hx
    refine ⟨_, rfl, rfl, _, _, rfl, _, _, rfl, rfl, ?_⟩
    have hgp : gs.getD p [] = g := by rw [List.getD_eq_getElem?_getD, hg]; rfl
    have hgm : g ∈ gs := List.mem_of_getElem? hg
    refine ⟨_, rfl, fun j δ => ∃ c e t, δ = st (fz (.int p)) (fz (grD g)) c e t ∧ LabTab (labOf labels) (intOf weights) (doneAt p j) t ∧ t.length ≤ (gs.take p).flatten.length + j, ⟨_, _, _, rfl, T, hl⟩, ?_, ?_⟩
    · rintro j d _ hd2 ⟨c, e, t, rfl, T, hl⟩
      obtain ⟨r, hr, rfl⟩ := map_get hd2
      have hrm : r ∈ g := List.mem_of_getElem? hr
      have hj : j < g.length := (List.getElem?_eq_some_iff.mp hr).1
      have hstep : ∀ q, doneAt p (j + 1) q = if q = p then doneAt p j p ++ [r] else doneAt p j q := fun q => by
        by_cases e : q = p
        · subst e
          simp only [doneAt, Nat.lt_irrefl, if_false, if_true, hgp]
          rw [List.take_add_one, hr]; rfl
        · simp [doneAt, e]
      refine ⟨_, rfl, ⟨.inl r, rfl, _, rfl, ifb (fun e1 => ?_) (fun e1 => ?_)⟩⟩
      · have e1 : (valG labels (.inl r)).isSome = true := e1
        obtain ⟨d0, hd0⟩ := Option.isSome_iff_exists.mp e1
        obtain ⟨z, rfl⟩ := I.lab _ _ hd0
        obtain ⟨w, hw⟩ := I.wt g hgm r hrm e1
        have hlab : labOf labels r = some z := by unfold labOf; rw [hd0]
        have hint : intOf weights r = w := by unfold intOf; rw [hw]
        have hov : ∃ old, (valG t (labK z p)).getD (.int 0) = .int old := by
          rw [T.val z p]
          split
          · exact ⟨0, rfl⟩
          · exact ⟨_, rfl⟩
        obtain ⟨old, hold⟩ := hov
        refine ⟨_, rfl, .inl r, _, rfl, hd0, (by show 2 ≤ sizeLine; decide), ?_⟩
        refine ⟨⟨_, rfl, .inr ⟨_, rfl⟩⟩, _, _, rfl, DLook.t (k := labK z p) rfl, ?_⟩
        show d2V gIx (dVV 2) (dVar 6) (st (fz (.int p)) (fz (grD g)) (fz (.int r)) (fz (.tup [.str z, .int p])) t) (fun δ2 y => gAdd ((valG t (labK z p)).getD (.int 0)) y fun d => gSet 3 (dVar 7) d δ2 _)
        rw [hold]
        refine ⟨_, rfl, .inl r, _, rfl, hw, ⟨⟨_, rfl⟩, labK z p, rfl, ?_, _, _, _, rfl, ?_, ?_⟩⟩
        · have := take_len_flat hg hj
          have h2 := I.sz
          have h3 := sizeLine_eq
          omega
        · rw [← hint]
          exact T.step hlab hstep old hold
        · have := len_put t (labK z p) (.int (old + w))
          omega
      · have e1 : (valG labels (.inl r)).isSome = false := e1
        have hlab : labOf labels r = none := by
          unfold labOf
          cases h : valG labels (.inl r) with
          | none => rfl
          | some x => rw [h] at e1; cases e1
        exact ⟨_, _, _, rfl, T.skip hlab hstep, by omega⟩
    · rintro _ ⟨c, e, t, rfl, T, hl⟩
      refine ⟨_, _, _, _, _, rfl, T.congr fun q => ?_, ?_⟩
      · by_cases h1 : q < p
        · simp [doneAt, h1, Nat.lt_succ_of_lt h1]
        · by_cases h2 : q = p
          · subst h2; simp [doneAt, hg]
          · have : ¬ q < p + 1 := by omega
            simp [doneAt, h1, h2, this]
      · rw [List.length_map] at hl
        have : gs.take (p + 1) = gs.take p ++ [g] := by rw [List.take_add_one, hg]; rfl
        rw [this, List.flatten_append, List.length_append]
        simpa using hl
  · rintro _ ⟨a, b, c, e, t, rfl, T, hl⟩
    have hlen : ((List.range (gs.map grD).length).zip (gs.map grD) |>.map fun ix => D.tup [.int (ix.1 : Nat), ix.2]).length = gs.length := by simp
    rw [hlen] at T
    refine k t (T.congr fun q => ?_)
    by_cases h1 : q < gs.length
    · simp [doneAt, h1]
    · simp only [doneAt, h1, if_false]
      have h3 : gs.getD q [] = [] := by rw [List.getD_eq_getElem?_getD, List.getElem?_eq_none (by omega)]; rfl
      rw [h3]
      split <;> simp
end Mv

namespace Mv
open PySem PySem.Spec PyProof.Rows L2
/-! ### how long a repr may be -/
theorem textFrom_le : ∀ (ts : List Str) (k : Nat) (acc : Str), (textFrom k acc ts).length ≤ acc.length + piled ts
  | [], _, acc => by simp [textFrom, piled]
  | t :: ts, k, acc => by
    have ih := textFrom_le ts (k + 1) (acc ++ (if k > 0 then ", " else "" : String) ++ t)
    rw [textFrom, piled_cons]
    have e1 : (((if k > 0 then ", " else "" : String) : Str)).length ≤ 2 := by split <;> decide +kernel
    rw [strLen_append, strLen_append] at ih
    omega
theorem listText_le (ts : List Str) : (listText ts).length ≤ piled ts + 2 := by
  unfold listText
  rw [strLen_append]
  have h := textFrom_le ts 0 "["
  have e1 : ((("[" : String) : Str)).length = 1 := by decide +kernel
  have e2 : ((("]" : String) : Str)).length = 1 := by decide +kernel
  rw [e1] at h
  rw [e2]
  omega
theorem join_le (ts : List Str) : (Str.join ", " ts).length ≤ piled ts := by
  by_cases h : ts = []
  · subst h; exact Nat.zero_le _
  · have := join_length_add ts h; omega
theorem tupleText_le (ts : List Str) : (tupleText ts).length ≤ piled ts + 3 := by
  unfold tupleText
  rw [strLen_append, strLen_append]
  have h := join_le ts
  have e1 : ((("(" : String) : Str)).length = 1 := by decide +kernel
  have e3 : (((if ts.length == 1 then ",)" else ")" : String) : Str)).length ≤ 2 := by split <;> decide +kernel
  rw [e1]
  omega
theorem dictText_le (ts : List Str) : (dictText ts).length ≤ piled ts + 2 := by
  unfold dictText
  rw [strLen_append, strLen_append]
  have h := join_le ts
  have e1 : ((("{" : String) : Str)).length = 1 := by decide +kernel
  have e3 : ((("}" : String) : Str)).length = 1 := by decide +kernel
  rw [e1, e3]
  omega
/-- shown as plain data: of depth n, in b signs at most -/
structure ShP (n b : Nat) (p : PyData) : Prop where
  sh : p.showable = true
  dp : p.depth ≤ n
  sz : p.shown.length ≤ b
def Sh (n b : Nat) (d : D) : Prop := ∃ p, toP d = some p ∧ ShP n b p
theorem ShP.mono {n b n' b' : Nat} {p : PyData} (h : ShP n b p) (h1 : n ≤ n') (h2 : b ≤ b') : ShP n' b' p := ⟨h.sh, Nat.le_trans h.dp h1, Nat.le_trans h.sz h2⟩
theorem Sh.mono {n b n' b' : Nat} {p : D} (h : Sh n b p) (h1 : n ≤ n') (h2 : b ≤ b') : Sh n' b' p := let ⟨q, e, r⟩ := h; ⟨q, e, r.mono h1 h2⟩
theorem ShP.all {n b : Nat} : ∀ {ps : List PyData}, (∀ p ∈ ps, ShP n b p) → PyData.showableAll ps = true ∧ PyData.depthAll ps ≤ n ∧ piled (PyData.shownAll ps) ≤ ps.length * (b + 2)
  | [], _ => ⟨by simp [PyData.showableAll], by simp [PyData.depthAll], by simp [PyData.shownAll, piled]⟩
  | p :: ps, h => by
    obtain ⟨a1, a2, a3⟩ := h p (by simp)
    obtain ⟨b1, b2, b3⟩ := ShP.all (ps := ps) fun q hq => h q (by simp [hq])
    refine ⟨by simp [PyData.showableAll, a1, b1], by simp only [PyData.depthAll]; omega, ?_⟩
    rw [PyData.shownAll, piled_cons, List.length_cons, Nat.succ_mul]
    omega
theorem ShP.lst {n b m : Nat} {ps : List PyData} (h : ∀ p ∈ ps, ShP n b p) (hm : ps.length ≤ m) : ShP (n + 1) (m * (b + 2) + 2) (.list ps) := by
  obtain ⟨a1, a2, a3⟩ := ShP.all h
  refine ⟨by simpa [PyData.showable] using a1, by simp only [PyData.depth]; omega, ?_⟩
  have := listText_le (PyData.shownAll ps)
  have h2 : ps.length * (b + 2) ≤ m * (b + 2) := Nat.mul_le_mul_right _ hm
  simp only [PyData.shown]
  omega
theorem ShP.tup {n b m : Nat} {ps : List PyData} (h : ∀ p ∈ ps, ShP n b p) (hm : ps.length ≤ m) : ShP (n + 1) (m * (b + 2) + 3) (.tuple ps) := by
  obtain ⟨a1, a2, a3⟩ := ShP.all h
  refine ⟨by simpa [PyData.showable] using a1, by simp only [PyData.depth]; omega, ?_⟩
  have := tupleText_le (PyData.shownAll ps)
  have h2 : ps.length * (b + 2) ≤ m * (b + 2) := Nat.mul_le_mul_right _ hm
  simp only [PyData.shown]
  omega
theorem ShP.kvs {n bk b : Nat} : ∀ {ps : List (PyData × PyData)}, (∀ p ∈ ps, ShP n bk p.1 ∧ ShP n b p.2) → PyData.showableKv ps = true ∧ PyData.depthKv ps ≤ n ∧ piled (PyData.shownKv ps) ≤ ps.length * (bk + b + 4)
  | [], _ => ⟨by simp [PyData.showableKv], by simp [PyData.depthKv], by simp [PyData.shownKv, piled]⟩
  | (k, v) :: ps, h => by
    obtain ⟨⟨k1, k2, k3⟩, ⟨a1, a2, a3⟩⟩ := h (k, v) (by simp)
    obtain ⟨b1, b2, b3⟩ := ShP.kvs (ps := ps) fun q hq => h q (by simp [hq])
    simp only at k1 k2 k3 a1 a2 a3
    refine ⟨by simp [PyData.showableKv, a1, b1, k1], by simp only [PyData.depthKv]; omega, ?_⟩
    rw [PyData.shownKv, piled_cons, List.length_cons, Nat.succ_mul, strLen_append, strLen_append]
    have e : (((": " : String) : Str)).length = 2 := by decide +kernel
    rw [e]
    omega
theorem ShP.dict {n bk b m : Nat} {ps : List (PyData × PyData)} (h : ∀ p ∈ ps, ShP n bk p.1 ∧ ShP n b p.2) (hm : ps.length ≤ m) : ShP (n + 1) (m * (bk + b + 4) + 2) (.dict ps) := by
  obtain ⟨a1, a2, a3⟩ := ShP.kvs h
  refine ⟨by simpa [PyData.showable] using a1, by simp only [PyData.depth]; omega, ?_⟩
  have := dictText_le (PyData.shownKv ps)
  have h2 : ps.length * (bk + b + 4) ≤ m * (bk + b + 4) := Nat.mul_le_mul_right _ hm
  simp only [PyData.shown]
  omega
theorem ShP.int {i : Int} {k : Nat} (hk : 0 < k) (hk2 : k ≤ 480) (h : i.natAbs < 10 ^ k) : ShP 0 (k + 1) (.int i) := by
  refine ⟨?_, Nat.zero_le _, ?_⟩
  · simp only [PyData.showable, decide_eq_true_eq]
    by_cases e : i.natAbs = 0
    · rw [e]; decide
    · refine (Nat.log2_lt e).mpr (Nat.lt_of_lt_of_le h ?_)
      have h1 : (10 : Nat) ^ k ≤ 16 ^ k := Nat.pow_le_pow_left (by decide) k
      have h2 : (16 : Nat) ^ k = 2 ^ (4 * k) := by rw [Nat.pow_mul]
      have h3 : (2 : Nat) ^ (4 * k) ≤ 2 ^ 1920 := Nat.pow_le_pow_right (by decide) (by omega)
      exact Nat.le_trans h1 (h2 ▸ h3)
  · have := int_text_length_le10 hk h
    rw [← PySem.ofString_length] at this
    exact this
theorem ShP.str {z : Str} (h : PyData.strOk z = true) : ShP 0 (10 * z.length + 2) (.str z) := by
  refine ⟨by simp [PyData.showable], Nat.zero_le _, ?_⟩
  simp only [PyData.shown]
  refine PySem.StrLaws.reprText_len z fun c hc => ?_
  unfold PyData.strOk at h
  rw [← Array.all_toList, List.all_eq_true] at h
  have h1 := h c hc
  have h2 : c < 0x110000 := of_decide_eq_true h1
  exact Nat.lt_trans h2 (by decide)
theorem Sh.int {i : Int} {k : Nat} (hk : 0 < k) (hk2 : k ≤ 480) (h : i.natAbs < 10 ^ k) : Sh 0 (k + 1) (.int i) := ⟨_, rfl, .int hk hk2 h⟩
theorem Sh.str {z : Str} (h : PyData.strOk z = true) {m : Nat} (hm : z.length ≤ m) : Sh 0 (10 * m + 2) (.str z) := ⟨_, rfl, (ShP.str h).mono (Nat.le_refl _) (by omega)⟩
theorem Sh.bl (b : Bool) : Sh 0 5 (.bl b) := ⟨_, rfl, by simp [PyData.showable], Nat.zero_le _, by cases b <;> decide +kernel⟩
theorem Sh.non : Sh 0 4 .non := ⟨_, rfl, by simp [PyData.showable], Nat.zero_le _, by decide +kernel⟩
theorem Sh.list {n b : Nat} : ∀ {xs : List D}, (∀ x ∈ xs, Sh n b x) → ∃ ps, toPs xs = some ps ∧ (∀ p ∈ ps, ShP n b p) ∧ ps.length = xs.length
  | [], _ => ⟨[], rfl, (fun _ h => nomatch h), rfl⟩
  | x :: xs, h => by
    obtain ⟨p, e, hp⟩ := h x (by simp)
    obtain ⟨ps, e2, h2, l⟩ := Sh.list (xs := xs) fun y hy => h y (by simp [hy])
    refine ⟨p :: ps, by simp [toPs, e, e2], fun q hq => ?_, by simp [l]⟩
    rcases List.mem_cons.mp hq with rfl | hq
    · exact hp
    · exact h2 q hq
theorem Sh.lst {n b m : Nat} {xs : List D} (h : ∀ x ∈ xs, Sh n b x) (hm : xs.length ≤ m) : Sh (n + 1) (m * (b + 2) + 2) (.lst xs) := by
  obtain ⟨ps, e, h2, l⟩ := Sh.list h
  exact ⟨.list ps, by simp [toP, e], .lst h2 (by omega)⟩
theorem Sh.tup {n b m : Nat} {xs : List D} (h : ∀ x ∈ xs, Sh n b x) (hm : xs.length ≤ m) : Sh (n + 1) (m * (b + 2) + 3) (.tup xs) := by
  obtain ⟨ps, e, h2, l⟩ := Sh.list h
  exact ⟨.tuple ps, by simp [toP, e], .tup h2 (by omega)⟩
theorem Sh.dk {n bk b m : Nat} {kvs : List (Key × D)} (hk : ∀ q ∈ kvs, ShP n bk (keyP q.1)) (h : ∀ q ∈ kvs, Sh n b q.2) (hm : kvs.length ≤ m) : Sh (n + 1) (m * (bk + b + 4) + 2) (.dk kvs) := by
  have : ∃ ps, toPk kvs = some ps ∧ (∀ p ∈ ps, ShP n bk p.1 ∧ ShP n b p.2) ∧ ps.length = kvs.length := by
    clear hm
    induction kvs with
    | nil => exact ⟨[], rfl, (fun _ h => nomatch h), rfl⟩
    | cons q kvs ih =>
      obtain ⟨k, d⟩ := q
      obtain ⟨p, e, hp⟩ := h (k, d) (by simp)
      obtain ⟨ps, e2, h2, l⟩ := ih (fun q hq => hk q (by simp [hq])) (fun q hq => h q (by simp [hq]))
      have hk1 := hk (k, d) (by simp)
      simp only at e hk1
      refine ⟨(keyP k, p) :: ps, by simp [toPk, e, e2], fun r hr => ?_, by simp [l]⟩
      rcases List.mem_cons.mp hr with rfl | hr
      · exact ⟨hk1, hp⟩
      · exact h2 r hr
  obtain ⟨ps, e, h2, l⟩ := this
  exact ⟨.dict ps, by simp [toP, e], .dict h2 (by omega)⟩
theorem Sh.dt {n bk b m : Nat} {kvs : List (List Key × D)} (hk : ∀ q ∈ kvs, ShP n bk (.tuple (q.1.map keyP))) (h : ∀ q ∈ kvs, Sh n b q.2) (hm : kvs.length ≤ m) : Sh (n + 1) (m * (bk + b + 4) + 2) (.dt kvs) := by
  have : ∃ ps, toPt kvs = some ps ∧ (∀ p ∈ ps, ShP n bk p.1 ∧ ShP n b p.2) ∧ ps.length = kvs.length := by
    clear hm
    induction kvs with
    | nil => exact ⟨[], rfl, (fun _ h => nomatch h), rfl⟩
    | cons q kvs ih =>
      obtain ⟨k, d⟩ := q
      obtain ⟨p, e, hp⟩ := h (k, d) (by simp)
      obtain ⟨ps, e2, h2, l⟩ := ih (fun q hq => hk q (by simp [hq])) (fun q hq => h q (by simp [hq]))
      have hk1 := hk (k, d) (by simp)
      simp only at e hk1
      refine ⟨(.tuple (k.map keyP), p) :: ps, by simp [toPt, e, e2], fun r hr => ?_, by simp [l]⟩
      rcases List.mem_cons.mp hr with rfl | hr
      · exact ⟨hk1, hp⟩
      · exact h2 r hr
  obtain ⟨ps, e, h2, l⟩ := this
  exact ⟨.dict ps, by simp [toP, e], .dict h2 (by omega)⟩
theorem Sh.repr {n b : Nat} {d : D} (h : Sh n b d) (hn : n ≤ 60) (hb : b ≤ 16777216) : ∃ p, toP d = some p ∧ ReprOk p := let ⟨p, e, r⟩ := h; ⟨p, e, r.sh, Nat.le_trans r.dp hn, Nat.le_trans r.sz (size_ok hb)⟩
end Mv

namespace Mv
open PySem PySem.Spec PyProof.Rows L2
/-! ### dicts whose keys are of one kind, and whose values are -/
section
variable {κ α : Type} [DecidableEq κ] {f : κ → Key} {g : α → D}
def tyK (f : κ → Key) (g : α → D) (t : List (κ × α)) : List (Key × D) := t.map fun q => (f q.1, g q.2)
theorem tyK_len (t : List (κ × α)) : (tyK f g t).length = t.length := by unfold tyK; simp
theorem tyK_keys (t : List (κ × α)) : keysG (tyK f g t) = (keysG t).map f := by unfold tyK keysG; simp
theorem tyK_nodup (hf : ∀ a b, f a = f b → a = b) {t : List (κ × α)} (h : (keysG t).Nodup) : (keysG (tyK f g t)).Nodup := by
  rw [tyK_keys]
  exact List.Pairwise.map f (fun a b ne e => ne (hf a b e)) h
theorem tyK_val (hf : ∀ a b, f a = f b → a = b) (t : List (κ × α)) (k : κ) : valG (tyK f g t) (f k) = (valG t k).map g := by
  induction t with
  | nil => rfl
  | cons q t ih =>
    show valG ((f q.1, g q.2) :: tyK f g t) (f k) = _
    rw [valG_cons, valG_cons, ih]
    by_cases e : q.1 = k
    · simp [e]
    · rw [if_neg e, if_neg (fun z => e (hf _ _ z))]
theorem tyK_mem (hf : ∀ a b, f a = f b → a = b) {t : List (κ × α)} {k : κ} : f k ∈ keysG (tyK f g t) ↔ k ∈ keysG t := by
  rw [tyK_keys, List.mem_map]
  exact ⟨fun ⟨a, h, e⟩ => hf _ _ e ▸ h, fun h => ⟨k, h, rfl⟩⟩
theorem tyK_put (hf : ∀ a b, f a = f b → a = b) (t : List (κ × α)) (k : κ) (v : α) : putG (tyK f g t) (f k) (g v) = tyK f g (putG t k v) := by
  by_cases h : k ∈ keysG t
  · rw [putG_map h, putG_map ((tyK_mem hf).mpr h)]
    unfold tyK
    rw [List.map_map, List.map_map]
    refine List.map_congr_left fun q _ => ?_
    simp only [Function.comp]
    by_cases e : q.1 = k
    · rw [if_pos e, if_pos (congrArg f e)]
    · rw [if_neg e, if_neg (fun z => e (hf _ _ z))]
  · rw [putG_app h, putG_app (fun z => h ((tyK_mem hf).mp z))]
    simp [tyK]
theorem tyK_get {t : List (κ × α)} {i : Nat} {q : Key × D} (h : (tyK f g t)[i]? = some q) : ∃ k v, t[i]? = some (k, v) ∧ q = (f k, g v) := by
  obtain ⟨x, hx, e⟩ := map_get h
  exact ⟨x.1, x.2, hx, e⟩
/-- one value for many keys -/
def putAll (acc : List (κ × α)) (ks : List κ) (v : α) : List (κ × α) := ks.foldl (fun a k => putG a k v) acc
theorem putAll_snoc (acc : List (κ × α)) (ks : List κ) (k : κ) (v : α) : putAll acc (ks ++ [k]) v = putG (putAll acc ks v) k v := by simp [putAll, List.foldl_append]
theorem putAll_nodup {acc : List (κ × α)} (h : (keysG acc).Nodup) (ks : List κ) (v : α) : (keysG (putAll acc ks v)).Nodup := by
  unfold putAll
  induction ks generalizing acc with
  | nil => exact h
  | cons k ks ih => exact ih (nodup_put h k v)
theorem putAll_len (acc : List (κ × α)) (ks : List κ) (v : α) : (putAll acc ks v).length ≤ acc.length + ks.length := by
  unfold putAll
  induction ks generalizing acc with
  | nil => simp
  | cons k ks ih =>
    rw [List.foldl_cons, List.length_cons]
    have := ih (acc := putG acc k v)
    have h2 := len_put acc k v
    omega
theorem putAll_val (acc : List (κ × α)) (ks : List κ) (v : α) (k : κ) : valG (putAll acc ks v) k = if k ∈ ks then some v else valG acc k := by
  unfold putAll
  induction ks generalizing acc with
  | nil => simp
  | cons a ks ih =>
    rw [List.foldl_cons, ih, val_put]
    by_cases h : k ∈ ks
    · simp [h]
    · by_cases e : k = a
      · simp [e]
      · simp [h, e]
end
theorem inl_inj {a b : Int} (h : (Sum.inl a : Key) = .inl b) : a = b := by injection h
theorem inr_inj {a b : Str} (h : (Sum.inr a : Key) = .inr b) : a = b := by injection h
/-- names to places, ids to labels, ids to places, names to ids, ids to weights -/
abbrev snD (t : List (Str × Nat)) : List (Key × D) := tyK Sum.inr (fun p : Nat => D.int p) t
abbrev isD (t : List (Int × Str)) : List (Key × D) := tyK Sum.inl D.str t
abbrev inD (t : List (Int × Nat)) : List (Key × D) := tyK Sum.inl (fun p : Nat => D.int p) t
abbrev siD (t : List (Str × Int)) : List (Key × D) := tyK Sum.inr D.int t
abbrev iiD (t : List (Int × Int)) : List (Key × D) := tyK Sum.inl D.int t
/-! ### labels_of, places_of -/
def t_labels_of : DS :=
 (dRetO (dDc (.dk []) (dIIt (dVar 1)) (gTp 2 (gsCons (gN 2) (gsCons (gN 3) gsNil))) dYes (dInner (dIT (d2V gIx (dVV 0) (dVar 3))) (gN 4) dYes (dPutB (dVar 4) (dVar 2)) [4]) [2, 3, 4]))
def t_places_of : DS :=
 (dRetO (dDc (.dk []) (dIEn (dCons (dVar 0) dNil)) (gTp 2 (gsCons (gN 1) (gsCons (gN 2) gsNil))) dYes (dInner (dIT (dVar 2)) (gN 3) dYes (dPutB (dVar 3) (dVar 1)) [3]) [1, 2, 3]))
def labelsF (gs : List (List Int)) (nm : List (Str × Nat)) : List (Int × Str) := nm.foldl (fun a q => putAll a (gs.getD q.2 []) q.1) []
def placesF (gs : List (List Int)) : List (Int × Nat) := ((List.range gs.length).zip gs).foldl (fun a q => putAll a q.2 q.1) []
def sp_labels_of : DSp := fun ds Q => ∃ gs nm, ds = [grsD gs, .dk (snD nm)] ∧ (∀ q ∈ nm, q.2 < gs.length) ∧ nm.length ≤ 1000 ∧ (∀ g ∈ gs, g.length ≤ 1000) ∧ Q (.own (.dk (isD (labelsF gs nm))))
theorem labelsF_len {gs : List (List Int)} (h : ∀ g ∈ gs, g.length ≤ 1000) : ∀ nm : List (Str × Nat), (labelsF gs nm).length ≤ nm.length * 1000 := by
  have key : ∀ (nm : List (Str × Nat)) (acc : List (Int × Str)), (nm.foldl (fun a q => putAll a (gs.getD q.2 []) q.1) acc).length ≤ acc.length + nm.length * 1000 := by
    intro nm
    induction nm with
    | nil => intro acc; simp
    | cons q nm ih =>
      intro acc
      rw [List.foldl_cons, List.length_cons]
      have h1 := ih (putAll acc (gs.getD q.2 []) q.1)
      have h2 := putAll_len acc (gs.getD q.2 []) q.1
      have h3 : (gs.getD q.2 []).length ≤ 1000 := by
        rw [List.getD_eq_getElem?_getD]
        cases e : gs[q.2]? with
        | none => simp
        | some g => exact h g (List.mem_of_getElem? e)
      omega
  intro nm
  have := key nm []
  simpa [labelsF] using this
theorem h_labels_of (ds : List D) (Q' : S → Prop) (h : sp_labels_of ds Q') : t_labels_of (DEnds.of Q') (startD 5 ds) := by
  obtain ⟨gs, nm, rfl, hp, hn, hg, k⟩ := h
  refine ⟨_, rfl, by rw [List.length_map, tyK_len]; exact size_ok (by omega), fun i δ acc => δ = [fz (grsD gs), fz (.dk (snD nm)), none, none, none] ∧ acc = .dk (isD (labelsF gs (nm.take i))), ⟨rfl, rfl⟩, ?_, ?_⟩
  · rintro i d _ acc hd ⟨rfl, rfl⟩
    obtain ⟨q, hq, rfl⟩ := map_get hd
    obtain ⟨z, p, hzp, rfl⟩ := tyK_get hq
    have hlt := hp _ (List.mem_of_getElem? hzp)
    have hgp : gs[p]? = some gs[p] := List.getElem?_eq_getElem hlt
    have hl := hg _ (List.getElem_mem hlt)
    generalize gs[p] = g at hgp hl
    have hat : atI (gs.map grD) (p : Int) = some (grD g) := atI_nat (j := p) (by rw [List.getElem?_map, hgp]; rfl)
    have ht : nm.take (i + 1) = nm.take i ++ [(z, p)] := by rw [List.take_add_one, hzp]; rfl
    have hL : labelsF gs (nm.take (i + 1)) = putAll (labelsF gs (nm.take i)) g z := by
      rw [ht]
      unfold labelsF
      rw [List.foldl_append]
      simp [List.getD_eq_getElem?_getD, hgp]
    have hz := labelsF_len hg (nm.take i)
    have hi : (nm.take i).length ≤ 1000 := by rw [List.length_take]; omega
    generalize labelsF gs (nm.take i) = t0 at hL hz
    refine ⟨_, rfl, rfl, _, _, rfl, _, _, rfl, rfl, _, rfl, _, hat, _, rfl, by rw [List.length_map]; exact size_ok (by omega), fun j δ acc => δ = [fz (grsD gs), fz (.dk (snD nm)), fz (.str z), fz (.int p), none] ∧ acc = .dk (isD (putAll t0 (g.take j) z)), ⟨rfl, rfl⟩, ?_, ?_⟩
    · rintro j d _ acc hd ⟨rfl, rfl⟩
      obtain ⟨r, hr, rfl⟩ := map_get hd
      have hr2 : g.take (j + 1) = g.take j ++ [r] := by rw [List.take_add_one, hr]; rfl
      have h2 := putAll_len t0 (g.take j) z
      have h3 : (g.take j).length ≤ 1000 := by rw [List.length_take]; omega
      refine ⟨.inl r, rfl, ?_, rfl, ?_⟩
      · rw [tyK_len]
        have : (sizeLine : Nat) = 16777216 := sizeLine_eq
        omega
      · rw [hr2, putAll_snoc]
        exact congrArg O.dk (tyK_put (fun a b => inl_inj) _ r z)
    · rintro _ acc ⟨rfl, rfl⟩
      refine ⟨rfl, ?_⟩
      rw [List.length_map, List.take_length, hL]
  · rintro _ acc ⟨rfl, rfl⟩
    rw [List.length_map, tyK_len, List.take_length]
    exact k
theorem enum_snoc {α : Type} {gs : List α} {p : Nat} {g : α} (h : gs[p]? = some g) : ((List.range gs.length).zip gs).take (p + 1) = ((List.range gs.length).zip gs).take p ++ [(p, g)] := by
  have hp := (List.getElem?_eq_some_iff.mp h)
  obtain ⟨hp, e⟩ := hp
  rw [List.take_add_one]
  congr 1
  rw [List.getElem?_eq_getElem (by simpa using hp)]
  simp [e]
def sp_places_of : DSp := fun ds Q => ∃ gs, ds = [grsD gs] ∧ gs.length ≤ 1000 ∧ (∀ g ∈ gs, g.length ≤ 1000) ∧ Q (.own (.dk (inD (placesF gs))))
def placesTo (gs : List (List Int)) (i : Nat) : List (Int × Nat) := (((List.range gs.length).zip gs).take i).foldl (fun a q => putAll a q.2 q.1) []
theorem placesTo_succ {gs : List (List Int)} {p : Nat} {g : List Int} (h : gs[p]? = some g) : placesTo gs (p + 1) = putAll (placesTo gs p) g p := by
  unfold placesTo
  rw [enum_snoc h, List.foldl_append]
  rfl
theorem placesTo_len {gs : List (List Int)} (h : ∀ g ∈ gs, g.length ≤ 1000) : ∀ i, (placesTo gs i).length ≤ i * 1000
  | 0 => by simp [placesTo]
  | i + 1 => by
    have ih := placesTo_len h i
    cases e : gs[i]? with
    | some g =>
      rw [placesTo_succ e]
      have h2 := putAll_len (placesTo gs i) g i
      have h3 := h g (List.mem_of_getElem? e)
      omega
    | none =>
      have hl : gs.length ≤ i := List.getElem?_eq_none_iff.mp e
      have : placesTo gs (i + 1) = placesTo gs i := by
        unfold placesTo
        rw [List.take_of_length_le (by simp; omega), List.take_of_length_le (by simp; omega)]
      rw [this]; omega
theorem placesTo_all (gs : List (List Int)) : placesTo gs gs.length = placesF gs := by
  unfold placesTo placesF
  rw [List.take_of_length_le (by simp)]
theorem h_places_of (ds : List D) (Q' : S → Prop) (h : sp_places_of ds Q') : t_places_of (DEnds.of Q') (startD 4 ds) := by
  obtain ⟨gs, rfl, hn, hg, k⟩ := h
  refine ⟨_, rfl, by simp; exact size_ok (by omega), fun i δ acc => δ = [fz (grsD gs), none, none, none] ∧ acc = .dk (inD (placesTo gs i)), ⟨rfl, rfl⟩, ?_, ?_⟩
  · rintro p d _ acc hd ⟨rfl, rfl⟩
    obtain ⟨x, hx, rfl⟩ := en_get hd
    obtain ⟨g, hgp, rfl⟩ := map_get hx
    have hp : p < gs.length := (List.getElem?_eq_some_iff.mp hgp).1
    have hl := hg _ (List.mem_of_getElem? hgp)
    have hL := placesTo_succ hgp
    have hz := placesTo_len hg p
    generalize placesTo gs p = t0 at hL hz
    refine ⟨_, rfl, rfl, _, _, rfl, _, _, rfl, rfl, _, rfl, by rw [List.length_map]; exact size_ok (by omega), fun j δ acc => δ = [fz (grsD gs), fz (.int p), fz (grD g), none] ∧ acc = .dk (inD (putAll t0 (g.take j) p)), ⟨rfl, rfl⟩, ?_, ?_⟩
    · rintro j d _ acc hd ⟨rfl, rfl⟩
      obtain ⟨r, hr, rfl⟩ := map_get hd
      have hr2 : g.take (j + 1) = g.take j ++ [r] := by rw [List.take_add_one, hr]; rfl
      have h2 := putAll_len t0 (g.take j) p
      have h3 : (g.take j).length ≤ 1000 := by rw [List.length_take]; omega
      refine ⟨.inl r, rfl, ?_, rfl, ?_⟩
      · rw [tyK_len]
        have : (sizeLine : Nat) = 16777216 := sizeLine_eq
        omega
      · rw [hr2, putAll_snoc]
        exact congrArg O.dk (tyK_put (g := fun p : Nat => D.int p) (fun a b => inl_inj) _ r p)
    · rintro _ acc ⟨rfl, rfl⟩
      refine ⟨rfl, ?_⟩
      rw [List.length_map, List.take_length, hL]
  · rintro _ acc ⟨rfl, rfl⟩
    have e : ((List.range (gs.map grD).length).zip (gs.map grD) |>.map fun ix => D.tup [.int (ix.1 : Nat), ix.2]).length = gs.length := by simp
    rw [e, placesTo_all]
    exact k
/-! ### where an id is -/
theorem places_val {gs : List (List Int)} (nd : gs.flatten.Nodup) (i : Nat) : ∀ r, valG (placesTo gs i) r = ((gs.take i).findIdx? fun g => decide (r ∈ g)) := by
  intro r
  induction i with
  | zero => simp [placesTo, valG_nil]
  | succ i ih =>
    cases e : gs[i]? with
    | none =>
      have hl : gs.length ≤ i := List.getElem?_eq_none_iff.mp e
      have h1 : placesTo gs (i + 1) = placesTo gs i := by
        unfold placesTo
        rw [List.take_of_length_le (by simp; omega), List.take_of_length_le (by simp; omega)]
      have h2 : gs.take (i + 1) = gs.take i := by rw [List.take_of_length_le (by omega), List.take_of_length_le (by omega)]
      rw [h1, h2, ih]
    | some g =>
      have hi : i < gs.length := (List.getElem?_eq_some_iff.mp e).1
      have ht : gs.take (i + 1) = gs.take i ++ [g] := by rw [List.take_add_one, e]; rfl
      rw [placesTo_succ e, putAll_val, ht, List.findIdx?_append, ih]
      by_cases hr : r ∈ g
      · have hno : (gs.take i).findIdx? (fun g => decide (r ∈ g)) = none := by
          rw [List.findIdx?_eq_none_iff]
          intro g' hg'
          simp only [decide_eq_false_iff_not]
          intro hr'
          have h3 : gs.flatten = (gs.take i).flatten ++ (gs.drop i).flatten := by rw [← List.flatten_append, List.take_append_drop]
          have h4 : gs.drop i = g :: gs.drop (i + 1) := by
            obtain ⟨_, e2⟩ := List.getElem?_eq_some_iff.mp e
            rw [List.drop_eq_getElem_cons hi, e2]
          rw [h3, h4] at nd
          exact (List.nodup_append.mp nd).2.2 r (List.mem_flatten.mpr ⟨g', hg', hr'⟩) r (List.mem_flatten.mpr ⟨g, by simp, hr⟩) rfl
        rw [if_pos hr, hno]
        simp [hr, List.length_take]
        omega
      · rw [if_neg hr]
        simp [hr]
end Mv

namespace Mv
open PySem PySem.Spec PyProof.Rows L2
/-! ### counting_pins -/
def t_counting_pins (sp_places_of : DSp) : DS :=
 (dSeq (dAsg (dCall 1 sp_places_of (dCons (dVar 0) dNil)) (gN 2))
 (dSeq (dAsgO 3 dNewK)
 (dSeq (dAsgO 4 dNewK)
 (dSeq (dFor (dIL (dFrz (d1O gSorted (vCons (dVV 1) vNil)))) (gN 5)
 (dSeq (dAsg (dGet1 (dVV 2) (d2V gIx (dVV 1) (dVar 5))) (gN 6))
 (dIfS (dAnd (dTst (d2 gNotN (dVar 6) (dC .non))) (dTst (d2W (gInB true) (dVar 6) (dVV 4)))) (dSeq (dAsg (dVar 5) (gSet 4 (dVar 6)))
 (dAsg (d2V gIx (dVV 1) (dVar 5)) (gSet 3 (dVar 5)))) dNext)))
 (dRetV 3)))))
def placeF (gs : List (List Int)) (r : Int) : Option Nat := gs.findIdx? fun g => decide (r ∈ g)
def countStep (gs : List (List Int)) (pins : List (Str × Int)) (st : List (Str × Int) × List Nat) (z : Str) : List (Str × Int) × List Nat := match valG pins z with
  | some r => match placeF gs r with
    | some p => if p ∈ st.2 then st else (putG st.1 z r, st.2 ++ [p])
    | none => st
  | none => st
def countTo (gs : List (List Int)) (pins : List (Str × Int)) (zs : List Str) : List (Str × Int) × List Nat := zs.foldl (countStep gs pins) ([], [])
def countF (gs : List (List Int)) (pins : List (Str × Int)) : List (Str × Int) := (countTo gs pins ((keysG pins).mergeSort strLe)).1
theorem countTo_snoc (gs : List (List Int)) (pins : List (Str × Int)) (zs : List Str) (z : Str) : countTo gs pins (zs ++ [z]) = countStep gs pins (countTo gs pins zs) z := by unfold countTo; rw [List.foldl_append]; rfl
theorem countStep_len (gs : List (List Int)) (pins : List (Str × Int)) (st : List (Str × Int) × List Nat) (z : Str) : (countStep gs pins st z).1.length ≤ st.1.length + 1 ∧ (countStep gs pins st z).2.length ≤ st.2.length + 1 := by
  unfold countStep
  split
  · split
    · split
      · omega
      · exact ⟨len_put _ _ _, by simp⟩
    · omega
  · omega
theorem countTo_len (gs : List (List Int)) (pins : List (Str × Int)) : ∀ (zs : List Str) (st : List (Str × Int) × List Nat), (zs.foldl (countStep gs pins) st).1.length ≤ st.1.length + zs.length ∧ (zs.foldl (countStep gs pins) st).2.length ≤ st.2.length + zs.length
  | [], st => by simp
  | z :: zs, st => by
    have h1 := countStep_len gs pins st z
    have h2 := countTo_len gs pins zs (countStep gs pins st z)
    rw [List.foldl_cons, List.length_cons]
    omega
structure PinsIn (gs : List (List Int)) (pins : List (Str × Int)) : Prop where
  gl : gs.length ≤ 1000
  gm : ∀ g ∈ gs, g.length ≤ 1000
  nd : gs.flatten.Nodup
  pn : (keysG pins).Nodup
  ps : ∀ z ∈ keysG pins, PyData.strOk z = true
  pl : pins.length ≤ 1000
def sp_counting_pins : DSp := fun ds Q => ∃ gs pins, ds = [grsD gs, .dk (siD pins)] ∧ PinsIn gs pins ∧ Q (.own (.dk (siD (countF gs pins))))
theorem h_counting_pins (ds : List D) (Q' : S → Prop) (h : sp_counting_pins ds Q') : t_counting_pins sp_places_of (DEnds.of Q') (startD 7 ds) := by
  obtain ⟨gs, pins, rfl, I, k⟩ := h
  refine ⟨rfl, gs, rfl, I.gl, I.gm, ?_⟩
  have hks : ((siD pins).map fun kv => keyD kv.1) = (keysG pins).map D.str := by
    show (tyK Sum.inr D.int pins).map _ = _
    unfold tyK keysG
    rw [List.map_map, List.map_map]; rfl
  have hkl : (keysG pins).length ≤ 1000 := by unfold keysG; rw [List.length_map]; exact I.pl
  refine ⟨_, rfl, _, (keysG pins).map D.str, rfl, by rw [← hks]; rfl, sort_strs_ok I.ps (by omega), ?_⟩
  rw [sort_strs]
  have hp := List.mergeSort_perm (keysG pins) strLe
  generalize hzs : (keysG pins).mergeSort strLe = zs at hp
  have hzl : zs.length ≤ 1000 := by rw [hp.length_eq]; exact hkl
  refine ⟨fun i δ => ∃ (a5 a6 : Option S) (tk : List (Nat × Str)), δ = [fz (grsD gs), fz (.dk (siD pins)), fz (.dk (inD (placesF gs))), ow (.dk (siD (countTo gs pins (zs.take i)).1)), ow (.dk (tyK (fun p : Nat => .inl (p : Int)) D.str tk)), a5, a6] ∧ keysG tk = (countTo gs pins (zs.take i)).2, ⟨_, _, [], rfl, rfl⟩, ?_, ?_⟩
  · rintro i d _ hd ⟨a5, a6, tk, rfl, htk⟩
    obtain ⟨z, hz, rfl⟩ := map_get hd
    have ht : zs.take (i + 1) = zs.take i ++ [z] := by rw [List.take_add_one, hz]; rfl
    have hc := countTo_snoc gs pins (zs.take i) z
    rw [← ht] at hc
    have hl := countTo_len gs pins (zs.take i) ([], [])
    have hi : (zs.take i).length ≤ 1000 := by rw [List.length_take]; omega
    have hzm : z ∈ keysG pins := hp.mem_iff.mp (List.mem_of_getElem? hz)
    obtain ⟨r, hr⟩ := Option.isSome_iff_exists.mp (valG_key.mp hzm)
    have hv : valG (siD pins) (.inr z) = some (.int r) := by rw [tyK_val (fun a b => inr_inj), hr]; rfl
    have hpl : valG (inD (placesF gs)) (.inl r) = (placeF gs r).map fun p : Nat => D.int p := by
      rw [tyK_val (fun a b => inl_inj), ← placesTo_all, places_val I.nd, List.take_length]; rfl
    have hst : (countTo gs pins (zs.take i)).1.length ≤ 1000 ∧ (countTo gs pins (zs.take i)).2.length ≤ 1000 := by
      unfold countTo; simp at hl; omega
    generalize countTo gs pins (zs.take i) = st0 at hc hst htk ⊢
    have hsl : (sizeLine : Nat) = 16777216 := sizeLine_eq
    refine ⟨⟨_, rfl, .inl ⟨_, rfl⟩⟩, _, rfl, .inr z, _, rfl, hv, _, _, rfl, DLook.k (k := .inl r) rfl, ?_⟩
    rw [hpl]
    cases hpf : placeF gs r with
    | none =>
      have e : countStep gs pins st0 z = st0 := by simp only [countStep, hr, hpf]
      rw [e] at hc
      refine ⟨_, rfl, ifb (fun e => absurd e (by decide)) (fun _ => ?_)⟩
      exact ⟨_, _, tk, by rw [hc]; rfl, by rw [hc]; exact htk⟩
    | some p =>
      have hin : (valG (tyK (fun p : Nat => (.inl (p : Int) : Key)) D.str tk) (.inl (p : Int))).isSome = decide (p ∈ st0.2) := by
        rw [tyK_val (f := fun p : Nat => (.inl (p : Int) : Key)) (fun a b e => by have := inl_inj e; omega) tk p, Option.isSome_map, ← htk]
        rw [Bool.eq_iff_iff, decide_eq_true_eq]
        exact valG_key.symm
      refine ⟨_, rfl, ifb (fun _ => ?_) (fun e => nomatch (show (true : Bool) = false from e))⟩
      refine ⟨_, rfl, .inl (p : Int), rfl, _, rfl, ifb (fun e => ?_) (fun e => ?_)⟩
      · have e : (!(valG (tyK (fun p : Nat => (.inl (p : Int) : Key)) D.str tk) (.inl (p : Int))).isSome) = true := e
        rw [hin] at e
        have hn : p ∉ st0.2 := by simpa using e
        have ec : countStep gs pins st0 z = (putG st0.1 z r, st0.2 ++ [p]) := by simp only [countStep, hr, hpf]; rw [if_neg hn]
        have hk : p ∉ keysG tk := by rw [htk]; exact hn
        refine ⟨⟨_, rfl⟩, .inl (p : Int), rfl, ?_, _, rfl, .inr z, _, rfl, hv, ⟨_, rfl⟩, .inr z, rfl, ?_, ?_⟩
        · rw [tyK_len]
          have : tk.length = st0.2.length := by rw [← htk]; simp [keysG]
          omega
        · rw [tyK_len]; omega
        · refine ⟨fz (.str z), fz (.int p), putG tk p z, ?_, ?_⟩
          · rw [hc, ec]
            have h1 := tyK_put (f := fun p : Nat => (.inl (p : Int) : Key)) (g := D.str) (fun a b e => by have := inl_inj e; omega) tk p z
            have h2 := tyK_put (f := Sum.inr) (g := D.int) (fun a b => inr_inj) st0.1 z r
            show _ = [fz (grsD gs), fz (.dk (siD pins)), fz (.dk (inD (placesF gs))), ow (.dk (tyK Sum.inr D.int (putG st0.1 z r))), ow (.dk (tyK (fun p : Nat => (.inl (p : Int) : Key)) D.str (putG tk p z))), fz (.str z), fz (.int p)]
            rw [← h1, ← h2]
            rfl
          · rw [hc, ec, keys_put, if_neg hk, htk]
      · have e : (!(valG (tyK (fun p : Nat => (.inl (p : Int) : Key)) D.str tk) (.inl (p : Int))).isSome) = false := e
        rw [hin] at e
        have hn : p ∈ st0.2 := by simpa using e
        have ec : countStep gs pins st0 z = st0 := by simp only [countStep, hr, hpf]; rw [if_pos hn]
        exact ⟨fz (.str z), fz (.int p), tk, by rw [hc, ec]; rfl, by rw [hc, ec]; exact htk⟩
  · rintro _ ⟨a5, a6, tk, rfl, htk⟩
    rw [List.length_map, List.take_length]
    unfold countF at k
    rw [hzs] at k
    exact k
end Mv

namespace Mv
open PySem PySem.Spec PyProof.Rows L2
/-! ### the law's own places and counting pins -/
theorem flatL_ints : ∀ g : List Int, flatL (g.map D.int) = some (g.map V.int)
  | [] => rfl
  | a :: g => by rw [List.map_cons, flatL, flatL_ints g]; rfl
theorem inV_ints (r : Int) (g : List Int) : inV (.int r) (g.map V.int) = decide (r ∈ g) := by
  unfold inV
  rw [List.any_map, Bool.eq_iff_iff, List.any_eq_true, decide_eq_true_eq]
  constructor
  · rintro ⟨x, hx, e⟩
    have : x = r := by simpa [eqV] using e
    exact this ▸ hx
  · intro h
    exact ⟨r, h, by simp [eqV]⟩
def t__law_place : DS :=
 (dSeq (dAsgF 2 (dLc (dIEn (dCons (dVar 0) dNil)) (gTp 2 (gsCons (gN 3) (gsCons (gN 4) gsNil))) (dTst (d2W (gInB false) (dVar 1) (dVV 4))) (dVar 3) [3, 4]))
 (dRet (dIf (dTst (d2VV (gEqA true) (dVV 2) (dVF (dFrz (dLst dNil))))) (d2V gIx (dVV 2) (dC (.int 0))) (dC .non))))
def idxTo (gs : List (List Int)) (r : Int) (i : Nat) : List Nat := ((((List.range gs.length).zip gs).take i).filter fun q => decide (r ∈ q.2)).map (·.1)
theorem idxTo_head {gs : List (List Int)} {r : Int} : ∀ i, (idxTo gs r i).head? = ((gs.take i).findIdx? fun g => decide (r ∈ g))
  | 0 => by simp [idxTo]
  | i + 1 => by
    have ih := idxTo_head (gs := gs) (r := r) i
    cases e : gs[i]? with
    | none =>
      have hl : gs.length ≤ i := List.getElem?_eq_none_iff.mp e
      have h1 : idxTo gs r (i + 1) = idxTo gs r i := by
        unfold idxTo
        rw [List.take_of_length_le (by simp; omega), List.take_of_length_le (by simp; omega)]
      have h2 : gs.take (i + 1) = gs.take i := by rw [List.take_of_length_le (by omega), List.take_of_length_le (by omega)]
      rw [h1, h2, ih]
    | some g =>
      have hi : i < gs.length := (List.getElem?_eq_some_iff.mp e).1
      have ht : gs.take (i + 1) = gs.take i ++ [g] := by rw [List.take_add_one, e]; rfl
      rw [ht, List.findIdx?_append, ← ih]
      unfold idxTo
      rw [enum_snoc e, List.filter_append, List.map_append, List.head?_append]
      by_cases hr : r ∈ g
      · simp [hr, List.length_take]
        rw [Nat.min_eq_left (Nat.le_of_lt hi)]
      · simp [hr]
theorem idxTo_len (gs : List (List Int)) (r : Int) (i : Nat) : (idxTo gs r i).length ≤ gs.length := by
  unfold idxTo
  rw [List.length_map]
  refine Nat.le_trans (List.length_filter_le _ _) ?_
  simp; omega
def sp_law_place : DSp := fun ds Q => ∃ gs r, ds = [grsD gs, .int r] ∧ gs.length ≤ 1000 ∧ Q (.fz (((placeF gs r).map fun p : Nat => D.int p).getD .non))
theorem h_law_place (ds : List D) (Q' : S → Prop) (h : sp_law_place ds Q') : t__law_place (DEnds.of Q') (startD 5 ds) := by
  obtain ⟨gs, r, rfl, hn, k⟩ := h
  refine ⟨_, rfl, by simp; exact size_ok (by omega), fun i δ acc => δ = [fz (grsD gs), fz (.int r), none, none, none] ∧ acc = (idxTo gs r i).map fun p : Nat => D.int p, ⟨rfl, rfl⟩, ?_, ?_⟩
  · rintro p d _ acc hd ⟨rfl, rfl⟩
    obtain ⟨x, hx, rfl⟩ := en_get hd
    obtain ⟨g, hgp, rfl⟩ := map_get hx
    have hi : idxTo gs r (p + 1) = idxTo gs r p ++ if r ∈ g then [p] else [] := by
      unfold idxTo
      rw [enum_snoc hgp, List.filter_append, List.map_append]
      by_cases hr : r ∈ g <;> simp [hr]
    refine ⟨_, rfl, rfl, _, _, rfl, _, _, rfl, rfl, _, rfl, _, _, rfl, flatL_ints g, _, rfl, ifb (fun e => ?_) (fun e => ?_)⟩
    · have e : inV (.int r) (g.map V.int) = true := e
      rw [inV_ints] at e
      refine ⟨rfl, ?_⟩
      rw [hi, if_pos (of_decide_eq_true e), List.map_append]
      rfl
    · have e : inV (.int r) (g.map V.int) = false := e
      rw [inV_ints] at e
      refine ⟨rfl, ?_⟩
      rw [hi, if_neg (of_decide_eq_false e), List.append_nil]
  · rintro _ acc ⟨rfl, rfl⟩
    have e : ((List.range (gs.map grD).length).zip (gs.map grD) |>.map fun ix => D.tup [.int (ix.1 : Nat), ix.2]).length = gs.length := by simp
    rw [e]
    have hh := idxTo_head (gs := gs) (r := r) gs.length
    rw [List.take_length] at hh
    have hpure : ∀ x ∈ (idxTo gs r gs.length).map (fun p : Nat => D.int p), PureN 0 x := fun x hx => by obtain ⟨p, _, rfl⟩ := List.mem_map.mp hx; exact PureN.int _
    have hle := idxTo_len gs r gs.length
    refine ⟨Nat.zero_le _, _, _, rfl, rfl, .inl (.inl ⟨(PureN.lst hpure).pure (by decide), (PureN.lst (n := 0) (xs := []) fun _ h => nomatch h).pure (by decide), _, rfl, ifb (fun e => ?_) (fun e => ?_)⟩)⟩
    · have e : (!eqvD (.lst ((idxTo gs r gs.length).map fun p : Nat => D.int p)) (.lst [])) = true := e
      rw [eqv_nil hpure] at e
      cases hl : idxTo gs r gs.length with
      | nil => rw [hl] at e; simp at e
      | cons p ps =>
        rw [hl] at hh
        have hp : placeF gs r = some p := hh.symm
        refine ⟨_, rfl, .int p, atI_nat (j := 0) rfl, ?_⟩
        rw [hp] at k
        exact k
    · have e : (!eqvD (.lst ((idxTo gs r gs.length).map fun p : Nat => D.int p)) (.lst [])) = false := e
      rw [eqv_nil hpure] at e
      cases hl : idxTo gs r gs.length with
      | nil =>
        rw [hl] at hh
        have hp : placeF gs r = none := hh.symm
        rw [hp] at k
        exact k
      | cons p ps => rw [hl] at e; simp at e
def t__law_counting (sp__law_place : DSp) : DS :=
 (dSeq (dPar [2, 3] (dmO dNewK (dmO (dLst dNil) dmNil)))
 (dSeq (dFor (dIL (dFrz (d1O gSorted (vCons (dVV 1) vNil)))) (gN 4)
 (dSeq (dAsg (dCall 2 sp__law_place (dCons (dVar 0) (dCons (d2V gIx (dVV 1) (dVar 4)) dNil))) (gN 5))
 (dIfS (dAnd (dTst (d2 gNotN (dVar 5) (dC .non))) (dTst (d2W (gInB true) (dVar 5) (dVV 3)))) (dSeq (dApp 3 (dVar 5))
 (dAsg (d2V gIx (dVV 1) (dVar 4)) (gSet 2 (dVar 4)))) dNext)))
 (dRetV 2)))
def sp_law_counting : DSp := fun ds Q => ∃ gs pins, ds = [grsD gs, .dk (siD pins)] ∧ PinsIn gs pins ∧ Q (.own (.dk (siD (countF gs pins))))
theorem flatL_nats (ps : List Nat) : flatL (ps.map fun p : Nat => D.int p) = some ((ps.map fun p : Nat => (p : Int)).map V.int) := by
  have := flatL_ints (ps.map fun p : Nat => (p : Int))
  rwa [List.map_map] at this
theorem h_law_counting (ds : List D) (Q' : S → Prop) (h : sp_law_counting ds Q') : t__law_counting sp_law_place (DEnds.of Q') (startD 6 ds) := by
  obtain ⟨gs, pins, rfl, I, k⟩ := h
  have hks : ((siD pins).map fun kv => keyD kv.1) = (keysG pins).map D.str := by
    show (tyK Sum.inr D.int pins).map _ = _
    unfold tyK keysG
    rw [List.map_map, List.map_map]; rfl
  have hkl : (keysG pins).length ≤ 1000 := by unfold keysG; rw [List.length_map]; exact I.pl
  refine ⟨Nat.zero_le _, rfl, _, rfl, _, (keysG pins).map D.str, rfl, by rw [← hks]; rfl, sort_strs_ok I.ps (by omega), ?_⟩
  rw [sort_strs]
  have hp := List.mergeSort_perm (keysG pins) strLe
  generalize hzs : (keysG pins).mergeSort strLe = zs at hp
  have hzl : zs.length ≤ 1000 := by rw [hp.length_eq]; exact hkl
  refine ⟨fun i δ => ∃ (a4 a5 : Option S), δ = [fz (grsD gs), fz (.dk (siD pins)), ow (.dk (siD (countTo gs pins (zs.take i)).1)), ow (.lst ((countTo gs pins (zs.take i)).2.map fun p : Nat => D.int p)), a4, a5], ⟨_, _, rfl⟩, ?_, ?_⟩
  · rintro i d _ hd ⟨a4, a5, rfl⟩
    obtain ⟨z, hz, rfl⟩ := map_get hd
    have ht : zs.take (i + 1) = zs.take i ++ [z] := by rw [List.take_add_one, hz]; rfl
    have hc := countTo_snoc gs pins (zs.take i) z
    rw [← ht] at hc
    have hl := countTo_len gs pins (zs.take i) ([], [])
    have hi : (zs.take i).length ≤ 1000 := by rw [List.length_take]; omega
    have hzm : z ∈ keysG pins := hp.mem_iff.mp (List.mem_of_getElem? hz)
    obtain ⟨r, hr⟩ := Option.isSome_iff_exists.mp (valG_key.mp hzm)
    have hv : valG (siD pins) (.inr z) = some (.int r) := by rw [tyK_val (fun a b => inr_inj), hr]; rfl
    have hst : (countTo gs pins (zs.take i)).1.length ≤ 1000 ∧ (countTo gs pins (zs.take i)).2.length ≤ 1000 := by
      unfold countTo; simp at hl; omega
    generalize countTo gs pins (zs.take i) = st0 at hc hst ⊢
    have hsl : (sizeLine : Nat) = 16777216 := sizeLine_eq
    refine ⟨_, rfl, .inr z, _, rfl, hv, rfl, gs, r, rfl, I.gl, ?_⟩
    cases hpf : placeF gs r with
    | none =>
      have e : countStep gs pins st0 z = st0 := by simp only [countStep, hr, hpf]
      rw [e] at hc
      refine ⟨_, rfl, ifb (fun e => absurd e (by decide)) (fun _ => ?_)⟩
      exact ⟨fz (.str z), fz .non, by rw [hc]; rfl⟩
    | some p =>
      refine ⟨_, rfl, ifb (fun _ => ?_) (fun e => nomatch (show (true : Bool) = false from e))⟩
      have hin : inV (.int (p : Int)) ((st0.2.map fun p : Nat => (p : Int)).map V.int) = decide (p ∈ st0.2) := by
        rw [inV_ints, Bool.eq_iff_iff, decide_eq_true_eq, decide_eq_true_eq, List.mem_map]
        exact ⟨fun ⟨a, h, e⟩ => (by have : a = p := by omega
                                    exact this ▸ h), fun h => ⟨p, h, rfl⟩⟩
      refine ⟨_, rfl, _, _, rfl, flatL_nats st0.2, _, rfl, ifb (fun e => ?_) (fun e => ?_)⟩
      · have e : (!inV (.int (p : Int)) ((st0.2.map fun p : Nat => (p : Int)).map V.int)) = true := e
        rw [hin] at e
        have hn : p ∉ st0.2 := by simpa using e
        have ec : countStep gs pins st0 z = (putG st0.1 z r, st0.2 ++ [p]) := by simp only [countStep, hr, hpf]; rw [if_neg hn]
        refine ⟨by rw [List.length_map]; omega, _, rfl, .inr z, _, rfl, hv, ⟨_, rfl⟩, .inr z, rfl, by rw [tyK_len]; omega, fz (.str z), fz (.int p), ?_⟩
        rw [hc, ec]
        have h2 := tyK_put (f := Sum.inr) (g := D.int) (fun a b => inr_inj) st0.1 z r
        show _ = [fz (grsD gs), fz (.dk (siD pins)), ow (.dk (tyK Sum.inr D.int (putG st0.1 z r))), ow (.lst ((st0.2 ++ [p]).map fun p : Nat => D.int p)), fz (.str z), fz (.int p)]
        rw [← h2, List.map_append]
        rfl
      · have e : (!inV (.int (p : Int)) ((st0.2.map fun p : Nat => (p : Int)).map V.int)) = false := e
        rw [hin] at e
        have hn : p ∈ st0.2 := by simpa using e
        have ec : countStep gs pins st0 z = st0 := by simp only [countStep, hr, hpf]; rw [if_pos hn]
        exact ⟨fz (.str z), fz (.int p), by rw [hc, ec]; rfl⟩
  · rintro _ ⟨a4, a5, rfl⟩
    rw [List.length_map, List.take_length]
    unfold countF at k
    rw [hzs] at k
    exact k
end Mv

namespace Mv
open PySem PySem.Spec PyProof.Rows L2
/-! ### groups, labels, weights and pins, drawn -/
def t__law_drawn (sp__law_draw : DSp) (sp__law_choose : DSp) : DS :=
 (dSeq (dPar [1, 2] (dmO (dRg2 (dC (.int 1)) (dC (.int 10))) (dmF (dFrz (dLst dNil)) dmNil)))
 (dSeq (dFor (dIR1 (dCons (dCall 2 sp__law_draw (dCons (dVar 0) (dCons (dC (.int 5)) dNil))) dNil)) (gN 3)
 (dSeq (dAsgO 4 (dLst dNil))
 (dSeq (dFor (dIR1 (dCons (d2 gAdd (dC (.int 1)) (dCall 2 sp__law_draw (dCons (dVar 0) (dCons (dC (.int 3)) dNil)))) dNil)) (gN 5)
 (dIfS (dTst (d2VV (gEqA true) (dVV 1) (dVF (dFrz (dLst dNil))))) (dApp 4 (dPopAt 1 (dCall 2 sp__law_draw (dCons (dVar 0) (dCons (d1V gLen (dVV 1)) dNil))))) dNext))
 (dAsg (dFrz (d2VO gCat (dVV 2) (dVF (dFrz (dRep (dLst (dCons (d1 gTupleF (vCons (dVF (dFrz (d1O gSorted (vCons (dVV 4) vNil)))) vNil)) dNil)) (d1 gInt (vCons (dVF (d2VV (gEqA true) (dVV 4) (dVF (dFrz (dLst dNil))))) vNil))))))) (gN 2)))))
 (dSeq (dPar [6, 7] (dmO dNewK (dmO dNewK dmNil)))
 (dSeq (dFor (dIR2 (dCons (dC (.int 1)) (dCons (dC (.int 10)) dNil))) (gN 8)
 (dSeq (dIfS (dTst (d2 gGt (dCall 2 sp__law_draw (dCons (dVar 0) (dCons (dC (.int 4)) dNil))) (dC (.int 0)))) (dAsg (dCall 2 sp__law_choose (dCons (dVar 0) (dCons (dFrz (dLst (dCons (dC (.str "b")) (dCons (dC (.str "ab")) (dCons (dC (.str "red")) (dCons (dC (.str "zz")) dNil)))))) dNil))) (gSet 6 (dVar 8))) dNext)
 (dAsg (dCall 2 sp__law_choose (dCons (dVar 0) (dCons (dFrz (dLst (dCons (dC (.int 1)) (dCons (dC (.int 1)) (dCons (dC (.int 2)) (dCons (dC (.int 3)) (dCons (d2 gAdd (dC (.int 1)) (dCall 2 sp__law_draw (dCons (dVar 0) (dCons (dC (.int 9)) dNil)))) (dCons (d2 gPow (dC (.int 10)) (dC (.int 6))) dNil)))))))) dNil))) (gSet 7 (dVar 8)))))
 (dSeq (dAsgO 9 dNewK)
 (dSeq (dFor (dIL (dFrz (dLst (dCons (dC (.str "red")) (dCons (dC (.str "ab")) (dCons (dC (.str "b")) (dCons (dC (.str "zz")) (dCons (dC (.str "new")) dNil)))))))) (gN 10)
 (dIfS (dTst (d2VV (gEqA false) (dVF (dCall 2 sp__law_draw (dCons (dVar 0) (dCons (dC (.int 3)) dNil)))) (dVF (dC (.int 0))))) (dAsg (d2 gAdd (dC (.int 1)) (dCall 2 sp__law_draw (dCons (dVar 0) (dCons (dC (.int 12)) dNil)))) (gSet 9 (dVar 10))) dNext))
 (dRet (dTup (dCons (dVar 2) (dCons (dVar 6) (dCons (dVar 7) (dCons (dVar 9) dNil))))))))))))
theorem rng_intsS (a b : Int) : rngD a b = ((List.range (b - a).toNat).map fun (i : Nat) => a + (i : Int)).map D.int := by
  unfold rngD; rw [List.map_map]; rfl
def lab4 : List Str := ["b", "ab", "red", "zz"]
def pin5 : List Str := ["red", "ab", "b", "zz", "new"]
/-- what _law_drawn makes -/
structure Drawn (gs : List (List Int)) (lb : List (Int × Str)) (wt : List (Int × Int)) (pn : List (Str × Int)) : Prop where
  gl : gs.length ≤ 4
  nd : gs.flatten.Nodup
  fl : gs.flatten.length ≤ 9
  rng : ∀ r ∈ gs.flatten, 1 ≤ r ∧ r ≤ 9
  ne : ∀ g ∈ gs, g ≠ []
  so : ∀ g ∈ gs, g.Pairwise (· ≤ ·)
  lk : (keysG lb).Nodup
  lr : ∀ q ∈ lb, 1 ≤ q.1 ∧ q.1 ≤ 9 ∧ q.2 ∈ lab4
  wk : keysG wt = [1, 2, 3, 4, 5, 6, 7, 8, 9]
  wr : ∀ q ∈ wt, 1 ≤ q.2 ∧ q.2 ≤ 1000000
  pk : (keysG pn).Nodup
  pr : ∀ q ∈ pn, q.1 ∈ pin5 ∧ 1 ≤ q.2 ∧ q.2 ≤ 12
def sp_drawn : DSp := fun ds Q => ds = [.obj 0] ∧ ∀ gs lb wt pn, Drawn gs lb wt pn → Q (.fz (.tup [grsD gs, .dk (isD lb), .dk (iiD wt), .dk (siD pn)]))
theorem mem_put {κ α : Type} [DecidableEq κ] {t : List (κ × α)} {k : κ} {v : α} {q : κ × α} (h : q ∈ putG t k v) : q = (k, v) ∨ q ∈ t := by
  by_cases hk : k ∈ keysG t
  · rw [putG_map hk] at h
    obtain ⟨x, hx, e⟩ := List.mem_map.mp h
    split at e
    · rename_i z; exact .inl (by rw [← e, z])
    · exact .inr (e ▸ hx)
  · rw [putG_app hk] at h
    rcases List.mem_append.mp h with h | h
    · exact .inr h
    · exact .inl (List.mem_singleton.mp h)
/-- the pins -/
theorem drawn_pins {a0 a1 a2 a3 a4 a5 a6 a7 a8 a10 : Option S} {D' : DEnds} (h0 : a0 = fz (.obj 0)) (k : ∀ pn b10, (keysG pn).Nodup → (∀ q ∈ pn, q.1 ∈ pin5 ∧ 1 ≤ q.2 ∧ q.2 ≤ 12) → D'.nx [a0, a1, a2, a3, a4, a5, a6, a7, a8, ow (.dk (siD pn)), b10]) :
    (dFor (dIL (dFrz (dLst (dCons (dC (.str "red")) (dCons (dC (.str "ab")) (dCons (dC (.str "b")) (dCons (dC (.str "zz")) (dCons (dC (.str "new")) dNil)))))))) (gN 10)
      (dIfS (dTst (d2VV (gEqA false) (dVF (dCall 2 sp_draw (dCons (dVar 0) (dCons (dC (.int 3)) dNil)))) (dVF (dC (.int 0))))) (dAsg (d2 gAdd (dC (.int 1)) (dCall 2 sp_draw (dCons (dVar 0) (dCons (dC (.int 12)) dNil)))) (gSet 9 (dVar 10))) dNext)) D'
      [a0, a1, a2, a3, a4, a5, a6, a7, a8, ow (.dk []), a10] := by
  subst h0
  refine ⟨by show 5 ≤ sizeLine; decide, fun i δ => ∃ pn b10, δ = [fz (.obj 0), a1, a2, a3, a4, a5, a6, a7, a8, ow (.dk (siD pn)), b10] ∧ (keysG pn).Nodup ∧ pn.length ≤ i ∧ ∀ q ∈ pn, q.1 ∈ pin5 ∧ 1 ≤ q.2 ∧ q.2 ≤ 12, ⟨[], _, rfl, List.nodup_nil, Nat.le_refl _, fun _ h => nomatch h⟩, ?_, ?_⟩
  · rintro i d _ hd ⟨pn, b10, rfl, nd, hl, hr⟩
    have hi := (List.getElem?_eq_some_iff.mp hd).1
    have hi5 : i < 5 := hi
    obtain ⟨z, rfl, hz⟩ : ∃ z, d = .str z ∧ z ∈ pin5 := by
      have hm := List.mem_of_getElem? hd
      simp at hm
      rcases hm with rfl | rfl | rfl | rfl | rfl <;> exact ⟨_, rfl, by simp [pin5]⟩
    refine ⟨rfl, 3, rfl, by decide, by decide, fun q q0 q1 => ⟨_, _, rfl, rfl, .inl (.inl ⟨(PureN.int (n := 0) q).pure (by decide), (PureN.int (n := 0) 0).pure (by decide), _, rfl, ifb (fun _ => ?_) (fun _ => ?_)⟩)⟩⟩
    · refine ⟨rfl, 12, rfl, by decide, by decide, fun w w0 w1 => ⟨⟨_, rfl⟩, .inr z, rfl, ?_, ?_⟩⟩
      · rw [tyK_len]; have := sizeLine_eq; omega
      · refine ⟨putG pn z (1 + w), fz (.str z), ?_, nodup_put nd _ _, by have := len_put pn z (1 + w); omega, fun q hq => ?_⟩
        · have h2 := tyK_put (f := Sum.inr) (g := D.int) (fun a b => inr_inj) pn z (1 + w)
          show _ = [fz (.obj 0), a1, a2, a3, a4, a5, a6, a7, a8, ow (.dk (tyK Sum.inr D.int (putG pn z (1 + w)))), fz (.str z)]
          rw [← h2]
          rfl
        · rcases mem_put hq with rfl | h
          · exact ⟨hz, by show 1 ≤ 1 + w; omega, by show 1 + w ≤ 12; omega⟩
          · exact hr q h
    · exact ⟨pn, fz (.str z), rfl, nd, by omega, hr⟩
  · rintro _ ⟨pn, b10, rfl, nd, hl, hr⟩
    exact k pn b10 nd hr
/-- labels and weights -/
theorem drawn_labels {a0 a1 a2 a3 a4 a5 a8 a9 a10 : Option S} {D' : DEnds} (h0 : a0 = fz (.obj 0)) (k : ∀ lb wt b8, (keysG lb).Nodup → (∀ q ∈ lb, 1 ≤ q.1 ∧ q.1 ≤ 9 ∧ q.2 ∈ lab4) → keysG wt = [1, 2, 3, 4, 5, 6, 7, 8, 9] → (∀ q ∈ wt, 1 ≤ q.2 ∧ q.2 ≤ 1000000) → D'.nx [a0, a1, a2, a3, a4, a5, ow (.dk (isD lb)), ow (.dk (iiD wt)), b8, a9, a10]) :
    (dFor (dIR2 (dCons (dC (.int 1)) (dCons (dC (.int 10)) dNil))) (gN 8)
 (dSeq (dIfS (dTst (d2 gGt (dCall 2 sp_draw (dCons (dVar 0) (dCons (dC (.int 4)) dNil))) (dC (.int 0)))) (dAsg (dCall 2 sp_choose (dCons (dVar 0) (dCons (dFrz (dLst (dCons (dC (.str "b")) (dCons (dC (.str "ab")) (dCons (dC (.str "red")) (dCons (dC (.str "zz")) dNil)))))) dNil))) (gSet 6 (dVar 8))) dNext)
 (dAsg (dCall 2 sp_choose (dCons (dVar 0) (dCons (dFrz (dLst (dCons (dC (.int 1)) (dCons (dC (.int 1)) (dCons (dC (.int 2)) (dCons (dC (.int 3)) (dCons (d2 gAdd (dC (.int 1)) (dCall 2 sp_draw (dCons (dVar 0) (dCons (dC (.int 9)) dNil)))) (dCons (d2 gPow (dC (.int 10)) (dC (.int 6))) dNil)))))))) dNil))) (gSet 7 (dVar 8))))) D'
      [a0, a1, a2, a3, a4, a5, ow (.dk []), ow (.dk []), a8, a9, a10] := by
  subst h0
  refine ⟨1, 10, rfl, ⟨by decide, by decide, by decide, by decide⟩, fun i δ => ∃ lb wt b8, δ = [fz (.obj 0), a1, a2, a3, a4, a5, ow (.dk (isD lb)), ow (.dk (iiD wt)), b8, a9, a10] ∧ (keysG lb).Nodup ∧ lb.length ≤ i ∧ (∀ q ∈ lb, 1 ≤ q.1 ∧ q.1 ≤ 9 ∧ q.2 ∈ lab4) ∧ keysG wt = ([1, 2, 3, 4, 5, 6, 7, 8, 9] : List Int).take i ∧ ∀ q ∈ wt, 1 ≤ q.2 ∧ q.2 ≤ 1000000, ⟨[], [], _, rfl, List.nodup_nil, Nat.le_refl _, (fun _ h => nomatch h), rfl, fun _ h => nomatch h⟩, ?_, ?_⟩
  · rintro i d _ hd ⟨lb, wt, b8, rfl, nd, hl, hr, hk, hw⟩
    have hsl : (sizeLine : Nat) = 16777216 := sizeLine_eq
    rw [rng_intsS] at hd
    obtain ⟨r, hri, rfl⟩ := map_get hd
    have hi : i < 9 := by
      have := (List.getElem?_eq_some_iff.mp hri).1
      simpa using this
    have hr2 : ([1, 2, 3, 4, 5, 6, 7, 8, 9] : List Int)[i]? = some r := hri
    have hr9 : 1 ≤ r ∧ r ≤ 9 := by
      have := List.mem_of_getElem? hr2
      simp at this
      omega
    have hwl : wt.length ≤ 9 := by
      have : wt.length = (keysG wt).length := by simp [keysG]
      rw [this, hk, List.length_take]; omega
    have hkr : r ∉ keysG wt := by
      rw [hk]
      have h1 : ([1, 2, 3, 4, 5, 6, 7, 8, 9] : List Int).Nodup := by decide
      have h2 : ([1, 2, 3, 4, 5, 6, 7, 8, 9] : List Int).take (i + 1) = ([1, 2, 3, 4, 5, 6, 7, 8, 9] : List Int).take i ++ [r] := by rw [List.take_add_one, hr2]; rfl
      have h3 := h1.sublist (List.take_sublist (i + 1) _)
      rw [h2] at h3
      exact fun h => (List.nodup_append.mp h3).2.2 r h r (by simp) rfl
    have p6 : CPw 10 6 := pw_ok (i := 10) (n := 4) (k := 6) (by decide) (by decide)
    have second : ∀ lb' : List (Int × Str), (keysG lb').Nodup → lb'.length ≤ i + 1 → (∀ q ∈ lb', 1 ≤ q.1 ∧ q.1 ≤ 9 ∧ q.2 ∈ lab4) →
        (dAsg (dCall 2 sp_choose (dCons (dVar 0) (dCons (dFrz (dLst (dCons (dC (.int 1)) (dCons (dC (.int 1)) (dCons (dC (.int 2)) (dCons (dC (.int 3)) (dCons (d2 gAdd (dC (.int 1)) (dCall 2 sp_draw (dCons (dVar 0) (dCons (dC (.int 9)) dNil)))) (dCons (d2 gPow (dC (.int 10)) (dC (.int 6))) dNil)))))))) dNil))) (gSet 7 (dVar 8)))
          { nx := fun δ => ∃ lb wt b8, δ = [fz (.obj 0), a1, a2, a3, a4, a5, ow (.dk (isD lb)), ow (.dk (iiD wt)), b8, a9, a10] ∧ (keysG lb).Nodup ∧ lb.length ≤ i + 1 ∧ (∀ q ∈ lb, 1 ≤ q.1 ∧ q.1 ≤ 9 ∧ q.2 ∈ lab4) ∧ keysG wt = ([1, 2, 3, 4, 5, 6, 7, 8, 9] : List Int).take (i + 1) ∧ ∀ q ∈ wt, 1 ≤ q.2 ∧ q.2 ≤ 1000000, rt := D'.rt, bk := D'.nx, ct := D'.nx }
          [fz (.obj 0), a1, a2, a3, a4, a5, ow (.dk (isD lb')), ow (.dk (iiD wt)), fz (.int r), a9, a10] := fun lb' n1 n2 n3 => by
      refine ⟨rfl, 9, rfl, by decide, by decide, fun w w0 w1 => ⟨p6, (by show 6 ≤ sizeLine; decide), rfl, _, _, rfl, rfl, (by show 0 < 6; decide), (by show 6 < 1073741824; decide), fun x hx => ?_⟩⟩
      obtain ⟨v, rfl, hv⟩ : ∃ v : Int, x = .int v ∧ (1 ≤ v ∧ v ≤ 1000000) := by
        simp at hx
        rcases hx with rfl | rfl | rfl | rfl | rfl
        · exact ⟨1, rfl, by decide, by decide⟩
        · exact ⟨2, rfl, by decide, by decide⟩
        · exact ⟨3, rfl, by decide, by decide⟩
        · exact ⟨1 + w, rfl, by omega, by omega⟩
        · exact ⟨_, rfl, by decide, by decide⟩
      refine ⟨⟨_, rfl⟩, .inl r, rfl, by rw [tyK_len]; omega, lb', putG wt r v, fz (.int r), ?_, n1, n2, n3, ?_, fun q hq => ?_⟩
      · have h2 := tyK_put (f := Sum.inl) (g := D.int) (fun a b => inl_inj) wt r v
        show _ = [fz (.obj 0), a1, a2, a3, a4, a5, ow (.dk (isD lb')), ow (.dk (tyK Sum.inl D.int (putG wt r v))), fz (.int r), a9, a10]
        rw [← h2]
        rfl
      · rw [keys_put, if_neg hkr, hk, List.take_add_one, hr2]; rfl
      · rcases mem_put hq with rfl | h
        · exact hv
        · exact hw q h
    refine ⟨rfl, 4, rfl, by decide, by decide, fun q q0 q1 => ⟨_, rfl, ifb (fun _ => ?_) (fun _ => ?_)⟩⟩
    · refine ⟨(by show 4 ≤ sizeLine; decide), rfl, _, _, rfl, rfl, by decide, by decide, fun x hx => ?_⟩
      obtain ⟨z, rfl, hz⟩ : ∃ z, x = .str z ∧ z ∈ lab4 := by
        simp at hx
        rcases hx with rfl | rfl | rfl | rfl <;> exact ⟨_, rfl, by simp [lab4]⟩
      refine ⟨⟨_, rfl⟩, .inl r, rfl, by rw [tyK_len]; omega, ?_⟩
      have h2 := tyK_put (f := Sum.inl) (g := D.str) (fun a b => inl_inj) lb r z
      have := second (putG lb r z) (nodup_put nd _ _) (by have := len_put lb r z; omega) fun q hq => by
        rcases mem_put hq with rfl | h
        · exact ⟨hr9.1, hr9.2, hz⟩
        · exact hr q h
      rw [show isD (putG lb r z) = putG (isD lb) (.inl r) (.str z) from h2.symm] at this
      exact this
    · exact second lb nd (by omega) hr
  · rintro _ ⟨lb, wt, b8, rfl, nd, hl, hr, hk, hw⟩
    exact k lb wt b8 nd hr (by rw [hk]; rfl) hw
theorem erase_map {α β : Type} (f : α → β) : ∀ (ls : List α) (m : Nat), (ls.eraseIdx m).map f = (ls.map f).eraseIdx m
  | [], _ => rfl
  | a :: ls, 0 => rfl
  | a :: ls, m + 1 => by
    show f a :: (ls.eraseIdx m).map f = f a :: (ls.map f).eraseIdx m
    rw [erase_map f ls m]
/-- one group -/
abbrev ids9 : List Int := [1, 2, 3, 4, 5, 6, 7, 8, 9]
theorem drawn_group {a2 a3 a5 a6 a7 a8 a9 a10 : Option S} {D' : DEnds} {ls : List Int} {gs : List (List Int)} (pm : (ls ++ gs.flatten).Perm ids9)
    (k : ∀ ls' grp b5, (ls' ++ (grp ++ gs.flatten)).Perm ids9 → D'.nx [fz (.obj 0), ow (.lst (ls'.map D.int)), a2, a3, ow (.lst (grp.map D.int)), b5, a6, a7, a8, a9, a10]) :
    (dFor (dIR1 (dCons (d2 gAdd (dC (.int 1)) (dCall 2 sp_draw (dCons (dVar 0) (dCons (dC (.int 3)) dNil)))) dNil)) (gN 5)
 (dIfS (dTst (d2VV (gEqA true) (dVV 1) (dVF (dFrz (dLst dNil))))) (dApp 4 (dPopAt 1 (dCall 2 sp_draw (dCons (dVar 0) (dCons (d1V gLen (dVV 1)) dNil))))) dNext)) D'
      [fz (.obj 0), ow (.lst (ls.map D.int)), a2, a3, ow (.lst []), a5, a6, a7, a8, a9, a10] := by
  refine ⟨rfl, 3, rfl, by decide, by decide, fun q q0 q1 => ⟨1 + q, rfl, ⟨by omega, by omega⟩, fun i δ => ∃ ls' grp b5, δ = [fz (.obj 0), ow (.lst (ls'.map D.int)), a2, a3, ow (.lst (grp.map D.int)), b5, a6, a7, a8, a9, a10] ∧ (ls' ++ (grp ++ gs.flatten)).Perm ids9, ⟨ls, [], _, rfl, pm⟩, ?_, ?_⟩⟩
  · rintro i d _ hd ⟨ls', grp, b5, rfl, p⟩
    obtain ⟨j, _, rfl⟩ := map_get hd
    have hpu : ∀ x ∈ ls'.map D.int, PureN 0 x := fun x hx => by obtain ⟨p, _, rfl⟩ := List.mem_map.mp hx; exact PureN.int _
    have hlen : ls'.length + (grp.length + gs.flatten.length) = 9 := by have := p.length_eq; simpa using this
    refine ⟨Nat.zero_le _, _, _, rfl, rfl, .inl (.inl ⟨(PureN.lst hpu).pure (by decide), (PureN.lst (n := 0) (xs := []) (fun x h => nomatch h)).pure (by decide), _, rfl, ifb (fun e => ?_) (fun e => ?_)⟩)⟩
    · have e : (!eqvD (.lst (ls'.map D.int)) (.lst [])) = true := e
      rw [eqv_nil hpu] at e
      have hpos : 0 < ls'.length := by
        cases ls' with
        | nil => simp at e
        | cons a b => simp
      refine ⟨_, rfl, rfl, (ls'.map D.int).length, rfl, by rw [List.length_map]; omega, by rw [List.length_map]; omega, fun r r0 r1 => ?_⟩
      rw [List.length_map] at r1
      obtain ⟨m, rfl⟩ := Int.eq_ofNat_of_zero_le r0
      have hm : m < ls'.length := by omega
      have hg : ls'[m]? = some ls'[m] := List.getElem?_eq_getElem hm
      generalize ls'[m] = x at hg
      have hgD : (ls'.map D.int)[m]? = some (D.int x) := by rw [List.getElem?_map, hg]; rfl
      refine ⟨m, m, D.int x, rfl, by omega, by omega, ?_, hgD, ?_⟩
      · unfold seqIndex?
        simp
        omega
      · refine ⟨by rw [List.length_map]; have := sizeLine_eq; omega, ls'.eraseIdx m, grp ++ [x], fz (.int (0 + (j : Int))), ?_, ?_⟩
        · rw [List.map_append]
          show _ = [fz (.obj 0), ow (.lst ((ls'.eraseIdx m).map D.int)), a2, a3, ow (.lst (grp.map D.int ++ [D.int x])), fz (.int (0 + (j : Int))), a6, a7, a8, a9, a10]
          rw [erase_map]
          rfl
        · have h1 := perm_move (fs := grp ++ gs.flatten) hg
          refine List.Perm.trans ?_ (h1.trans p)
          refine List.Perm.append_left _ ?_
          rw [List.append_assoc, List.append_assoc]
          exact List.Perm.append_left _ List.perm_append_comm
    · exact ⟨ls', grp, _, rfl, p⟩
  · rintro _ ⟨ls', grp, b5, rfl, p⟩
    exact k ls' grp b5 p
structure Grps (gs : List (List Int)) : Prop where
  ne : ∀ g ∈ gs, g ≠ []
  so : ∀ g ∈ gs, g.Pairwise (· ≤ ·)
theorem drawn_groups {a3 a4 a5 a6 a7 a8 a9 a10 : Option S} {D' : DEnds} (k : ∀ ls gs b3 b4 b5, (ls ++ gs.flatten).Perm ids9 → gs.length ≤ 4 → Grps gs → D'.nx [fz (.obj 0), ow (.lst (ls.map D.int)), fz (grsD gs), b3, b4, b5, a6, a7, a8, a9, a10]) :
    (dFor (dIR1 (dCons (dCall 2 sp_draw (dCons (dVar 0) (dCons (dC (.int 5)) dNil))) dNil)) (gN 3)
 (dSeq (dAsgO 4 (dLst dNil))
 (dSeq (dFor (dIR1 (dCons (d2 gAdd (dC (.int 1)) (dCall 2 sp_draw (dCons (dVar 0) (dCons (dC (.int 3)) dNil)))) dNil)) (gN 5)
 (dIfS (dTst (d2VV (gEqA true) (dVV 1) (dVF (dFrz (dLst dNil))))) (dApp 4 (dPopAt 1 (dCall 2 sp_draw (dCons (dVar 0) (dCons (d1V gLen (dVV 1)) dNil))))) dNext))
 (dAsg (dFrz (d2VO gCat (dVV 2) (dVF (dFrz (dRep (dLst (dCons (d1 gTupleF (vCons (dVF (dFrz (d1O gSorted (vCons (dVV 4) vNil)))) vNil)) dNil)) (d1 gInt (vCons (dVF (d2VV (gEqA true) (dVV 4) (dVF (dFrz (dLst dNil))))) vNil))))))) (gN 2))))) D'
      [fz (.obj 0), ow (.lst (ids9.map D.int)), fz (.lst []), a3, a4, a5, a6, a7, a8, a9, a10] := by
  refine ⟨rfl, 5, rfl, by decide, by decide, fun q q0 q1 => ⟨q, rfl, ⟨by omega, by omega⟩, fun i δ => ∃ ls gs b3 b4 b5, δ = [fz (.obj 0), ow (.lst (ls.map D.int)), fz (grsD gs), b3, b4, b5, a6, a7, a8, a9, a10] ∧ (ls ++ gs.flatten).Perm ids9 ∧ gs.length ≤ i ∧ Grps gs, ⟨ids9, [], _, _, _, rfl, by simp, Nat.le_refl _, ⟨(fun _ h => nomatch h), fun _ h => nomatch h⟩⟩, ?_, ?_⟩⟩
  · rintro i d _ hd ⟨ls, gs, b3, b4, b5, rfl, pm, hl, G⟩
    have hi : i < q.toNat := by
      have := (List.getElem?_eq_some_iff.mp hd).1
      simpa [rngD] using this
    refine ⟨Nat.zero_le _, drawn_group pm fun ls' grp c5 p => ?_⟩
    have hlen : ls'.length + (grp.length + gs.flatten.length) = 9 := by have := p.length_eq; simpa using this
    have hpu : ∀ x ∈ grp.map D.int, PureN 0 x := fun x hx => by obtain ⟨p, _, rfl⟩ := List.mem_map.mp hx; exact PureN.int _
    refine ⟨_, rfl, _, _, rfl, rfl, sort_ints_ok (by omega), ?_⟩
    rw [sort_ints]
    have hpm := List.mergeSort_perm grp fun i j => decide (i ≤ j)
    have hso : (grp.mergeSort fun i j => decide (i ≤ j)).Pairwise (· ≤ ·) := by
      have := List.pairwise_mergeSort (le := fun i j : Int => decide (i ≤ j)) (fun a b c h1 h2 => by simp at *; omega) (fun a b => by simp; omega) grp
      exact this.imp fun h => by simpa using h
    generalize (grp.mergeSort fun i j => decide (i ≤ j)) = g' at hpm hso
    refine ⟨_, rfl, _, .inl rfl, (by show 1 ≤ sizeLine; decide), Nat.zero_le _, _, _, rfl, rfl, .inl (.inl ⟨(PureN.lst hpu).pure (by decide), (PureN.lst (n := 0) (xs := []) (fun x h => nomatch h)).pure (by decide), ?_⟩)⟩
    have hsl : (sizeLine : Nat) = 16777216 := sizeLine_eq
    have hgs : gs.length ≤ 5 := by omega
    show ∃ ds, _ ∧ _
    refine ⟨_, rfl, .inr ⟨_, rfl, ?_⟩⟩
    have hb : (if true = true then !eqvD (.lst (grp.map D.int)) (.lst []) else eqvD (.lst (grp.map D.int)) (.lst [])) = !grp.isEmpty := by
      rw [if_pos rfl, eqv_nil hpu]
      cases grp <;> rfl
    rw [show (if true = true then !eqvD (O.lst (grp.map D.int)).d (O.lst []).d else eqvD (O.lst (grp.map D.int)).d (O.lst []).d) = !grp.isEmpty from hb]
    have hgl : g'.length = grp.length := hpm.length_eq
    cases grp with
    | nil =>
      refine ⟨_, _, rfl, rfl, by decide, by decide, by simp, ?_⟩
      refine ⟨_, _, rfl, rfl, gs.map grD, [], rfl, rfl, by simp; omega, ?_⟩
      refine ⟨ls', gs, fz d, ow (.lst []), c5, ?_, by simpa using p, by omega, G⟩
      show [fz (.obj 0), ow (.lst (ls'.map D.int)), fz (.lst (gs.map grD ++ [])), fz d, ow (.lst []), c5, a6, a7, a8, a9, a10] = _
      rw [List.append_nil]
      rfl
    | cons a r =>
      refine ⟨_, _, rfl, rfl, (by show -(2 ^ 63 : Int) ≤ 1; decide), (by show (1 : Int) < 2 ^ 63; decide), (by show 1 * 1 ≤ sizeLine; decide), ?_⟩
      refine ⟨_, _, rfl, rfl, gs.map grD, [grD g'], rfl, rfl, by simp; omega, ?_⟩
      refine ⟨ls', gs ++ [g'], fz d, ow (.lst ((a :: r).map D.int)), c5, ?_, ?_, by simp; omega, ?_⟩
      · show [fz (.obj 0), ow (.lst (ls'.map D.int)), fz (.lst (gs.map grD ++ [grD g'])), fz d, ow (.lst ((a :: r).map D.int)), c5, a6, a7, a8, a9, a10] = _
        unfold grsD
        rw [List.map_append]
        rfl
      · rw [List.flatten_append]
        refine List.Perm.trans ?_ p
        refine List.Perm.append_left _ ?_
        simp only [List.flatten_cons, List.flatten_nil, List.append_nil]
        exact List.perm_append_comm.trans (hpm.append_right _)
      · refine ⟨fun g hg => ?_, fun g hg => ?_⟩
        · rcases List.mem_append.mp hg with h | h
          · exact G.ne g h
          · rw [List.mem_singleton.mp h]
            intro z
            rw [z] at hgl
            simp at hgl
        · rcases List.mem_append.mp hg with h | h
          · exact G.so g h
          · rw [List.mem_singleton.mp h]; exact hso
  · rintro _ ⟨ls, gs, b3, b4, b5, rfl, pm, hl, G⟩
    refine k ls gs b3 b4 b5 pm ?_ G
    have : (rngD 0 q).length = q.toNat := by simp [rngD]
    omega
theorem h_drawn (ds : List D) (Q' : S → Prop) (h : sp_drawn ds Q') : t__law_drawn sp_draw sp_choose (DEnds.of Q') (startD 11 ds) := by
  obtain ⟨rfl, k⟩ := h
  refine ⟨1, 10, rfl, rfl, ⟨by decide, by decide, by decide, by decide, by decide⟩, Nat.zero_le _, rfl, ?_⟩
  refine drawn_groups fun ls gs b3 b4 b5 pm hl G => ?_
  refine ⟨rfl, drawn_labels rfl fun lb wt b8 l1 l2 l3 l4 => ?_⟩
  refine drawn_pins rfl fun pn b10 p1 p2 => ?_
  refine ⟨(by show 4 ≤ sizeLine; decide), k gs lb wt pn ?_⟩
  have hn : (ls ++ gs.flatten).Nodup := pm.nodup_iff.mpr (by decide)
  exact ⟨hl, (List.nodup_append.mp hn).2.1, by have := pm.length_eq; rw [List.length_append] at this; have h9 : ids9.length = 9 := rfl; omega, fun r hr => by
    have := pm.mem_iff.mp (List.mem_append_right _ hr)
    simp at this
    omega, G.ne, G.so, l1, l2, l3, l4, p1, p2⟩
end Mv

namespace Mv
namespace K27
open PySem PySem.Spec PyProof.Rows L2
/-! ### the text: printed by gen.py -/
def topS (i : Nat) : Stmt := PySem.Challenge.pw_keptnames_k27_labels_and_counting_pins.main.body.getD i (.Pass ⟨0, 0, 0, 0⟩)
abbrev s__law_stream : Stmt := topS 5
abbrev N__law_stream : List Str := ["_law_script", "_law_start", "_law_seed", "_law_number", "_law_digits"]
theorem sc__law_stream : FnScope N__law_stream ["_law_script", "_law_start"] (defScope s__law_stream) := ⟨rfl, rfl, rfl, by decide +kernel, rfl, by decide +kernel, by decide +kernel⟩
abbrev s__law_draw : Stmt := topS 6
abbrev N__law_draw : List Str := ["_law_stream_here", "_law_size", "_law_found"]
theorem sc__law_draw : FnScope N__law_draw ["_law_stream_here", "_law_size"] (defScope s__law_draw) := ⟨rfl, rfl, rfl, by decide +kernel, rfl, by decide +kernel, by decide +kernel⟩
abbrev s__law_choose : Stmt := topS 7
abbrev N__law_choose : List Str := ["_law_stream_here", "_law_items"]
theorem sc__law_choose : FnScope N__law_choose ["_law_stream_here", "_law_items"] (defScope s__law_choose) := ⟨rfl, rfl, rfl, by decide +kernel, rfl, by decide +kernel, by decide +kernel⟩
abbrev s__law_drawn : Stmt := topS 11
abbrev N__law_drawn : List Str := ["_law_stream_here", "_law_left", "_law_groups", "_law_turn", "_law_group", "_law_more", "_law_labels", "_law_weights", "_law_row_id", "_law_stuck", "_law_name"]
theorem sc__law_drawn : FnScope N__law_drawn ["_law_stream_here"] (defScope s__law_drawn) := ⟨rfl, rfl, rfl, by decide +kernel, rfl, by decide +kernel, by decide +kernel⟩
abbrev s__law_named : Stmt := topS 10
abbrev N__law_named : List Str := ["_law_stream_here", "_law_groups", "_law_found", "_law_place_here"]
theorem sc__law_named : FnScope N__law_named ["_law_stream_here", "_law_groups"] (defScope s__law_named) := ⟨rfl, rfl, rfl, by decide +kernel, rfl, by decide +kernel, by decide +kernel⟩
abbrev s_labels_of : Stmt := topS 2
abbrev N_labels_of : List Str := ["groups", "names", "name", "place", "row_id"]
theorem sc_labels_of : FnScope N_labels_of ["groups", "names"] (defScope s_labels_of) := ⟨rfl, rfl, rfl, by decide +kernel, rfl, by decide +kernel, by decide +kernel⟩
abbrev s_places_of : Stmt := topS 1
abbrev N_places_of : List Str := ["groups", "place", "group", "row_id"]
theorem sc_places_of : FnScope N_places_of ["groups"] (defScope s_places_of) := ⟨rfl, rfl, rfl, by decide +kernel, rfl, by decide +kernel, by decide +kernel⟩
abbrev s_counting_pins : Stmt := topS 3
abbrev N_counting_pins : List Str := ["groups", "pins", "places", "found", "taken", "name", "place"]
theorem sc_counting_pins : FnScope N_counting_pins ["groups", "pins"] (defScope s_counting_pins) := ⟨rfl, rfl, rfl, by decide +kernel, rfl, by decide +kernel, by decide +kernel⟩
abbrev s__law_place : Stmt := topS 8
abbrev N__law_place : List Str := ["_law_groups", "_law_row_id", "_law_found", "_law_place_here", "_law_group"]
theorem sc__law_place : FnScope N__law_place ["_law_groups", "_law_row_id"] (defScope s__law_place) := ⟨rfl, rfl, rfl, by decide +kernel, rfl, by decide +kernel, by decide +kernel⟩
abbrev s__law_counting : Stmt := topS 9
abbrev N__law_counting : List Str := ["_law_groups", "_law_stuck", "_law_found", "_law_taken", "_law_name", "_law_place_here"]
theorem sc__law_counting : FnScope N__law_counting ["_law_groups", "_law_stuck"] (defScope s__law_counting) := ⟨rfl, rfl, rfl, by decide +kernel, rfl, by decide +kernel, by decide +kernel⟩
abbrev s_law : Stmt := topS 12
abbrev N_law : List Str := ["_law_script", "_law_start", "_law_stream_here", "_law_groups", "_law_labels", "_law_weights", "_law_stuck", "_law_names", "_law_kept", "_law_due", "_law_name", "_law_row_id", "_law_turn", "_law_found", "_law_pinned"]
theorem sc_law : FnScope N_law ["_law_script"] (defScope s_law) := ⟨rfl, rfl, rfl, by decide +kernel, rfl, by decide +kernel, by decide +kernel⟩
def t__law_stream : DS :=
 (dSeq (dAsg (d2 gAdd (dC (.int 19)) (dVar 1)) (gN 2))
 (dSeq (dFor (dIL (dVar 0)) (gN 3)
 (dAsg (d2 gAdd (d2 gMod (d2 gPow (d2 gAdd (d2 gMul (dVar 2) (dC (.int 40127))) (dVar 3)) (dC (.int 3))) (dC (.int 2147483629))) (dC (.int 1))) (gN 2)))
 (dSeq (dAsg (dC (.int 0)) (gN 4))
 (dSeq (dIfS (dAnd (dTst (d2 gLt (dVar 1) (d1V gLen (dVV 0)))) (dTst (d2 gGe (d2V gIx (dVV 0) (dVar 1)) (d2 gPow (dC (.int 10)) (dC (.int 18)))))) (dAsg (d2 gSub (d2V gIx (dVV 0) (dVar 1)) (d2 gPow (dC (.int 10)) (dC (.int 18)))) (gN 4)) dNext)
 (dRet (dStrm (dLst (dCons (dVar 4) (dCons (dVar 2) dNil)))))))))
def t__law_named (sp__law_draw : DSp) : DS :=
 (dSeq (dAsgO 2 dNewK)
 (dSeq (dFor (dIR1 (dCons (d1V gLen (dVV 1)) dNil)) (gN 3)
 (dIfS (dTst (d2 gGt (dCall 2 sp__law_draw (dCons (dVar 0) (dCons (dC (.int 3)) dNil))) (dC (.int 0)))) (dAsg (dVar 3) (gSet 2 (d2V gIx (dVF (dFrz (dLst (dCons (dC (.str "mm")) (dCons (dC (.str "a")) (dCons (dC (.str "zzzzzzzzzzzz")) (dCons (dC (.str "b")) dNil))))))) (dVar 3)))) dNext))
 (dRetV 2)))
def law_1b (sp__law_stream : DSp) (sp__law_drawn : DSp) (sp__law_named : DSp) (sp_labels_of : DSp) (sp_counting_pins : DSp) (sp__law_counting : DSp) : DS :=
 (dSeq (dAsgO 13 (dCallO 2 sp_labels_of (dCons (dVar 3) (dCons (dVar 7) dNil))))
 (dSeq (dIfS (dOr (dTst (d2VV (gEqA true) (dVV 13) (dVV 9))) (dNot (dTst (dIs "dict" (dVV 13))))) (dRet (dC (.bl false))) dNext)
 (dSeq (dAsg (dC (.str "a")) (gSet 13 (dC (.int 0))))
 (dSeq (dAsgO 14 (dCallO 2 sp_counting_pins (dCons (dVar 3) (dCons (dVar 6) dNil))))
 (dSeq (dIfS (dOr (dTst (d2VV (gEqA true) (dVV 14) (dVF (dCall 2 sp__law_counting (dCons (dVar 3) (dCons (dVar 6) dNil)))))) (dNot (dTst (dIs "dict" (dVV 14))))) (dRet (dC (.bl false))) dNext)
 (dDrop (dClr 14)))))))
def law_1 (sp__law_stream : DSp) (sp__law_drawn : DSp) (sp__law_named : DSp) (sp_labels_of : DSp) (sp_counting_pins : DSp) (sp__law_counting : DSp) : DS :=
 (dFor (dIR1 (dCons (dC (.int 2)) dNil)) (gN 12)
 (law_1b sp__law_stream sp__law_drawn sp__law_named sp_labels_of sp_counting_pins sp__law_counting))
def law_2b (sp__law_stream : DSp) (sp__law_drawn : DSp) (sp__law_named : DSp) (sp_labels_of : DSp) (sp_counting_pins : DSp) (sp__law_counting : DSp) : DS :=
 (dAsg (dVar 10) (gSet 9 (dVar 11)))
def law_2 (sp__law_stream : DSp) (sp__law_drawn : DSp) (sp__law_named : DSp) (sp_labels_of : DSp) (sp_counting_pins : DSp) (sp__law_counting : DSp) : DS :=
 (dFor (dIT (d2V gIx (dVV 3) (d2V gIx (dVV 7) (dVar 10)))) (gN 11)
 (law_2b sp__law_stream sp__law_drawn sp__law_named sp_labels_of sp_counting_pins sp__law_counting))
def law_3b (sp__law_stream : DSp) (sp__law_drawn : DSp) (sp__law_named : DSp) (sp_labels_of : DSp) (sp_counting_pins : DSp) (sp__law_counting : DSp) : DS :=
 (law_2 sp__law_stream sp__law_drawn sp__law_named sp_labels_of sp_counting_pins sp__law_counting)
def law_3 (sp__law_stream : DSp) (sp__law_drawn : DSp) (sp__law_named : DSp) (sp_labels_of : DSp) (sp_counting_pins : DSp) (sp__law_counting : DSp) : DS :=
 (dFor (dIKs (dVar 7)) (gN 10)
 (law_3b sp__law_stream sp__law_drawn sp__law_named sp_labels_of sp_counting_pins sp__law_counting))
def law_4b (sp__law_stream : DSp) (sp__law_drawn : DSp) (sp__law_named : DSp) (sp_labels_of : DSp) (sp_counting_pins : DSp) (sp__law_counting : DSp) : DS :=
 (dSeq (dAsg (dCall 2 sp__law_stream (dCons (dVar 0) (dCons (dVar 1) dNil))) (gN 2))
 (dSeq (dAsg (dCall 1 sp__law_drawn (dCons (dVar 2) dNil)) (gTp 4 (gsCons (gN 3) (gsCons (gN 4) (gsCons (gN 5) (gsCons (gN 6) gsNil))))))
 (dSeq (dAsg (dCall 2 sp__law_named (dCons (dVar 2) (dCons (dVar 3) dNil))) (gN 7))
 (dSeq (dAsg (d1 gRepr (vCons (dVF (dTup (dCons (dVar 3) (dCons (dVar 7) (dCons (dVar 6) dNil))))) vNil)) (gN 8))
 (dSeq (dAsgO 9 dNewK)
 (dSeq (law_3 sp__law_stream sp__law_drawn sp__law_named sp_labels_of sp_counting_pins sp__law_counting)
 (dSeq (law_1 sp__law_stream sp__law_drawn sp__law_named sp_labels_of sp_counting_pins sp__law_counting)
 (dIfS (dOr (dTst (d2VV (gEqA true) (dVF (d1 gRepr (vCons (dVF (dTup (dCons (dVar 3) (dCons (dVar 7) (dCons (dVar 6) dNil))))) vNil))) (dVV 8))) (dOr (dTst (d2VV (gEqA true) (dVF (dCall 2 sp_labels_of (dCons (dFrz (dLst dNil)) (dCons (dFrz dNewK) dNil)))) (dVF (dFrz dNewK)))) (dTst (d2VV (gEqA true) (dVF (dCall 2 sp_counting_pins (dCons (dFrz (dLst dNil)) (dCons (dVar 6) dNil)))) (dVF (dFrz dNewK)))))) (dRet (dC (.bl false))) dNext))))))))
def law_4 (sp__law_stream : DSp) (sp__law_drawn : DSp) (sp__law_named : DSp) (sp_labels_of : DSp) (sp_counting_pins : DSp) (sp__law_counting : DSp) : DS :=
 (dFor (dIR1 (dCons (dC (.int 6)) dNil)) (gN 1)
 (law_4b sp__law_stream sp__law_drawn sp__law_named sp_labels_of sp_counting_pins sp__law_counting))
def t_law (sp__law_stream : DSp) (sp__law_drawn : DSp) (sp__law_named : DSp) (sp_labels_of : DSp) (sp_counting_pins : DSp) (sp__law_counting : DSp) : DS :=
 (dSeq (law_4 sp__law_stream sp__law_drawn sp__law_named sp_labels_of sp_counting_pins sp__law_counting)
 (dRet (dC (.bl true))))
end K27
end Mv
namespace Mv
namespace K27
open PySem PySem.Spec PyProof.Rows L2
def named4 : List Str := ["mm", "a", "zzzzzzzzzzzz", "b"]
structure NamesOk (n : Nat) (nm : List (Str × Nat)) : Prop where
  nd : (keysG nm).Nodup
  le : nm.length ≤ n
  mem : ∀ q ∈ nm, q.1 ∈ named4 ∧ q.2 < n
def sp_named : DSp := fun ds Q => ∃ gs, ds = [.obj 0, grsD gs] ∧ gs.length ≤ 4 ∧ ∀ nm, NamesOk gs.length nm → Q (.own (.dk (snD nm)))
theorem h_named (ds : List D) (Q' : S → Prop) (h : sp_named ds Q') : t__law_named sp_draw (DEnds.of Q') (startD 4 ds) := by
  obtain ⟨gs, rfl, hl, k⟩ := h
  refine ⟨_, rfl, (gs.map grD).length, rfl, ⟨by omega, by rw [List.length_map]; omega⟩, fun i δ => ∃ nm b3, δ = [fz (.obj 0), fz (grsD gs), ow (.dk (snD nm)), b3] ∧ (keysG nm).Nodup ∧ nm.length ≤ i ∧ ∀ q ∈ nm, q.1 ∈ named4 ∧ q.2 < gs.length, ⟨[], _, rfl, List.nodup_nil, Nat.le_refl _, fun _ h => nomatch h⟩, ?_, ?_⟩
  · rintro i d _ hd ⟨nm, b3, rfl, nd, hn, hm⟩
    have hi : i < gs.length := by
      have := (List.getElem?_eq_some_iff.mp hd).1
      simpa [rngD] using this
    obtain ⟨j, hj, rfl⟩ := map_get hd
    have ej : j = i := by
      have := List.getElem?_range (n := (((gs.map grD).length : Int) - 0).toNat) (i := i) (by rw [List.length_map]; omega)
      rw [this] at hj; exact (Option.some.inj hj).symm
    subst ej
    refine ⟨rfl, 3, rfl, by decide, by decide, fun q q0 q1 => ⟨_, rfl, ifb (fun _ => ?_) (fun _ => ?_)⟩⟩
    · obtain ⟨z, hz, hz4⟩ : ∃ z, named4[j]? = some z ∧ z ∈ named4 := by
        have : j < named4.length := by show j < 4; omega
        exact ⟨_, List.getElem?_eq_getElem this, List.getElem_mem this⟩
      have hat : atI (named4.map D.str) (0 + (j : Int)) = some (.str z) := by
        rw [Int.zero_add]
        exact atI_nat (j := j) (by rw [List.getElem?_map, hz]; rfl)
      refine ⟨⟨_, rfl⟩, (by show 4 ≤ sizeLine; decide), _, rfl, _, hat, .inr z, rfl, by rw [tyK_len]; have := sizeLine_eq; omega, putG nm z j, fz (.int (0 + (j : Int))), ?_, nodup_put nd _ _, by have := len_put nm z j; omega, fun q hq => ?_⟩
      · have h2 := tyK_put (f := Sum.inr) (g := fun p : Nat => D.int p) (fun a b => inr_inj) nm z j
        show _ = [fz (.obj 0), fz (grsD gs), ow (.dk (tyK Sum.inr (fun p : Nat => D.int p) (putG nm z j))), fz (.int (0 + (j : Int)))]
        rw [← h2, Int.zero_add]
        rfl
      · rcases mem_put hq with rfl | h
        · exact ⟨hz4, hi⟩
        · exact hm q h
    · exact ⟨nm, _, rfl, nd, by omega, hm⟩
  · rintro _ ⟨nm, b3, rfl, nd, hn, hm⟩
    refine k nm ⟨nd, ?_, hm⟩
    have : (rngD 0 ((gs.map grD).length : Int)).length = gs.length := by simp [rngD]
    omega
abbrev Z := Option S
abbrev st (ns : List Int) (a1 a3 a4 a5 a6 a7 a8 a9 a10 a11 a12 a13 a14 : Z) : Dl := [fz (.scr ns), a1, fz (.obj 0), a3, a4, a5, a6, a7, a8, a9, a10, a11, a12, a13, a14]
theorem pure_is {t : List (Int × Str)} (h : ∀ q ∈ t, PyData.strOk q.2 = true) : ∀ q ∈ isD t, Pure q.2 := fun q hq => by
  obtain ⟨x, hx, rfl⟩ := List.mem_map.mp hq
  exact (PureN.str (n := 0) (h x hx)).pure (by decide)
theorem pure_si {t : List (Str × Int)} : ∀ q ∈ siD t, Pure q.2 := fun q hq => by
  obtain ⟨x, hx, rfl⟩ := List.mem_map.mp hq
  exact (PureN.int (n := 0) x.2).pure (by decide)
theorem eq_is {t : List (Int × Str)} (nd : (keysG t).Nodup) (h : ∀ q ∈ t, PyData.strOk q.2 = true) : eqG (isD t) (isD t) = true :=
  eqG_same (n := 0) (tyK_nodup (fun a b => inl_inj) nd) (tyK_nodup (fun a b => inl_inj) nd) (fun _ => rfl) fun q hq => by
    obtain ⟨x, hx, rfl⟩ := List.mem_map.mp hq
    exact PureN.str (h x hx)
theorem eq_si {t : List (Str × Int)} (nd : (keysG t).Nodup) : eqG (siD t) (siD t) = true :=
  eqG_same (n := 0) (tyK_nodup (fun a b => inr_inj) nd) (tyK_nodup (fun a b => inr_inj) nd) (fun _ => rfl) fun q hq => by
    obtain ⟨x, hx, rfl⟩ := List.mem_map.mp hq
    exact PureN.int x.2
theorem putAll_mem {κ α : Type} [DecidableEq κ] : ∀ {ks : List κ} {acc : List (κ × α)} {v : α} {q : κ × α}, q ∈ putAll acc ks v → q.2 = v ∨ q ∈ acc
  | [], _, _, _, h => .inr h
  | k :: ks, acc, v, q, h => by
    rcases putAll_mem (ks := ks) (acc := putG acc k v) h with e | e
    · exact .inl e
    · rcases mem_put e with rfl | e
      · exact .inl rfl
      · exact .inr e
theorem labels_facts (gs : List (List Int)) : ∀ (nm : List (Str × Nat)) (acc : List (Int × Str)), (keysG acc).Nodup → (keysG (nm.foldl (fun a q => putAll a (gs.getD q.2 []) q.1) acc)).Nodup ∧ ∀ x ∈ nm.foldl (fun a q => putAll a (gs.getD q.2 []) q.1) acc, x ∈ acc ∨ ∃ q ∈ nm, x.2 = q.1
  | [], acc, h => ⟨h, fun x hx => .inl hx⟩
  | q :: nm, acc, h => by
    obtain ⟨h1, h2⟩ := labels_facts gs nm (putAll acc (gs.getD q.2 []) q.1) (putAll_nodup h _ _)
    refine ⟨h1, fun x hx => ?_⟩
    rcases h2 x hx with e | ⟨q', hq', e⟩
    · rcases putAll_mem e with e | e
      · exact .inr ⟨q, by simp, e⟩
      · exact .inl e
    · exact .inr ⟨q', by simp [hq'], e⟩
theorem named_ok : ∀ z ∈ named4, PyData.strOk z = true := by decide +kernel
theorem labels_ok {n : Nat} {gs : List (List Int)} {nm : List (Str × Nat)} (h : NamesOk n nm) : (keysG (labelsF gs nm)).Nodup ∧ ∀ x ∈ labelsF gs nm, PyData.strOk x.2 = true := by
  obtain ⟨h1, h2⟩ := labels_facts gs nm [] List.nodup_nil
  refine ⟨h1, fun x hx => ?_⟩
  rcases h2 x hx with e | ⟨q, hq, e⟩
  · cases e
  · rw [e]; exact named_ok _ (h.mem q hq).1
theorem count_nodup (gs : List (List Int)) (pins : List (Str × Int)) : ∀ (zs : List Str) (s : List (Str × Int) × List Nat), (keysG s.1).Nodup → (keysG (zs.foldl (countStep gs pins) s).1).Nodup
  | [], s, h => h
  | z :: zs, s, h => count_nodup gs pins zs _ (by
      unfold countStep
      split
      · split
        · split
          · exact h
          · exact nodup_put h _ _
        · exact h
      · exact h)
theorem countF_nodup (gs : List (List Int)) (pins : List (Str × Int)) : (keysG (countF gs pins)).Nodup := count_nodup gs pins _ _ List.nodup_nil
theorem mem_len {gs : List (List Int)} {g : List Int} (h : g ∈ gs) : g.length ≤ gs.flatten.length := by
  induction gs with
  | nil => cases h
  | cons x xs ih =>
    rw [List.flatten_cons, List.length_append]
    rcases List.mem_cons.mp h with e | e
    · subst e; omega
    · have := ih e; omega
theorem pin5_ok : ∀ z ∈ pin5, PyData.strOk z = true := by decide +kernel
theorem nodup_len : ∀ {α : Type} [DecidableEq α] {l m : List α}, l.Nodup → (∀ x ∈ l, x ∈ m) → l.length ≤ m.length := by
  intro α _ l
  induction l with
  | nil => intro m _ _; simp
  | cons a l ih =>
    intro m h hs
    have ha := List.nodup_cons.mp h
    have h1 : ∀ x ∈ l, x ∈ m.erase a := fun x hx => (List.mem_erase_of_ne (fun e : x = a => ha.1 (by rw [← e]; exact hx))).mpr (hs x (by simp [hx]))
    have h2 := ih ha.2 h1
    have h3 := List.length_erase_of_mem (hs a (by simp))
    have h4 : 0 < m.length := List.length_pos_of_mem (hs a (by simp))
    rw [List.length_cons]
    omega
theorem pins_in {gs : List (List Int)} {lb : List (Int × Str)} {wt : List (Int × Int)} {pn : List (Str × Int)} (M : Drawn gs lb wt pn) : PinsIn gs pn where
  gl := by have := M.gl; omega
  gm := fun g hg => by have := mem_len hg; have := M.fl; omega
  nd := M.nd
  pn := M.pk
  ps := fun z hz => by
    obtain ⟨q, hq, rfl⟩ := List.mem_map.mp hz
    exact pin5_ok _ (M.pr q hq).1
  pl := by
    have h1 := nodup_len M.pk (m := pin5) fun z hz => by
      obtain ⟨q, hq, rfl⟩ := List.mem_map.mp hz
      exact (M.pr q hq).1
    have h2 : (keysG pn).length = pn.length := by simp [keysG]
    have h3 : pin5.length = 5 := rfl
    omega
/-- one look at labels_of and counting_pins -/
theorem look_ok {ns : List Int} {gs : List (List Int)} {lb : List (Int × Str)} {wt : List (Int × Int)} {pn : List (Str × Int)} {nm : List (Str × Nat)} (M : Drawn gs lb wt pn) (N : NamesOk gs.length nm) {D' : DEnds} {a1 a4 a5 a8 a10 a11 a12 a13 a14 : Z}
    (k : ∀ b13 b14, D'.nx (st ns a1 (fz (grsD gs)) a4 a5 (fz (.dk (siD pn))) (fz (.dk (snD nm))) a8 (ow (.dk (isD (labelsF gs nm)))) a10 a11 a12 b13 b14)) :
    law_1b sp_stream sp_drawn sp_named sp_labels_of sp_counting_pins sp_law_counting D' (st ns a1 (fz (grsD gs)) a4 a5 (fz (.dk (siD pn))) (fz (.dk (snD nm))) a8 (ow (.dk (isD (labelsF gs nm)))) a10 a11 a12 a13 a14) := by
  obtain ⟨l1, l2⟩ := labels_ok (gs := gs) N
  have hsl : (sizeLine : Nat) = 16777216 := sizeLine_eq
  have hgl := M.gl
  have hnl := N.le
  have hgm : ∀ g ∈ gs, g.length ≤ 1000 := (pins_in M).gm
  have hll := labelsF_len hgm nm
  refine ⟨rfl, gs, nm, rfl, fun q hq => (N.mem q hq).2, by omega, hgm, ?_⟩
  refine ⟨_, rfl, _, _, rfl, rfl, .inl (.inr (.inl ⟨_, _, rfl, rfl, pure_is l2, pure_is l2, _, rfl, ifb (fun e => ?_) (fun e => ?_)⟩))⟩
  · have e : (!eqG (isD (labelsF gs nm)) (isD (labelsF gs nm))) = true := e
    rw [eq_is l1 l2] at e
    cases e
  refine ⟨_, _, true, rfl, rfl, by decide +kernel, _, rfl, ifb (fun e => nomatch (show (!true) = true from e)) (fun _ => ?_)⟩
  refine ⟨⟨_, rfl⟩, .inl 0, rfl, by rw [tyK_len]; omega, ?_⟩
  refine ⟨rfl, gs, pn, rfl, pins_in M, _, rfl, rfl, gs, pn, rfl, pins_in M, ?_⟩
  refine ⟨_, _, rfl, rfl, .inl (.inr (.inl ⟨_, _, rfl, rfl, pure_si, pure_si, _, rfl, ifb (fun e => ?_) (fun e => ?_)⟩))⟩
  · have e : (!eqG (siD (countF gs pn)) (siD (countF gs pn))) = true := e
    rw [eq_si (countF_nodup gs pn)] at e
    cases e
  refine ⟨_, _, true, rfl, rfl, by decide +kernel, _, rfl, ifb (fun e => nomatch (show (!true) = true from e)) (fun _ => ?_)⟩
  exact k _ _
theorem looks_ok {ns : List Int} {gs : List (List Int)} {lb : List (Int × Str)} {wt : List (Int × Int)} {pn : List (Str × Int)} {nm : List (Str × Nat)} (M : Drawn gs lb wt pn) (N : NamesOk gs.length nm) {D' : DEnds} {a1 a4 a5 a8 a10 a11 a12 a13 a14 : Z}
    (k : ∀ b12 b13 b14, D'.nx (st ns a1 (fz (grsD gs)) a4 a5 (fz (.dk (siD pn))) (fz (.dk (snD nm))) a8 (ow (.dk (isD (labelsF gs nm)))) a10 a11 b12 b13 b14)) :
    law_1 sp_stream sp_drawn sp_named sp_labels_of sp_counting_pins sp_law_counting D' (st ns a1 (fz (grsD gs)) a4 a5 (fz (.dk (siD pn))) (fz (.dk (snD nm))) a8 (ow (.dk (isD (labelsF gs nm)))) a10 a11 a12 a13 a14) := by
  refine ⟨2, rfl, ⟨by decide, by decide⟩, fun _ δ => ∃ b12 b13 b14, δ = st ns a1 (fz (grsD gs)) a4 a5 (fz (.dk (siD pn))) (fz (.dk (snD nm))) a8 (ow (.dk (isD (labelsF gs nm)))) a10 a11 b12 b13 b14, ⟨_, _, _, rfl⟩, ?_, ?_⟩
  · rintro i d _ hd ⟨b12, b13, b14, rfl⟩
    exact look_ok M N fun c13 c14 => ⟨_, _, _, rfl⟩
  · rintro _ ⟨b12, b13, b14, rfl⟩
    exact k _ _ _
/-- what is due, name by name -/
theorem due_ok {ns : List Int} {gs : List (List Int)} {lb : List (Int × Str)} {wt : List (Int × Int)} {pn : List (Str × Int)} {nm : List (Str × Nat)} (M : Drawn gs lb wt pn) (N : NamesOk gs.length nm) {D' : DEnds} {a1 a4 a5 a6 a8 a10 a11 a12 a13 a14 : Z}
    (k : ∀ b10 b11, D'.nx (st ns a1 (fz (grsD gs)) a4 a5 a6 (fz (.dk (snD nm))) a8 (ow (.dk (isD (labelsF gs nm)))) b10 b11 a12 a13 a14)) :
    law_3 sp_stream sp_drawn sp_named sp_labels_of sp_counting_pins sp_law_counting D' (st ns a1 (fz (grsD gs)) a4 a5 a6 (fz (.dk (snD nm))) a8 (ow (.dk [])) a10 a11 a12 a13 a14) := by
  have hgm : ∀ g ∈ gs, g.length ≤ 1000 := (pins_in M).gm
  refine ⟨fun i δ => ∃ b10 b11, δ = st ns a1 (fz (grsD gs)) a4 a5 a6 (fz (.dk (snD nm))) a8 (ow (.dk (isD (labelsF gs (nm.take i))))) b10 b11 a12 a13 a14, ⟨_, _, rfl⟩, ?_, ?_⟩
  · rintro i d _ hd ⟨b10, b11, rfl⟩
    obtain ⟨q, hq, rfl⟩ := map_get hd
    obtain ⟨z, p, hzp, rfl⟩ := tyK_get hq
    have hm := List.mem_of_getElem? hzp
    have hlt := (N.mem _ hm).2
    have hgp : gs[p]? = some gs[p] := List.getElem?_eq_getElem hlt
    have hl := hgm _ (List.getElem_mem hlt)
    generalize gs[p] = g at hgp hl
    have hat : atI (gs.map grD) (p : Int) = some (grD g) := atI_nat (j := p) (by rw [List.getElem?_map, hgp]; rfl)
    have ht : nm.take (i + 1) = nm.take i ++ [(z, p)] := by rw [List.take_add_one, hzp]; rfl
    have hL : labelsF gs (nm.take (i + 1)) = putAll (labelsF gs (nm.take i)) g z := by
      rw [ht]
      unfold labelsF
      rw [List.foldl_append]
      simp [List.getD_eq_getElem?_getD, hgp]
    have hz := labelsF_len hgm (nm.take i)
    have hi : (nm.take i).length ≤ 4 := by have h1 := N.le; have h2 := M.gl; rw [List.length_take]; omega
    have hv : valG (snD nm) (.inr z) = some (.int p) := by rw [tyK_val (fun a b => inr_inj), valG_of_mem N.nd hm]; rfl
    generalize labelsF gs (nm.take i) = t0 at hL hz ⊢
    refine ⟨_, rfl, .inr z, _, rfl, hv, _, rfl, _, hat, _, rfl, fun j δ => ∃ b11, δ = st ns a1 (fz (grsD gs)) a4 a5 a6 (fz (.dk (snD nm))) a8 (ow (.dk (isD (putAll t0 (g.take j) z)))) (fz (.str z)) b11 a12 a13 a14, ⟨_, rfl⟩, ?_, ?_⟩
    · rintro j d _ hd ⟨b11, rfl⟩
      obtain ⟨r, hr, rfl⟩ := map_get hd
      have hr2 : g.take (j + 1) = g.take j ++ [r] := by rw [List.take_add_one, hr]; rfl
      have h2 := putAll_len t0 (g.take j) z
      have h3 : (g.take j).length ≤ 1000 := by rw [List.length_take]; omega
      refine ⟨⟨_, rfl⟩, .inl r, rfl, ?_, fz (.int r), ?_⟩
      · rw [tyK_len]
        have : (sizeLine : Nat) = 16777216 := sizeLine_eq
        omega
      · rw [hr2, putAll_snoc]
        have h4 := tyK_put (f := Sum.inl) (g := D.str) (fun a b => inl_inj) (putAll t0 (g.take j) z) r z
        show _ = st ns a1 (fz (grsD gs)) a4 a5 a6 (fz (.dk (snD nm))) a8 (ow (.dk (tyK Sum.inl D.str (putG (putAll t0 (g.take j) z) r z)))) (fz (.str z)) (fz (.int r)) a12 a13 a14
        rw [← h4]
        rfl
    · rintro _ ⟨b11, rfl⟩
      rw [List.length_map, List.take_length, ← hL]
      exact ⟨_, _, rfl⟩
  · rintro _ ⟨b10, b11, rfl⟩
    rw [List.length_map, tyK_len, List.take_length]
    exact k _ _
theorem count_none (pn : List (Str × Int)) : countF [] pn = [] := by
  have key : ∀ zs : List Str, zs.foldl (countStep [] pn) ([], []) = ([], []) := by
    intro zs
    induction zs with
    | nil => rfl
    | cons z zs ih =>
      have e : countStep [] pn ([], []) z = ([], []) := by
        unfold countStep
        cases valG pn z <;> rfl
      rw [List.foldl_cons, e, ih]
  unfold countF countTo
  rw [key]
theorem pins_nil {gs : List (List Int)} {pn : List (Str × Int)} (h : PinsIn gs pn) : PinsIn [] pn := ⟨by decide, (fun _ h => nomatch h), List.nodup_nil, h.pn, h.ps, h.pl⟩
theorem turn_ok {ns : List Int} (hl : ns.length ≤ 63) (hb : ∀ z ∈ ns, Builtin.Int.intBits z ≤ 1048576) {s : Nat} (hs : s < 6) {D' : DEnds} {a2 a3 a4 a5 a6 a7 a8 a9 a10 a11 a12 a13 a14 : Z}
    (k : ∀ b2 b3 b4 b5 b6 b7 b8 b9 b10 b11 b12 b13 b14 : Z, D'.nx [fz (.scr ns), fz (.int s), b2, b3, b4, b5, b6, b7, b8, b9, b10, b11, b12, b13, b14]) :
    law_4b sp_stream sp_drawn sp_named sp_labels_of sp_counting_pins sp_law_counting D' [fz (.scr ns), fz (.int s), a2, a3, a4, a5, a6, a7, a8, a9, a10, a11, a12, a13, a14] := by
  refine ⟨rfl, ns, s, rfl, by omega, by omega, hb, ?_⟩
  refine ⟨rfl, rfl, fun gs lb wt pn M => ⟨_, rfl, rfl, _, _, rfl, _, _, rfl, _, _, rfl, _, _, rfl, rfl, ?_⟩⟩
  refine ⟨rfl, gs, rfl, M.gl, fun nm N => ?_⟩
  have P := pins_in M
  have i8 : ∀ i : Int, i.natAbs < 10 ^ 7 → Sh 0 8 (.int i) := fun i h => Sh.int (by decide) (by decide) h
  have hgv : Sh 2 (4 * (9 * (8 + 2) + 3 + 2) + 2) (grsD gs) := by
    refine Sh.lst (n := 1) (fun x hx => ?_) (by rw [List.length_map]; exact M.gl)
    obtain ⟨g, hg, rfl⟩ := List.mem_map.mp hx
    refine Sh.tup (n := 0) (fun y hy => ?_) (by rw [List.length_map]; have := mem_len hg; have := M.fl; omega)
    obtain ⟨r, hr, rfl⟩ := List.mem_map.mp hy
    have := M.rng r (List.mem_flatten.mpr ⟨g, hg, hr⟩)
    exact i8 r (by omega)
  have l12 : ∀ z : Str, (z ∈ named4 ∨ z ∈ pin5) → z.length ≤ 12 := by
    intro z h
    rcases h with h | h
    · simp only [named4, List.mem_cons, List.not_mem_nil, or_false] at h
      rcases h with rfl | rfl | rfl | rfl <;> decide +kernel
    · simp only [pin5, List.mem_cons, List.not_mem_nil, or_false] at h
      rcases h with rfl | rfl | rfl | rfl | rfl <;> decide +kernel
  have hnv : Sh 1 (4 * (122 + 8 + 4) + 2) (.dk (snD nm)) := by
    refine Sh.dk (n := 0) (fun q hq => ?_) (fun q hq => ?_) (by rw [tyK_len]; have := N.le; have := M.gl; omega)
    · obtain ⟨x, hx, rfl⟩ := List.mem_map.mp hq
      exact (ShP.str (named_ok _ (N.mem x hx).1)).mono (Nat.le_refl _) (by have := l12 _ (.inl (N.mem x hx).1); omega)
    · obtain ⟨x, hx, rfl⟩ := List.mem_map.mp hq
      have := (N.mem x hx).2
      have h2 := M.gl
      exact i8 _ (by omega)
  have hpv : Sh 1 (1000 * (122 + 8 + 4) + 2) (.dk (siD pn)) := by
    refine Sh.dk (n := 0) (fun q hq => ?_) (fun q hq => ?_) (by rw [tyK_len]; exact P.pl)
    · obtain ⟨x, hx, rfl⟩ := List.mem_map.mp hq
      exact (ShP.str (pin5_ok _ (M.pr x hx).1)).mono (Nat.le_refl _) (by have := l12 _ (.inr (M.pr x hx).1); omega)
    · obtain ⟨x, hx, rfl⟩ := List.mem_map.mp hq
      have := (M.pr x hx).2
      exact i8 _ (by omega)
  obtain ⟨px, hx, rx⟩ : ∃ px, toP (.tup [grsD gs, .dk (snD nm), .dk (siD pn)]) = some px ∧ ReprOk px := by
    refine (Sh.tup (n := 2) (b := 200000) (m := 3) (fun x hx => ?_) (Nat.le_refl _)).repr (by decide) (by decide)
    simp only [List.mem_cons, List.not_mem_nil, or_false] at hx
    rcases hx with rfl | rfl | rfl
    · exact hgv.mono (by decide) (by decide)
    · exact hnv.mono (by decide) (by decide)
    · exact hpv.mono (by decide) (by decide)
  refine ⟨(by show 3 ≤ sizeLine; decide), _, rfl, _, px, rfl, hx, rx, ?_⟩
  refine due_ok M N fun b10 b11 => ?_
  refine looks_ok M N fun b12 b13 b14 => ?_
  refine ⟨(by show 3 ≤ sizeLine; decide), _, rfl, _, px, rfl, hx, rx, _, _, rfl, rfl, .inr ⟨true, by simp [eqF], _, rfl, ifb (fun e => absurd e (by decide)) (fun _ => ?_)⟩⟩
  refine ⟨Nat.zero_le _, rfl, [], [], rfl, (fun _ h => nomatch h), by decide, (fun _ h => nomatch h), ?_⟩
  refine ⟨_, _, rfl, rfl, .inl (.inr (.inl ⟨[], [], rfl, rfl, (fun _ h => nomatch h), (fun _ h => nomatch h), _, rfl, ifb (fun e => nomatch (show false = true from e)) (fun _ => ?_)⟩))⟩
  refine ⟨Nat.zero_le _, rfl, [], pn, rfl, pins_nil P, ?_⟩
  rw [count_none]
  refine ⟨_, _, rfl, rfl, .inl (.inr (.inl ⟨[], [], rfl, rfl, (fun _ h => nomatch h), (fun _ h => nomatch h), _, rfl, ifb (fun e => nomatch (show false = true from e)) (fun _ => ?_)⟩))⟩
  exact k _ _ _ _ _ _ _ _ _ _ _ _ _
def sp_law : DSp := fun ds Q => ∃ ns : List Int, ds = [.scr ns] ∧ ns.length ≤ 63 ∧ (∀ z ∈ ns, Builtin.Int.intBits z ≤ 1048576) ∧ Q (.fz (.bl true))
theorem h_law (ds : List D) (Q' : S → Prop) (_ : ds.length = 1) (h : sp_law ds Q') : t_law sp_stream sp_drawn sp_named sp_labels_of sp_counting_pins sp_law_counting (DEnds.of Q') (startD 15 ds) := by
  obtain ⟨ns, rfl, hl, hb, q⟩ := h
  refine ⟨6, rfl, ⟨by decide, by decide⟩, fun i δ => ∃ a1 a2 a3 a4 a5 a6 a7 a8 a9 a10 a11 a12 a13 a14 : Z, δ = [fz (.scr ns), a1, a2, a3, a4, a5, a6, a7, a8, a9, a10, a11, a12, a13, a14], ⟨_, _, _, _, _, _, _, _, _, _, _, _, _, _, rfl⟩, ?_, ?_⟩
  · rintro i d _ hd ⟨a1, a2, a3, a4, a5, a6, a7, a8, a9, a10, a11, a12, a13, a14, rfl⟩
    have hi : i < 6 := by
      have := (List.getElem?_eq_some_iff.mp hd).1
      simpa [rngD] using this
    obtain ⟨j, hj, rfl⟩ := map_get hd
    have ej : j = i := by
      have := List.getElem?_range (n := ((6 : Int) - 0).toNat) (i := i) (by omega)
      rw [this] at hj; exact (Option.some.inj hj).symm
    subst ej
    rw [Int.zero_add]
    exact turn_ok hl hb hi fun c2 c3 c4 c5 c6 c7 c8 c9 c10 c11 c12 c13 c14 => ⟨_, _, _, _, _, _, _, _, _, _, _, _, _, _, rfl⟩
  · rintro _ ⟨a1, a2, a3, a4, a5, a6, a7, a8, a9, a10, a11, a12, a13, a14, rfl⟩
    exact q
end K27
end Mv

namespace Mv
namespace K27
open PySem PySem.Spec PyProof.Rows L2
section
variable {P : Program} {w : World} {K : PySem.W.Frag} {mg : Str → Option Value} {base : Heap}
theorem ok__law_stream {f : Addr} {fd : FuncData} {sp : DSp}
    (F : Fun K "_law_stream" "_law_stream" s__law_stream f fd)
    (m_len : mg "len" = none)
    (hs : ∀ ds Q', ds.length = 2 → sp ds Q' → (t__law_stream) { nx := fun _ => Q' (.fz .non), rt := Q' } (startD 5 ds)) : FnOk P w K mg base CX0 1 f fd ["_law_script", "_law_start"] (spD K 2 sp) := by
  refine okD (k := 0) F sc__law_stream fun cdv A outer s H E hr => ?_
  have sc := sc__law_stream
  have hu200 : (A.deeper (envOfC "_law_stream" (defScope s__law_stream) s.heap.objs.size f cdv)).units + 200 < cLine := by have := hr.un; omega
  have hu80 := Nat.lt_of_le_of_lt (Nat.add_le_add_left (by decide : 80 ≤ 200) _) hu200
  have hu := Nat.lt_of_le_of_lt (Nat.add_le_add_left (by decide : 1 ≤ 200) _) hu200
  exact ⟨(t__law_stream), (qs_cons (ss_set (i := 2) sc.nd rfl (by first | exact .inl rfl | exact .inr rfl) (pd_add pd_int (pdv 1)))
 (qs_cons (ss_for PassesOwn.never rfl (ip_list (pdv 0)) (ug_name (pg_name (i := 3) sc.nd rfl (by first | exact .inl rfl | exact .inr rfl)))
 (qs_one (ss_set (i := 2) sc.nd rfl (by first | exact .inl rfl | exact .inr rfl) (pd_add (pd_mod (pd_pow (pd_add (pd_mul (pdv 2) pd_int) (pdv 3)) pd_int) pd_int) pd_int))))
 (qs_cons (ss_set (i := 4) sc.nd rfl (by first | exact .inl rfl | exact .inr rfl) pd_int)
 (qs_cons (ss_if ((qw_and (qt_lt (pdv 1) (pd_len (by rfl) m_len (vdv 0))) (qw_and1 (qt_ge (pd_ix hu (vdv 0) (pdv 1)) (pd_pow pd_int pd_int))))).pt (qs_one (ss_set (i := 4) sc.nd rfl (by first | exact .inl rfl | exact .inr rfl) (pd_sub (pd_ix hu (vdv 0) (pdv 1)) (pd_pow pd_int pd_int)))) qs_nil)
 (qs_one (ss_ret (pstrm (po_lst (pdc (pdv 4) (pdc (pdv 2) pdn)))))))))), hs⟩
theorem ok__law_draw {f : Addr} {fd : FuncData} {sp : DSp}
    (F : Fun K "_law_draw" "_law_draw" s__law_draw f fd)
    (hs : ∀ ds Q', ds.length = 2 → sp ds Q' → (t__law_draw) { nx := fun _ => Q' (.fz .non), rt := Q' } (startD 3 ds)) : FnOk P w K mg base CX0 1 f fd ["_law_stream_here", "_law_size"] (spD K 2 sp) := by
  refine okD (k := 0) F sc__law_draw fun cdv A outer s H E hr => ?_
  have sc := sc__law_draw
  have hu200 : (A.deeper (envOfC "_law_draw" (defScope s__law_draw) s.heap.objs.size f cdv)).units + 200 < cLine := by have := hr.un; omega
  have hu80 := Nat.lt_of_le_of_lt (Nat.add_le_add_left (by decide : 80 ≤ 200) _) hu200
  have hu := Nat.lt_of_le_of_lt (Nat.add_le_add_left (by decide : 1 ≤ 200) _) hu200
  exact ⟨(t__law_draw), (qs_cons (ss_if (qt_ge (pd_ixS (pdv 0) pd_int) (pdv 1)) (qs_cons (ss_set (i := 2) sc.nd rfl (by first | exact .inl rfl | exact .inr rfl) (pd_mod (pd_ixS (pdv 0) pd_int) (pdv 1)))
 (qs_cons (ss_asg (pd_div (pd_ixS (pdv 0) pd_int) (pdv 1)) (ug_setS (pdv 0) pd_int))
 (qs_one (ss_retV (pv 2))))) qs_nil)
 (qs_cons (ss_asg (pd_mod (pd_add (pd_mul (pd_ixS (pdv 0) pd_int) pd_int) pd_int) pd_int) (ug_setS (pdv 0) pd_int))
 (qs_one (ss_ret (pd_mod (pd_div (pd_mod (pd_pow (pd_mod (pd_pow (pd_ixS (pdv 0) pd_int) pd_int) pd_int) pd_int) pd_int) pd_int) (pdv 1)))))), hs⟩
theorem ok__law_choose {f : Addr} {fd : FuncData} {sp : DSp}
    {f__law_draw : Addr} {fd__law_draw : FuncData} {sp__law_draw : DSp}
    (F : Fun K "_law_choose" "_law_choose" s__law_choose f fd)
    (G__law_draw : FnOk P w K mg base CX0 1 f__law_draw fd__law_draw ["_law_stream_here", "_law_size"] (spD K 2 sp__law_draw)) (m__law_draw : mg "_law_draw" = some (.ref f__law_draw)) (k__law_draw : PySem.W.keepIn K (.ref f__law_draw) = true) (b__law_draw : Binds K fd__law_draw ["_law_stream_here", "_law_size"] [])
    (m_len : mg "len" = none)
    (hs : ∀ ds Q', ds.length = 2 → sp ds Q' → (t__law_choose sp__law_draw) { nx := fun _ => Q' (.fz .non), rt := Q' } (startD 2 ds)) : FnOk P w K mg base CX0 2 f fd ["_law_stream_here", "_law_items"] (spD K 2 sp) := by
  refine okD (k := 1) F sc__law_choose fun cdv A outer s H E hr => ?_
  have sc := sc__law_choose
  have hu200 : (A.deeper (envOfC "_law_choose" (defScope s__law_choose) s.heap.objs.size f cdv)).units + 200 < cLine := by have := hr.un; omega
  have hu80 := Nat.lt_of_le_of_lt (Nat.add_le_add_left (by decide : 80 ≤ 200) _) hu200
  have hu := Nat.lt_of_le_of_lt (Nat.add_le_add_left (by decide : 1 ≤ 200) _) hu200
  exact ⟨(t__law_choose sp__law_draw), (qs_one (ss_ret (pd_ix hu (vdv 1) (pcall (K := K) (n := 2) (sp := sp__law_draw) (pe_call G__law_draw (hr.mono (by decide)) (by rfl) m__law_draw k__law_draw b__law_draw .nil pass0 (pdc (pdv 0) (pdc (pd_len (by rfl) m_len (vdv 1)) pdn))))))), hs⟩
theorem ok__law_drawn {f : Addr} {fd : FuncData} {sp : DSp}
    {f__law_draw : Addr} {fd__law_draw : FuncData} {sp__law_draw : DSp}
    {f__law_choose : Addr} {fd__law_choose : FuncData} {sp__law_choose : DSp}
    (F : Fun K "_law_drawn" "_law_drawn" s__law_drawn f fd)
    (G__law_draw : FnOk P w K mg base CX0 1 f__law_draw fd__law_draw ["_law_stream_here", "_law_size"] (spD K 2 sp__law_draw)) (m__law_draw : mg "_law_draw" = some (.ref f__law_draw)) (k__law_draw : PySem.W.keepIn K (.ref f__law_draw) = true) (b__law_draw : Binds K fd__law_draw ["_law_stream_here", "_law_size"] [])
    (G__law_choose : FnOk P w K mg base CX0 2 f__law_choose fd__law_choose ["_law_stream_here", "_law_items"] (spD K 2 sp__law_choose)) (m__law_choose : mg "_law_choose" = some (.ref f__law_choose)) (k__law_choose : PySem.W.keepIn K (.ref f__law_choose) = true) (b__law_choose : Binds K fd__law_choose ["_law_stream_here", "_law_items"] [])
    (m_range : mg "range" = none)
    (m_tuple : mg "tuple" = none)
    (m_sorted : mg "sorted" = none)
    (m_int : mg "int" = none)
    (m_len : mg "len" = none)
    (m_list : mg "list" = none)
    (hs : ∀ ds Q', ds.length = 1 → sp ds Q' → (t__law_drawn sp__law_draw sp__law_choose) { nx := fun _ => Q' (.fz .non), rt := Q' } (startD 11 ds)) : FnOk P w K mg base CX0 3 f fd ["_law_stream_here"] (spD K 1 sp) := by
  refine okD (k := 2) F sc__law_drawn fun cdv A outer s H E hr => ?_
  have sc := sc__law_drawn
  have hu200 : (A.deeper (envOfC "_law_drawn" (defScope s__law_drawn) s.heap.objs.size f cdv)).units + 200 < cLine := by have := hr.un; omega
  have hu80 := Nat.lt_of_le_of_lt (Nat.add_le_add_left (by decide : 80 ≤ 200) _) hu200
  have hu := Nat.lt_of_le_of_lt (Nat.add_le_add_left (by decide : 1 ≤ 200) _) hu200
  exact ⟨(t__law_drawn sp__law_draw sp__law_choose), (qs_cons (ss_par2 (i := 1) (j := 2) rfl sc.nd rfl rfl (by decide) rfl rfl (mmo (po_listRg2 rfl (by rfl) m_list (by rfl) m_range pd_int pd_int) (mmf (pfz (po_lst pdn)) mmn)) rfl)
 (qs_cons (ss_for PassesOwn.never rfl (ip_rng1 (by rfl) m_range (pdc (pcall (K := K) (n := 2) (sp := sp__law_draw) (pe_call G__law_draw (hr.mono (by decide)) (by rfl) m__law_draw k__law_draw b__law_draw .nil pass0 (pdc (pdv 0) (pdc pd_int pdn)))) pdn)) (ug_name (pg_name (i := 3) sc.nd rfl (by first | exact .inl rfl | exact .inr rfl)))
 (qs_cons (ss_setO (i := 4) sc.nd rfl (by first | exact .inl rfl | exact .inr rfl) (po_lst pdn))
 (qs_cons (ss_for PassesOwn.never rfl (ip_rng1 (by rfl) m_range (pdc (pd_add pd_int (pcall (K := K) (n := 2) (sp := sp__law_draw) (pe_call G__law_draw (hr.mono (by decide)) (by rfl) m__law_draw k__law_draw b__law_draw .nil pass0 (pdc (pdv 0) (pdc pd_int pdn))))) pdn)) (ug_name (pg_name (i := 5) sc.nd rfl (by first | exact .inl rfl | exact .inr rfl)))
 (qs_one (ss_if (qcm (op_neA hu80) (vdv 1) (vf (pfz (po_lst pdn))) (nomark _)) (qs_one (ss_app (pe_bm PySem.F.plainAttrs_list PySem.F.slot_list_append PySem.F.type_list_append mt_append (pv 4) (pa_cons (pd_popAt (pe_bm PySem.F.plainAttrs_list PySem.F.slot_list_pop PySem.F.type_list_pop mt_popAt (pv 1) (pa_cons (pcall (K := K) (n := 2) (sp := sp__law_draw) (pe_call G__law_draw (hr.mono (by decide)) (by rfl) m__law_draw k__law_draw b__law_draw .nil pass0 (pdc (pdv 0) (pdc (pd_len (by rfl) m_len (vdv 1)) pdn)))) pa_nil))) pa_nil)))) qs_nil)))
 (qs_one (ss_set (i := 2) sc.nd rfl (by first | exact .inl rfl | exact .inr rfl) (pfz (pb2O op_catL (vdv 2) (vf (pfz (po_rep (po_lst (pdc (pct (c_tuple) (by rfl) m_tuple (by decide +kernel) (vvc (vf (pfz (pcbO (c_sorted rfl hu200) (by rfl) m_sorted (by decide +kernel) (vvc (vdv 4) vvn)))) vvn)) pdn)) (pct (c_int) (by rfl) m_int (by decide +kernel) (vvc (vf (pcm (op_neA hu80) (vdv 4) (vf (pfz (po_lst pdn))) (nomark _))) vvn))))))))))))
 (qs_cons (ss_par2 (i := 6) (j := 7) rfl sc.nd rfl rfl (by decide) rfl rfl (mmo po_newK (mmo po_newK mmn)) rfl)
 (qs_cons (ss_for PassesOwn.never rfl (ip_rng2 (by rfl) m_range (pdc pd_int (pdc pd_int pdn))) (ug_name (pg_name (i := 8) sc.nd rfl (by first | exact .inl rfl | exact .inr rfl)))
 (qs_cons (ss_if (qt_gt (pcall (K := K) (n := 2) (sp := sp__law_draw) (pe_call G__law_draw (hr.mono (by decide)) (by rfl) m__law_draw k__law_draw b__law_draw .nil pass0 (pdc (pdv 0) (pdc pd_int pdn)))) pd_int) (qs_one (ss_asg (pcall (K := K) (n := 2) (sp := sp__law_choose) (pe_call G__law_choose (hr.mono (by decide)) (by rfl) m__law_choose k__law_choose b__law_choose .nil pass0 (pdc (pdv 0) (pdc (pfz (po_lst (pdc pd_str (pdc pd_str (pdc pd_str (pdc pd_str pdn)))))) pdn)))) (ug_set hu (pv 6) (pdv 8)))) qs_nil)
 (qs_one (ss_asg (pcall (K := K) (n := 2) (sp := sp__law_choose) (pe_call G__law_choose (hr.mono (by decide)) (by rfl) m__law_choose k__law_choose b__law_choose .nil pass0 (pdc (pdv 0) (pdc (pfz (po_lst (pdc pd_int (pdc pd_int (pdc pd_int (pdc pd_int (pdc (pd_add pd_int (pcall (K := K) (n := 2) (sp := sp__law_draw) (pe_call G__law_draw (hr.mono (by decide)) (by rfl) m__law_draw k__law_draw b__law_draw .nil pass0 (pdc (pdv 0) (pdc pd_int pdn))))) (pdc (pd_pow pd_int pd_int) pdn)))))))) pdn)))) (ug_set hu (pv 7) (pdv 8))))))
 (qs_cons (ss_setO (i := 9) sc.nd rfl (by first | exact .inl rfl | exact .inr rfl) po_newK)
 (qs_cons (ss_for PassesOwn.never rfl (ip_list (pfz (po_lst (pdc pd_str (pdc pd_str (pdc pd_str (pdc pd_str (pdc pd_str pdn)))))))) (ug_name (pg_name (i := 10) sc.nd rfl (by first | exact .inl rfl | exact .inr rfl)))
 (qs_one (ss_if (qcm (op_eqA hu80) (vf (pcall (K := K) (n := 2) (sp := sp__law_draw) (pe_call G__law_draw (hr.mono (by decide)) (by rfl) m__law_draw k__law_draw b__law_draw .nil pass0 (pdc (pdv 0) (pdc pd_int pdn))))) (vf pd_int) (nomark _)) (qs_one (ss_asg (pd_add pd_int (pcall (K := K) (n := 2) (sp := sp__law_draw) (pe_call G__law_draw (hr.mono (by decide)) (by rfl) m__law_draw k__law_draw b__law_draw .nil pass0 (pdc (pdv 0) (pdc pd_int pdn))))) (ug_set hu (pv 9) (pdv 10)))) qs_nil)))
 (qs_one (ss_ret (pd_tup (pdc (pdv 2) (pdc (pdv 6) (pdc (pdv 7) (pdc (pdv 9) pdn))))))))))))), hs⟩
theorem ok__law_named {f : Addr} {fd : FuncData} {sp : DSp}
    {f__law_draw : Addr} {fd__law_draw : FuncData} {sp__law_draw : DSp}
    (F : Fun K "_law_named" "_law_named" s__law_named f fd)
    (G__law_draw : FnOk P w K mg base CX0 1 f__law_draw fd__law_draw ["_law_stream_here", "_law_size"] (spD K 2 sp__law_draw)) (m__law_draw : mg "_law_draw" = some (.ref f__law_draw)) (k__law_draw : PySem.W.keepIn K (.ref f__law_draw) = true) (b__law_draw : Binds K fd__law_draw ["_law_stream_here", "_law_size"] [])
    (m_len : mg "len" = none)
    (m_range : mg "range" = none)
    (hs : ∀ ds Q', ds.length = 2 → sp ds Q' → (t__law_named sp__law_draw) { nx := fun _ => Q' (.fz .non), rt := Q' } (startD 4 ds)) : FnOk P w K mg base CX0 2 f fd ["_law_stream_here", "_law_groups"] (spD K 2 sp) := by
  refine okD (k := 1) F sc__law_named fun cdv A outer s H E hr => ?_
  have sc := sc__law_named
  have hu200 : (A.deeper (envOfC "_law_named" (defScope s__law_named) s.heap.objs.size f cdv)).units + 200 < cLine := by have := hr.un; omega
  have hu80 := Nat.lt_of_le_of_lt (Nat.add_le_add_left (by decide : 80 ≤ 200) _) hu200
  have hu := Nat.lt_of_le_of_lt (Nat.add_le_add_left (by decide : 1 ≤ 200) _) hu200
  exact ⟨(t__law_named sp__law_draw), (qs_cons (ss_setO (i := 2) sc.nd rfl (by first | exact .inl rfl | exact .inr rfl) po_newK)
 (qs_cons (ss_for PassesOwn.never rfl (ip_rng1 (by rfl) m_range (pdc (pd_len (by rfl) m_len (vdv 1)) pdn)) (ug_name (pg_name (i := 3) sc.nd rfl (by first | exact .inl rfl | exact .inr rfl)))
 (qs_one (ss_if (qt_gt (pcall (K := K) (n := 2) (sp := sp__law_draw) (pe_call G__law_draw (hr.mono (by decide)) (by rfl) m__law_draw k__law_draw b__law_draw .nil pass0 (pdc (pdv 0) (pdc pd_int pdn)))) pd_int) (qs_one (ss_asg (pdv 3) (ug_set hu (pv 2) (pd_ix hu (vf (pfz (po_lst (pdc pd_str (pdc pd_str (pdc pd_str (pdc pd_str pdn))))))) (pdv 3))))) qs_nil)))
 (qs_one (ss_retV (pv 2))))), hs⟩
theorem ok_labels_of {f : Addr} {fd : FuncData} {sp : DSp}
    (F : Fun K "labels_of" "labels_of" s_labels_of f fd)
    (hs : ∀ ds Q', ds.length = 2 → sp ds Q' → (t_labels_of) { nx := fun _ => Q' (.fz .non), rt := Q' } (startD 5 ds)) : FnOk P w K mg base CX0 1 f fd ["groups", "names"] (spD K 2 sp) := by
  refine okD (k := 0) F sc_labels_of fun cdv A outer s H E hr => ?_
  have sc := sc_labels_of
  have hu200 : (A.deeper (envOfC "labels_of" (defScope s_labels_of) s.heap.objs.size f cdv)).units + 200 < cLine := by have := hr.un; omega
  have hu80 := Nat.lt_of_le_of_lt (Nat.add_le_add_left (by decide : 80 ≤ 200) _) hu200
  have hu := Nat.lt_of_le_of_lt (Nat.add_le_add_left (by decide : 1 ≤ 200) _) hu200
  exact ⟨(t_labels_of), (qs_one (ss_retO (po_dc (dcu2 (own := [("name", 2), ("place", 3), ("row_id", 4)]) (vs1 := [4]) .k rfl sc.nd hu (ip_items (pdv 1)) (blkOk_by (own := [("name", 2), ("place", 3), ("row_id", 4)]) (N := N_labels_of) (sc := defScope s_labels_of) (by decide +kernel)) (fun _ _ _ _ _ => (pg_tup rfl (pgs_cons (pg_name (i := 2) sc.nd rfl (by first | exact .inl rfl | exact .inr rfl)) (pgs_cons (pg_name (i := 3) sc.nd rfl (by first | exact .inl rfl | exact .inr rfl)) pgs_nil)) (by rfl) (by rfl))) (fun _ _ _ _ _ => tests_nil) (fun _ _ _ _ _ => (ip_tup (pd_ix hu (vdv 0) (pdv 3)))) (fun _ _ _ _ _ => (pg_name (i := 4) sc.nd rfl (by first | exact .inl rfl | exact .inr rfl))) (fun _ _ _ _ _ => tests_nil) (fun _ _ _ _ _ => (pdv 4)) (fun _ _ _ _ _ => (pdv 2)) (ct_tup (cts_cons ct_name (cts_cons ct_name cts_nil))) ct_name (by decide))))), hs⟩
theorem ok_places_of {f : Addr} {fd : FuncData} {sp : DSp}
    (F : Fun K "places_of" "places_of" s_places_of f fd)
    (m_enumerate : mg "enumerate" = none)
    (hs : ∀ ds Q', ds.length = 1 → sp ds Q' → (t_places_of) { nx := fun _ => Q' (.fz .non), rt := Q' } (startD 4 ds)) : FnOk P w K mg base CX0 1 f fd ["groups"] (spD K 1 sp) := by
  refine okD (k := 0) F sc_places_of fun cdv A outer s H E hr => ?_
  have sc := sc_places_of
  have hu200 : (A.deeper (envOfC "places_of" (defScope s_places_of) s.heap.objs.size f cdv)).units + 200 < cLine := by have := hr.un; omega
  have hu80 := Nat.lt_of_le_of_lt (Nat.add_le_add_left (by decide : 80 ≤ 200) _) hu200
  have hu := Nat.lt_of_le_of_lt (Nat.add_le_add_left (by decide : 1 ≤ 200) _) hu200
  exact ⟨(t_places_of), (qs_one (ss_retO (po_dc (dcu2 (own := [("place", 1), ("group", 2), ("row_id", 3)]) (vs1 := [3]) .k rfl sc.nd hu (ip_enum (by rfl) m_enumerate (pdc (pdv 0) pdn)) (blkOk_by (own := [("place", 1), ("group", 2), ("row_id", 3)]) (N := N_places_of) (sc := defScope s_places_of) (by decide +kernel)) (fun _ _ _ _ _ => (pg_tup rfl (pgs_cons (pg_name (i := 1) sc.nd rfl (by first | exact .inl rfl | exact .inr rfl)) (pgs_cons (pg_name (i := 2) sc.nd rfl (by first | exact .inl rfl | exact .inr rfl)) pgs_nil)) (by rfl) (by rfl))) (fun _ _ _ _ _ => tests_nil) (fun _ _ _ _ _ => (ip_tup (pdv 2))) (fun _ _ _ _ _ => (pg_name (i := 3) sc.nd rfl (by first | exact .inl rfl | exact .inr rfl))) (fun _ _ _ _ _ => tests_nil) (fun _ _ _ _ _ => (pdv 3)) (fun _ _ _ _ _ => (pdv 1)) (ct_tup (cts_cons ct_name (cts_cons ct_name cts_nil))) ct_name (by decide))))), hs⟩
theorem ok_counting_pins {f : Addr} {fd : FuncData} {sp : DSp}
    {f_places_of : Addr} {fd_places_of : FuncData} {sp_places_of : DSp}
    (F : Fun K "counting_pins" "counting_pins" s_counting_pins f fd)
    (G_places_of : FnOk P w K mg base CX0 1 f_places_of fd_places_of ["groups"] (spD K 1 sp_places_of)) (m_places_of : mg "places_of" = some (.ref f_places_of)) (k_places_of : PySem.W.keepIn K (.ref f_places_of) = true) (b_places_of : Binds K fd_places_of ["groups"] [])
    (m_sorted : mg "sorted" = none)
    (hs : ∀ ds Q', ds.length = 2 → sp ds Q' → (t_counting_pins sp_places_of) { nx := fun _ => Q' (.fz .non), rt := Q' } (startD 7 ds)) : FnOk P w K mg base CX0 2 f fd ["groups", "pins"] (spD K 2 sp) := by
  refine okD (k := 1) F sc_counting_pins fun cdv A outer s H E hr => ?_
  have sc := sc_counting_pins
  have hu200 : (A.deeper (envOfC "counting_pins" (defScope s_counting_pins) s.heap.objs.size f cdv)).units + 200 < cLine := by have := hr.un; omega
  have hu80 := Nat.lt_of_le_of_lt (Nat.add_le_add_left (by decide : 80 ≤ 200) _) hu200
  have hu := Nat.lt_of_le_of_lt (Nat.add_le_add_left (by decide : 1 ≤ 200) _) hu200
  exact ⟨(t_counting_pins sp_places_of), (qs_cons (ss_set (i := 2) sc.nd rfl (by first | exact .inl rfl | exact .inr rfl) (pcall (K := K) (n := 1) (sp := sp_places_of) (pe_call G_places_of (hr.mono (by decide)) (by rfl) m_places_of k_places_of b_places_of .nil pass0 (pdc (pdv 0) pdn))))
 (qs_cons (ss_setO (i := 3) sc.nd rfl (by first | exact .inl rfl | exact .inr rfl) po_newK)
 (qs_cons (ss_setO (i := 4) sc.nd rfl (by first | exact .inl rfl | exact .inr rfl) po_newK)
 (qs_cons (ss_for PassesOwn.never rfl (ip_list (pfz (pcbO (c_sorted rfl hu200) (by rfl) m_sorted (by decide +kernel) (vvc (vdv 1) vvn)))) (ug_name (pg_name (i := 5) sc.nd rfl (by first | exact .inl rfl | exact .inr rfl)))
 (qs_cons (ss_set (i := 6) sc.nd rfl (by first | exact .inl rfl | exact .inr rfl) (pd_get1 hu (vdv 2) (pd_ix hu (vdv 1) (pdv 5))))
 (qs_one (ss_if ((qw_and (qt_notN (pdv 6) pd_non) (qw_and1 (qt_nin hu (pdv 6) (vdv 4))))).pt (qs_cons (ss_asg (pdv 5) (ug_set hu (pv 4) (pdv 6)))
 (qs_one (ss_asg (pd_ix hu (vdv 1) (pdv 5)) (ug_set hu (pv 3) (pdv 5))))) qs_nil))))
 (qs_one (ss_retV (pv 3))))))), hs⟩
theorem ok__law_place {f : Addr} {fd : FuncData} {sp : DSp}
    (F : Fun K "_law_place" "_law_place" s__law_place f fd)
    (m_enumerate : mg "enumerate" = none)
    (hs : ∀ ds Q', ds.length = 2 → sp ds Q' → (t__law_place) { nx := fun _ => Q' (.fz .non), rt := Q' } (startD 5 ds)) : FnOk P w K mg base CX0 1 f fd ["_law_groups", "_law_row_id"] (spD K 2 sp) := by
  refine okD (k := 0) F sc__law_place fun cdv A outer s H E hr => ?_
  have sc := sc__law_place
  have hu200 : (A.deeper (envOfC "_law_place" (defScope s__law_place) s.heap.objs.size f cdv)).units + 200 < cLine := by have := hr.un; omega
  have hu80 := Nat.lt_of_le_of_lt (Nat.add_le_add_left (by decide : 80 ≤ 200) _) hu200
  have hu := Nat.lt_of_le_of_lt (Nat.add_le_add_left (by decide : 1 ≤ 200) _) hu200
  exact ⟨(t__law_place), (qs_cons (ss_setLc (i := 2) (own := [("_law_place_here", 3), ("_law_group", 4)]) rfl sc.nd rfl rfl (sw_true rfl rfl rfl (by decide +kernel)) (ip_enum (by rfl) m_enumerate (pdc (pdv 0) pdn)) (blkOk_by (own := [("_law_place_here", 3), ("_law_group", 4)]) (N := N__law_place) (sc := defScope s__law_place) (by decide +kernel)) (fun _ _ _ _ _ => (pg_tup rfl (pgs_cons (pg_name (i := 3) sc.nd rfl (by first | exact .inl rfl | exact .inr rfl)) (pgs_cons (pg_name (i := 4) sc.nd rfl (by first | exact .inl rfl | exact .inr rfl)) pgs_nil)) (by rfl) (by rfl))) (fun _ _ _ _ _ => (tests_one (qt_in hu (pdv 1) (vdv 4)))) (fun _ _ _ _ _ => (pdv 3)) (ct_tup (cts_cons ct_name (cts_cons ct_name cts_nil))))
 (qs_one (ss_ret (pd_if (qcm (op_neA hu80) (vdv 2) (vf (pfz (po_lst pdn))) (nomark _)) (pd_ix hu (vdv 2) pd_int) pd_non)))), hs⟩
theorem ok__law_counting {f : Addr} {fd : FuncData} {sp : DSp}
    {f__law_place : Addr} {fd__law_place : FuncData} {sp__law_place : DSp}
    (F : Fun K "_law_counting" "_law_counting" s__law_counting f fd)
    (G__law_place : FnOk P w K mg base CX0 1 f__law_place fd__law_place ["_law_groups", "_law_row_id"] (spD K 2 sp__law_place)) (m__law_place : mg "_law_place" = some (.ref f__law_place)) (k__law_place : PySem.W.keepIn K (.ref f__law_place) = true) (b__law_place : Binds K fd__law_place ["_law_groups", "_law_row_id"] [])
    (m_sorted : mg "sorted" = none)
    (hs : ∀ ds Q', ds.length = 2 → sp ds Q' → (t__law_counting sp__law_place) { nx := fun _ => Q' (.fz .non), rt := Q' } (startD 6 ds)) : FnOk P w K mg base CX0 2 f fd ["_law_groups", "_law_stuck"] (spD K 2 sp) := by
  refine okD (k := 1) F sc__law_counting fun cdv A outer s H E hr => ?_
  have sc := sc__law_counting
  have hu200 : (A.deeper (envOfC "_law_counting" (defScope s__law_counting) s.heap.objs.size f cdv)).units + 200 < cLine := by have := hr.un; omega
  have hu80 := Nat.lt_of_le_of_lt (Nat.add_le_add_left (by decide : 80 ≤ 200) _) hu200
  have hu := Nat.lt_of_le_of_lt (Nat.add_le_add_left (by decide : 1 ≤ 200) _) hu200
  exact ⟨(t__law_counting sp__law_place), (qs_cons (ss_par2 (i := 2) (j := 3) rfl sc.nd rfl rfl (by decide) rfl rfl (mmo po_newK (mmo (po_lst pdn) mmn)) rfl)
 (qs_cons (ss_for PassesOwn.never rfl (ip_list (pfz (pcbO (c_sorted rfl hu200) (by rfl) m_sorted (by decide +kernel) (vvc (vdv 1) vvn)))) (ug_name (pg_name (i := 4) sc.nd rfl (by first | exact .inl rfl | exact .inr rfl)))
 (qs_cons (ss_set (i := 5) sc.nd rfl (by first | exact .inl rfl | exact .inr rfl) (pcall (K := K) (n := 2) (sp := sp__law_place) (pe_call G__law_place (hr.mono (by decide)) (by rfl) m__law_place k__law_place b__law_place .nil pass0 (pdc (pdv 0) (pdc (pd_ix hu (vdv 1) (pdv 4)) pdn)))))
 (qs_one (ss_if ((qw_and (qt_notN (pdv 5) pd_non) (qw_and1 (qt_nin hu (pdv 5) (vdv 3))))).pt (qs_cons (ss_app (pe_bm PySem.F.plainAttrs_list PySem.F.slot_list_append PySem.F.type_list_append mt_append (pv 3) (pa_cons (pdv 5) pa_nil)))
 (qs_one (ss_asg (pd_ix hu (vdv 1) (pdv 4)) (ug_set hu (pv 2) (pdv 4))))) qs_nil))))
 (qs_one (ss_retV (pv 2))))), hs⟩
theorem ok_law {f : Addr} {fd : FuncData} {sp : DSp}
    {f__law_stream : Addr} {fd__law_stream : FuncData} {sp__law_stream : DSp}
    {f__law_drawn : Addr} {fd__law_drawn : FuncData} {sp__law_drawn : DSp}
    {f__law_named : Addr} {fd__law_named : FuncData} {sp__law_named : DSp}
    {f_labels_of : Addr} {fd_labels_of : FuncData} {sp_labels_of : DSp}
    {f_counting_pins : Addr} {fd_counting_pins : FuncData} {sp_counting_pins : DSp}
    {f__law_counting : Addr} {fd__law_counting : FuncData} {sp__law_counting : DSp}
    (F : Fun K "law" "law" s_law f fd)
    (G__law_stream : FnOk P w K mg base CX0 1 f__law_stream fd__law_stream ["_law_script", "_law_start"] (spD K 2 sp__law_stream)) (m__law_stream : mg "_law_stream" = some (.ref f__law_stream)) (k__law_stream : PySem.W.keepIn K (.ref f__law_stream) = true) (b__law_stream : Binds K fd__law_stream ["_law_script", "_law_start"] [])
    (G__law_drawn : FnOk P w K mg base CX0 3 f__law_drawn fd__law_drawn ["_law_stream_here"] (spD K 1 sp__law_drawn)) (m__law_drawn : mg "_law_drawn" = some (.ref f__law_drawn)) (k__law_drawn : PySem.W.keepIn K (.ref f__law_drawn) = true) (b__law_drawn : Binds K fd__law_drawn ["_law_stream_here"] [])
    (G__law_named : FnOk P w K mg base CX0 2 f__law_named fd__law_named ["_law_stream_here", "_law_groups"] (spD K 2 sp__law_named)) (m__law_named : mg "_law_named" = some (.ref f__law_named)) (k__law_named : PySem.W.keepIn K (.ref f__law_named) = true) (b__law_named : Binds K fd__law_named ["_law_stream_here", "_law_groups"] [])
    (G_labels_of : FnOk P w K mg base CX0 1 f_labels_of fd_labels_of ["groups", "names"] (spD K 2 sp_labels_of)) (m_labels_of : mg "labels_of" = some (.ref f_labels_of)) (k_labels_of : PySem.W.keepIn K (.ref f_labels_of) = true) (b_labels_of : Binds K fd_labels_of ["groups", "names"] [])
    (G_counting_pins : FnOk P w K mg base CX0 2 f_counting_pins fd_counting_pins ["groups", "pins"] (spD K 2 sp_counting_pins)) (m_counting_pins : mg "counting_pins" = some (.ref f_counting_pins)) (k_counting_pins : PySem.W.keepIn K (.ref f_counting_pins) = true) (b_counting_pins : Binds K fd_counting_pins ["groups", "pins"] [])
    (G__law_counting : FnOk P w K mg base CX0 2 f__law_counting fd__law_counting ["_law_groups", "_law_stuck"] (spD K 2 sp__law_counting)) (m__law_counting : mg "_law_counting" = some (.ref f__law_counting)) (k__law_counting : PySem.W.keepIn K (.ref f__law_counting) = true) (b__law_counting : Binds K fd__law_counting ["_law_groups", "_law_stuck"] [])
    (m_range : mg "range" = none)
    (m_repr : mg "repr" = none)
    (m_isinstance : mg "isinstance" = none)
    (m_dict : mg "dict" = none)
    (hs : ∀ ds Q', ds.length = 1 → sp ds Q' → (t_law sp__law_stream sp__law_drawn sp__law_named sp_labels_of sp_counting_pins sp__law_counting) { nx := fun _ => Q' (.fz .non), rt := Q' } (startD 15 ds)) : FnAt P w K mg base callerA f fd ["_law_script"] (spD K 1 sp) := by
  refine okL (k := 3) F sc_law ⟨rfl, by decide, by decide⟩ fun cdv outer s H hr => ?_
  have sc := sc_law
  have hgd : (callerA.deeper (envOfC "law" (defScope s_law) s.heap.objs.size f cdv)).guards = some [] := rfl
  have hu200 : (callerA.deeper (envOfC "law" (defScope s_law) s.heap.objs.size f cdv)).units + 200 < cLine := by have := hr.un; omega
  have hu80 := Nat.lt_of_le_of_lt (Nat.add_le_add_left (by decide : 80 ≤ 200) _) hu200
  have hu := Nat.lt_of_le_of_lt (Nat.add_le_add_left (by decide : 1 ≤ 200) _) hu200
  exact ⟨(t_law sp__law_stream sp__law_drawn sp__law_named sp_labels_of sp_counting_pins sp__law_counting), (qs_cons (ss_for PassesOwn.never rfl (ip_rng1 (by rfl) m_range (pdc pd_int pdn)) (ug_name (pg_name (i := 1) sc.nd rfl (by first | exact .inl rfl | exact .inr rfl)))
 (qs_cons (ss_set (i := 2) sc.nd rfl (by first | exact .inl rfl | exact .inr rfl) (pcall (K := K) (n := 2) (sp := sp__law_stream) (pe_call G__law_stream (hr.mono (by decide)) (by rfl) m__law_stream k__law_stream b__law_stream .nil pass0 (pdc (pdv 0) (pdc (pdv 1) pdn)))))
 (qs_cons (ss_asg (pcall (K := K) (n := 1) (sp := sp__law_drawn) (pe_call G__law_drawn (hr.mono (by decide)) (by rfl) m__law_drawn k__law_drawn b__law_drawn .nil pass0 (pdc (pdv 2) pdn))) (ug_tup rfl (ugs_cons (ug_name (pg_name (i := 3) sc.nd rfl (by first | exact .inl rfl | exact .inr rfl))) (ugs_cons (ug_name (pg_name (i := 4) sc.nd rfl (by first | exact .inl rfl | exact .inr rfl))) (ugs_cons (ug_name (pg_name (i := 5) sc.nd rfl (by first | exact .inl rfl | exact .inr rfl))) (ugs_cons (ug_name (pg_name (i := 6) sc.nd rfl (by first | exact .inl rfl | exact .inr rfl))) ugs_nil))))))
 (qs_cons (ss_set (i := 7) sc.nd rfl (by first | exact .inl rfl | exact .inr rfl) (pcall (K := K) (n := 2) (sp := sp__law_named) (pe_call G__law_named (hr.mono (by decide)) (by rfl) m__law_named k__law_named b__law_named .nil pass0 (pdc (pdv 2) (pdc (pdv 3) pdn)))))
 (qs_cons (ss_set (i := 8) sc.nd rfl (by first | exact .inl rfl | exact .inr rfl) (pcb (c_repr hgd hu80) (by rfl) m_repr (by decide +kernel) (vvc (vf (pd_tup (pdc (pdv 3) (pdc (pdv 7) (pdc (pdv 6) pdn))))) vvn)))
 (qs_cons (ss_setO (i := 9) sc.nd rfl (by first | exact .inl rfl | exact .inr rfl) po_newK)
 (qs_cons (ss_for PassesOwn.never rfl (ip_keys (pdv 7)) (ug_name (pg_name (i := 10) sc.nd rfl (by first | exact .inl rfl | exact .inr rfl)))
 (qs_one (ss_for PassesOwn.never rfl (ip_tup (pd_ix hu (vdv 3) (pd_ix hu (vdv 7) (pdv 10)))) (ug_name (pg_name (i := 11) sc.nd rfl (by first | exact .inl rfl | exact .inr rfl)))
 (qs_one (ss_asg (pdv 10) (ug_set hu (pv 9) (pdv 11)))))))
 (qs_cons (ss_for PassesOwn.never rfl (ip_rng1 (by rfl) m_range (pdc pd_int pdn)) (ug_name (pg_name (i := 12) sc.nd rfl (by first | exact .inl rfl | exact .inr rfl)))
 (qs_cons (ss_setO (i := 13) sc.nd rfl (by first | exact .inl rfl | exact .inr rfl) (pcallO (K := K) (n := 2) (sp := sp_labels_of) (pe_call G_labels_of (hr.mono (by decide)) (by rfl) m_labels_of k_labels_of b_labels_of .nil pass0 (pdc (pdv 3) (pdc (pdv 7) pdn)))))
 (qs_cons (ss_if ((qw_or (qcm (op_neA hu80) (vdv 13) (vdv 9) (nomark _)) (qw_or1 (qt_not (qt (pd_is (n := "dict") (by rfl) m_isinstance (by decide +kernel) (vdv 13) (by rfl) m_dict (by decide +kernel))))))).pt (qs_one (ss_ret pd_bl)) qs_nil)
 (qs_cons (ss_asg pd_str (ug_set hu (pv 13) pd_int))
 (qs_cons (ss_setO (i := 14) sc.nd rfl (by first | exact .inl rfl | exact .inr rfl) (pcallO (K := K) (n := 2) (sp := sp_counting_pins) (pe_call G_counting_pins (hr.mono (by decide)) (by rfl) m_counting_pins k_counting_pins b_counting_pins .nil pass0 (pdc (pdv 3) (pdc (pdv 6) pdn)))))
 (qs_cons (ss_if ((qw_or (qcm (op_neA hu80) (vdv 14) (vf (pcall (K := K) (n := 2) (sp := sp__law_counting) (pe_call G__law_counting (hr.mono (by decide)) (by rfl) m__law_counting k__law_counting b__law_counting .nil pass0 (pdc (pdv 3) (pdc (pdv 6) pdn))))) (nomark _)) (qw_or1 (qt_not (qt (pd_is (n := "dict") (by rfl) m_isinstance (by decide +kernel) (vdv 14) (by rfl) m_dict (by decide +kernel))))))).pt (qs_one (ss_ret pd_bl)) qs_nil)
 (qs_one (ss_expr (pd_clr (pv 14))))))))))
 (qs_one (ss_if ((qw_or (qcm (op_neA hu80) (vf (pcb (c_repr hgd hu80) (by rfl) m_repr (by decide +kernel) (vvc (vf (pd_tup (pdc (pdv 3) (pdc (pdv 7) (pdc (pdv 6) pdn))))) vvn))) (vdv 8) (nomark _)) (qw_or (qcm (op_neA hu80) (vf (pcall (K := K) (n := 2) (sp := sp_labels_of) (pe_call G_labels_of (hr.mono (by decide)) (by rfl) m_labels_of k_labels_of b_labels_of .nil pass0 (pdc (pfz (po_lst pdn)) (pdc (pfz po_newK) pdn))))) (vf (pfz po_newK)) (nomark _)) (qw_or1 (qcm (op_neA hu80) (vf (pcall (K := K) (n := 2) (sp := sp_counting_pins) (pe_call G_counting_pins (hr.mono (by decide)) (by rfl) m_counting_pins k_counting_pins b_counting_pins .nil pass0 (pdc (pfz (po_lst pdn)) (pdc (pdv 6) pdn))))) (vf (pfz po_newK)) (nomark _)))))).pt (qs_one (ss_ret pd_bl)) qs_nil))))))))))
 (qs_one (ss_ret pd_bl))), hs⟩
end
theorem all_mk {l : PySem.W.OpenLaw} {w : World} {K : PySem.W.Frag} {h : Heap} {mg : Str → Option Value} {fa f0 f1 f2 f3 f4 f5 f6 f7 f8 f9 f10 : Addr} (X : K.In h) (G : h.Ns mainGlobals mg) (hfa : mg "law" = some (.ref fa))
    {od0 an0 od1 an1 od2 an2 od3 an3 od4 an4 od5 an5 od6 an6 od7 an7 od8 an8 od9 an9 od10 an10 : Option Addr}
    {sl0 sl1 sl2 sl3 sl4 sl5 sl6 sl7 sl8 sl9 sl10 : Array (Option Value)}
    {oc0 kV0 dc0 pm0 cd0 ct0 oc1 kV1 dc1 pm1 cd1 ct1 oc2 kV2 dc2 pm2 cd2 ct2 oc3 kV3 dc3 pm3 cd3 ct3 oc4 kV4 dc4 pm4 cd4 ct4 oc5 kV5 dc5 pm5 cd5 ct5 oc6 kV6 dc6 pm6 cd6 ct6 oc7 kV7 dc7 pm7 cd7 ct7 oc8 kV8 dc8 pm8 cd8 ct8 oc9 kV9 dc9 pm9 cd9 ct9 oc10 kV10 dc10 pm10 cd10 ct10 : Value}
    (a0 : PySem.W.nsIn K mainGlobals "_law_stream" = some (some (.ref f0)))
    (l0 : K.lookup f0 = some ⟨oc0, od0, .func (PySem.W.fnOf "_law_stream" "_law_stream" (defArgs s__law_stream) (defBody s__law_stream) (defScope s__law_stream) .none kV0 dc0 pm0 an0 cd0 ct0), sl0⟩)
    (c0 : PySem.W.codeIn K cd0 "_law_stream" = true)
    (k0 : PySem.W.keepIn K (.ref f0) = true)
    (a1 : PySem.W.nsIn K mainGlobals "_law_draw" = some (some (.ref f1)))
    (l1 : K.lookup f1 = some ⟨oc1, od1, .func (PySem.W.fnOf "_law_draw" "_law_draw" (defArgs s__law_draw) (defBody s__law_draw) (defScope s__law_draw) .none kV1 dc1 pm1 an1 cd1 ct1), sl1⟩)
    (c1 : PySem.W.codeIn K cd1 "_law_draw" = true)
    (k1 : PySem.W.keepIn K (.ref f1) = true)
    (a2 : PySem.W.nsIn K mainGlobals "_law_choose" = some (some (.ref f2)))
    (l2 : K.lookup f2 = some ⟨oc2, od2, .func (PySem.W.fnOf "_law_choose" "_law_choose" (defArgs s__law_choose) (defBody s__law_choose) (defScope s__law_choose) .none kV2 dc2 pm2 an2 cd2 ct2), sl2⟩)
    (c2 : PySem.W.codeIn K cd2 "_law_choose" = true)
    (k2 : PySem.W.keepIn K (.ref f2) = true)
    (a3 : PySem.W.nsIn K mainGlobals "_law_drawn" = some (some (.ref f3)))
    (l3 : K.lookup f3 = some ⟨oc3, od3, .func (PySem.W.fnOf "_law_drawn" "_law_drawn" (defArgs s__law_drawn) (defBody s__law_drawn) (defScope s__law_drawn) .none kV3 dc3 pm3 an3 cd3 ct3), sl3⟩)
    (c3 : PySem.W.codeIn K cd3 "_law_drawn" = true)
    (k3 : PySem.W.keepIn K (.ref f3) = true)
    (a4 : PySem.W.nsIn K mainGlobals "_law_named" = some (some (.ref f4)))
    (l4 : K.lookup f4 = some ⟨oc4, od4, .func (PySem.W.fnOf "_law_named" "_law_named" (defArgs s__law_named) (defBody s__law_named) (defScope s__law_named) .none kV4 dc4 pm4 an4 cd4 ct4), sl4⟩)
    (c4 : PySem.W.codeIn K cd4 "_law_named" = true)
    (k4 : PySem.W.keepIn K (.ref f4) = true)
    (a5 : PySem.W.nsIn K mainGlobals "labels_of" = some (some (.ref f5)))
    (l5 : K.lookup f5 = some ⟨oc5, od5, .func (PySem.W.fnOf "labels_of" "labels_of" (defArgs s_labels_of) (defBody s_labels_of) (defScope s_labels_of) .none kV5 dc5 pm5 an5 cd5 ct5), sl5⟩)
    (c5 : PySem.W.codeIn K cd5 "labels_of" = true)
    (k5 : PySem.W.keepIn K (.ref f5) = true)
    (a6 : PySem.W.nsIn K mainGlobals "places_of" = some (some (.ref f6)))
    (l6 : K.lookup f6 = some ⟨oc6, od6, .func (PySem.W.fnOf "places_of" "places_of" (defArgs s_places_of) (defBody s_places_of) (defScope s_places_of) .none kV6 dc6 pm6 an6 cd6 ct6), sl6⟩)
    (c6 : PySem.W.codeIn K cd6 "places_of" = true)
    (k6 : PySem.W.keepIn K (.ref f6) = true)
    (a7 : PySem.W.nsIn K mainGlobals "counting_pins" = some (some (.ref f7)))
    (l7 : K.lookup f7 = some ⟨oc7, od7, .func (PySem.W.fnOf "counting_pins" "counting_pins" (defArgs s_counting_pins) (defBody s_counting_pins) (defScope s_counting_pins) .none kV7 dc7 pm7 an7 cd7 ct7), sl7⟩)
    (c7 : PySem.W.codeIn K cd7 "counting_pins" = true)
    (k7 : PySem.W.keepIn K (.ref f7) = true)
    (a8 : PySem.W.nsIn K mainGlobals "_law_place" = some (some (.ref f8)))
    (l8 : K.lookup f8 = some ⟨oc8, od8, .func (PySem.W.fnOf "_law_place" "_law_place" (defArgs s__law_place) (defBody s__law_place) (defScope s__law_place) .none kV8 dc8 pm8 an8 cd8 ct8), sl8⟩)
    (c8 : PySem.W.codeIn K cd8 "_law_place" = true)
    (k8 : PySem.W.keepIn K (.ref f8) = true)
    (a9 : PySem.W.nsIn K mainGlobals "_law_counting" = some (some (.ref f9)))
    (l9 : K.lookup f9 = some ⟨oc9, od9, .func (PySem.W.fnOf "_law_counting" "_law_counting" (defArgs s__law_counting) (defBody s__law_counting) (defScope s__law_counting) .none kV9 dc9 pm9 an9 cd9 ct9), sl9⟩)
    (c9 : PySem.W.codeIn K cd9 "_law_counting" = true)
    (k9 : PySem.W.keepIn K (.ref f9) = true)
    (a10 : PySem.W.nsIn K mainGlobals "law" = some (some (.ref f10)))
    (l10 : K.lookup f10 = some ⟨oc10, od10, .func (PySem.W.fnOf "law" "law" (defArgs s_law) (defBody s_law) (defScope s_law) .none kV10 dc10 pm10 an10 cd10 ct10), sl10⟩)
    (c10 : PySem.W.codeIn K cd10 "law" = true)
    (k10 : PySem.W.keepIn K (.ref f10) = true)
    (z_len : PySem.W.nsIn K mainGlobals "len" = some none)
    (z_range : PySem.W.nsIn K mainGlobals "range" = some none)
    (z_tuple : PySem.W.nsIn K mainGlobals "tuple" = some none)
    (z_sorted : PySem.W.nsIn K mainGlobals "sorted" = some none)
    (z_int : PySem.W.nsIn K mainGlobals "int" = some none)
    (z_list : PySem.W.nsIn K mainGlobals "list" = some none)
    (z_enumerate : PySem.W.nsIn K mainGlobals "enumerate" = some none)
    (z_repr : PySem.W.nsIn K mainGlobals "repr" = some none)
    (z_isinstance : PySem.W.nsIn K mainGlobals "isinstance" = some none)
    (z_dict : PySem.W.nsIn K mainGlobals "dict" = some none)
    (low : K.lookup sysModules = none)
    : K.lookup sysModules = none ∧ ∃ fd : FuncData, (∀ (s : Shared) (v : Value), BindsTo s fd ⟨[v], []⟩ [("_law_script", v)]) ∧ ∀ base : Heap, K.In base → base.Ns mainGlobals mg → FnAt l.prog w K mg base callerA fa fd ["_law_script"] (spD K 1 sp_law) := by
  have e := hfa.symm.trans (PySem.W.mg_of X G a10)
  cases e
  have F0 := fun_mk (st := s__law_stream) l0 c0 k0
  have F1 := fun_mk (st := s__law_draw) l1 c1 k1
  have F2 := fun_mk (st := s__law_choose) l2 c2 k2
  have F3 := fun_mk (st := s__law_drawn) l3 c3 k3
  have F4 := fun_mk (st := s__law_named) l4 c4 k4
  have F5 := fun_mk (st := s_labels_of) l5 c5 k5
  have F6 := fun_mk (st := s_places_of) l6 c6 k6
  have F7 := fun_mk (st := s_counting_pins) l7 c7 k7
  have F8 := fun_mk (st := s__law_place) l8 c8 k8
  have F9 := fun_mk (st := s__law_counting) l9 c9 k9
  have F10 := fun_mk (st := s_law) l10 c10 k10
  have b0 := F0.binds (ps := ["_law_script", "_law_start"]) fun _ _ _ _ _ _ us hl => match us, hl with | [_, _], _ => rfl
  have b1 := F1.binds (ps := ["_law_stream_here", "_law_size"]) fun _ _ _ _ _ _ us hl => match us, hl with | [_, _], _ => rfl
  have b2 := F2.binds (ps := ["_law_stream_here", "_law_items"]) fun _ _ _ _ _ _ us hl => match us, hl with | [_, _], _ => rfl
  have b3 := F3.binds (ps := ["_law_stream_here"]) fun _ _ _ _ _ _ us hl => match us, hl with | [_], _ => rfl
  have b4 := F4.binds (ps := ["_law_stream_here", "_law_groups"]) fun _ _ _ _ _ _ us hl => match us, hl with | [_, _], _ => rfl
  have b5 := F5.binds (ps := ["groups", "names"]) fun _ _ _ _ _ _ us hl => match us, hl with | [_, _], _ => rfl
  have b6 := F6.binds (ps := ["groups"]) fun _ _ _ _ _ _ us hl => match us, hl with | [_], _ => rfl
  have b7 := F7.binds (ps := ["groups", "pins"]) fun _ _ _ _ _ _ us hl => match us, hl with | [_, _], _ => rfl
  have b8 := F8.binds (ps := ["_law_groups", "_law_row_id"]) fun _ _ _ _ _ _ us hl => match us, hl with | [_, _], _ => rfl
  have b9 := F9.binds (ps := ["_law_groups", "_law_stuck"]) fun _ _ _ _ _ _ us hl => match us, hl with | [_, _], _ => rfl
  refine ⟨low, PySem.W.fnOf "law" "law" (defArgs s_law) (defBody s_law) (defScope s_law) .none kV10 dc10 pm10 an10 cd10 ct10, fun s v => .of_eq rfl, fun base _ _ => ?_⟩
  have G0 := ok__law_stream (P := l.prog) (w := w) (mg := mg) (base := base) (sp := sp_stream) F0 (PySem.W.mg_none_of X G z_len) (fun ds Q' _ h => h_stream 19 (by decide) (by decide) ds Q' h)
  have G1 := ok__law_draw (P := l.prog) (w := w) (mg := mg) (base := base) (sp := sp_draw) F1 (fun ds Q' _ h => h_draw ds Q' h)
  have G2 := ok__law_choose (P := l.prog) (w := w) (mg := mg) (base := base) (sp := sp_choose) F2 G1 (PySem.W.mg_of X G a1) F1.kp b1 (PySem.W.mg_none_of X G z_len) (fun ds Q' _ h => h_choose ds Q' h)
  have G3 := ok__law_drawn (P := l.prog) (w := w) (mg := mg) (base := base) (sp := sp_drawn) F3 G1 (PySem.W.mg_of X G a1) F1.kp b1 G2 (PySem.W.mg_of X G a2) F2.kp b2 (PySem.W.mg_none_of X G z_range) (PySem.W.mg_none_of X G z_tuple) (PySem.W.mg_none_of X G z_sorted) (PySem.W.mg_none_of X G z_int) (PySem.W.mg_none_of X G z_len) (PySem.W.mg_none_of X G z_list) (fun ds Q' _ h => h_drawn ds Q' h)
  have G4 := ok__law_named (P := l.prog) (w := w) (mg := mg) (base := base) (sp := sp_named) F4 G1 (PySem.W.mg_of X G a1) F1.kp b1 (PySem.W.mg_none_of X G z_len) (PySem.W.mg_none_of X G z_range) (fun ds Q' _ h => h_named ds Q' h)
  have G5 := ok_labels_of (P := l.prog) (w := w) (mg := mg) (base := base) (sp := sp_labels_of) F5 (fun ds Q' _ h => h_labels_of ds Q' h)
  have G6 := ok_places_of (P := l.prog) (w := w) (mg := mg) (base := base) (sp := sp_places_of) F6 (PySem.W.mg_none_of X G z_enumerate) (fun ds Q' _ h => h_places_of ds Q' h)
  have G7 := ok_counting_pins (P := l.prog) (w := w) (mg := mg) (base := base) (sp := sp_counting_pins) F7 G6 (PySem.W.mg_of X G a6) F6.kp b6 (PySem.W.mg_none_of X G z_sorted) (fun ds Q' _ h => h_counting_pins ds Q' h)
  have G8 := ok__law_place (P := l.prog) (w := w) (mg := mg) (base := base) (sp := sp_law_place) F8 (PySem.W.mg_none_of X G z_enumerate) (fun ds Q' _ h => h_law_place ds Q' h)
  have G9 := ok__law_counting (P := l.prog) (w := w) (mg := mg) (base := base) (sp := sp_law_counting) F9 G8 (PySem.W.mg_of X G a8) F8.kp b8 (PySem.W.mg_none_of X G z_sorted) (fun ds Q' _ h => h_law_counting ds Q' h)
  exact ok_law (sp := sp_law) F10 G0 (PySem.W.mg_of X G a0) F0.kp b0 G3 (PySem.W.mg_of X G a3) F3.kp b3 G4 (PySem.W.mg_of X G a4) F4.kp b4 G5 (PySem.W.mg_of X G a5) F5.kp b5 G7 (PySem.W.mg_of X G a7) F7.kp b7 G9 (PySem.W.mg_of X G a9) F9.kp b9 (PySem.W.mg_none_of X G z_range) (PySem.W.mg_none_of X G z_repr) (PySem.W.mg_none_of X G z_isinstance) (PySem.W.mg_none_of X G z_dict) h_law

end K27
end Mv
open PySem PySem.W PyProof.Rows
set_option maxHeartbeats 0 in
theorem PySem.Challenge.cw_keptnames_k27_labels_and_counting_pins_holds : PySem.Challenge.rw_keptnames_k27_labels_and_counting_pins.Holds := by
  w_on; o_law; k_head; (case hw => w_witness2)
  k_fill
  refine Mv.walk_mv (l := PySem.Challenge.rw_keptnames_k27_labels_and_counting_pins) (n := 63) (x := "_law_script") (sp := Mv.K27.sp_law) rfl (by decide) rfl (by rfl) (fun w h Y => PySem.W.kIn_of Y) ?F (fun ns hl hb => ⟨ns, rfl, hl, hb, rfl⟩)
  case F =>
    intro w mg fa h KX G hmg
    refine' Mv.K27.all_mk KX G hmg ?a0 ?l0 ?c0 ?k0 ?a1 ?l1 ?c1 ?k1 ?a2 ?l2 ?c2 ?k2 ?a3 ?l3 ?c3 ?k3 ?a4 ?l4 ?c4 ?k4 ?a5 ?l5 ?c5 ?k5 ?a6 ?l6 ?c6 ?k6 ?a7 ?l7 ?c7 ?k7 ?a8 ?l8 ?c8 ?k8 ?a9 ?l9 ?c9 ?k9 ?a10 ?l10 ?c10 ?k10 ?z_len ?z_range ?z_tuple ?z_sorted ?z_int ?z_list ?z_enumerate ?z_repr ?z_isinstance ?z_dict ?low
    (case a0 => k_is)
    (case l0 => k_is)
    (case c0 => k_is)
    (case k0 => k_is)
    (case a1 => k_is)
    (case l1 => k_is)
    (case c1 => k_is)
    (case k1 => k_is)
    (case a2 => k_is)
    (case l2 => k_is)
    (case c2 => k_is)
    (case k2 => k_is)
    (case a3 => k_is)
    (case l3 => k_is)
    (case c3 => k_is)
    (case k3 => k_is)
    (case a4 => k_is)
    (case l4 => k_is)
    (case c4 => k_is)
    (case k4 => k_is)
    (case a5 => k_is)
    (case l5 => k_is)
    (case c5 => k_is)
    (case k5 => k_is)
    (case a6 => k_is)
    (case l6 => k_is)
    (case c6 => k_is)
    (case k6 => k_is)
    (case a7 => k_is)
    (case l7 => k_is)
    (case c7 => k_is)
    (case k7 => k_is)
    (case a8 => k_is)
    (case l8 => k_is)
    (case c8 => k_is)
    (case k8 => k_is)
    (case a9 => k_is)
    (case l9 => k_is)
    (case c9 => k_is)
    (case k9 => k_is)
    (case a10 => k_is)
    (case l10 => k_is)
    (case c10 => k_is)
    (case k10 => k_is)
    (case z_len => k_is)
    (case z_range => k_is)
    (case z_tuple => k_is)
    (case z_sorted => k_is)
    (case z_int => k_is)
    (case z_list => k_is)
    (case z_enumerate => k_is)
    (case z_repr => k_is)
    (case z_isinstance => k_is)
    (case z_dict => k_is)
    (case low => kernel_rfl)
