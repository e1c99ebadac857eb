import PyProof.Rows.All
import HandS.Head0
import HandS.Head1
import HandS.Head2
import HandS.HeadEnd
import HandS.EndBits
import HandS.HeadHook1
import HandS.HeadHook2
import HandS.Words
import HandS.Base
import HandS.ForMost
import HandS.ExcInit
import HandS.Exc
import HandS.WordsExc
import HandS.IsInst
import HandS.Flow
import HandS.Deep
import HandS.Conv
import HandS.NoneIn
import HandS.Walk
import HandS.TryOnly
import HandS.Zip
import HandS.SortInts
import HandS.More
import HandS.WordsDict
import HandS.TupLen
import HandS.ExcValue
import HandS.MakeKwOnly
import KE.KExcIs
import HandS.ExcField
import HandS.Style
import HandS.Small
import HandS.HeadHook4
import HandS.HotCalls
import HandS.ExcValueHot
import HandS.Comp
import HandS.ExcBuiltin
import PySem.Challenge.RW_receiptsay_k95_errors_of_what_is_asked
set_option Elab.async false
set_option linter.all false
set_option maxRecDepth 100000
set_option maxHeartbeats 200000
section
/-! The facts of a text, asked entry by entry. -/
namespace Mir
open PySem PySem.Spec PyProof.Rows L2
/-! ### a small part of the heap -/
def valsOf (g : Addr → Option Obj) (a : Addr) : List Addr := match g a with
  | some o => (match o.data with
    | .dict es _ => es.toList.flatMap fun e => He.refV e.val
    | _ => [])
  | none => []
/-- a def and its code -/
def defOf (g : Addr → Option Obj) (a : Addr) : List Addr := match g a with
  | some o => (match o.data with
    | .func fd => a :: He.refV fd.code
    | _ => [])
  | none => []
/-- a class, its namespace, the defs in it; a def and its code; the rest is left out -/
def partOf (g : Addr → Option Obj) (a : Addr) : List Addr := match g a with
  | some o => (match o.data with
    | .cls cd => a :: cd.ns :: (valsOf g cd.ns).flatMap (defOf g)
    | .func fd => a :: He.refV fd.code
    | _ => [])
  | none => []
def asM (g : Addr → Option Obj) : List Addr := mainGlobals :: (valsOf g mainGlobals).flatMap (partOf g)
def xTail : List Value := [.type "ValueError", .type "Exception", .type "BaseException", .type "object"]
/-- addresses that rise -/
def riseB : List Nat → Bool
  | [] => true
  | [_] => true
  | a :: b :: r => Nat.blt a b && riseB (b :: r)
def entG (g : Addr → Option Obj) (a : Addr) : List DictEntry := match g a with
  | some ⟨_, _, .dict es _, _⟩ => es.toList
  | _ => []
def valAt : List DictEntry → Nat → Value
  | [], _ => .none
  | e :: _, 0 => e.val
  | _ :: es, i + 1 => valAt es i
def keysB : List Str → List DictEntry → Bool
  | [], [] => true
  | n :: ns, e :: es => e.key.isStr n && keysB ns es
  | _, _ => false
def codeB (g : Addr → Option Obj) (v : Value) (q : Str) : Bool := match v with
  | .ref c => (match g c with
    | some ⟨_, _, .fields vs, _⟩ => (match vs.toList with
      | _ :: .str n _ :: _ => n == q
      | _ => false)
    | _ => false)
  | _ => false
def isNo : Value → Bool
  | .none => true
  | _ => false
def fnB (g : Addr → Option Obj) (q : Str) (v : Value) : Bool := match v with
  | .ref a => (match g a with
    | some ⟨.type t, _, .func fd, _⟩ => t == "function" && (isNo fd.defaults && codeB g fd.code q)
    | _ => false)
  | _ => false
def fwG (g : Addr → Option Obj) (v : Value) : He.FnW := match v with
  | .ref a => (match g a with
    | some ⟨_, _, .func fd, _⟩ => some (fd.name, fd.qualname, fd.params, fd.body, fd.scope, fd.globals, fd.closure, fd.builtins)
    | _ => none)
  | _ => none
/-- a class of exceptions, bases up; the names of its namespace -/
def clsB (g : Addr → Option Obj) (ups : List Value) (keys : List Str) (v : Value) : Bool := match v with
  | .ref C => (match g C with
    | some ⟨.type t, _, .cls cd, sl⟩ => t == "type" && (match sl.toList with
      | [_, _, _, _, some (.builtin n), _] => decide (cd.mro = .ref C :: ups) && (n == "ValueError.__new__" && (cd.hasDict && (!cd.hasDel && keysB keys (entG g cd.ns))))
      | _ => false)
    | _ => false)
  | _ => false
/-- the i-th value of a class's namespace -/
def memG (g : Addr → Option Obj) (i : Nat) (v : Value) : Value := match v with
  | .ref C => (match g C with
    | some ⟨_, _, .cls cd, _⟩ => valAt (entG g cd.ns) i
    | _ => .none)
  | _ => .none
/-- what is asked of a name: nothing; a def; a class of exceptions straight under the base, its own __init__; the base -/
inductive Ask where
  | no
  | fn (d : He.DefD)
  | xi (d : He.DefD)
  | x0
  | xb
def kI : List Str := [("__module__" : Str), ("__firstlineno__" : Str), ("__init__" : Str), ("__static_attributes__" : Str), ("__doc__" : Str)]
def k0 : List Str := [("__module__" : Str), ("__firstlineno__" : Str), ("__static_attributes__" : Str), ("__doc__" : Str)]
def kB : List Str := [("__module__" : Str), ("__firstlineno__" : Str), ("__static_attributes__" : Str), ("__weakref__" : Str), ("__doc__" : Str)]
def Ask.ok (g : Addr → Option Obj) (B : Value) : Ask → Value → Bool
  | .no, _ => true
  | .fn d, v => fnB g d.qual v
  | .xi d, v => clsB g (B :: xTail) kI v && fnB g d.qual (memG g 2 v)
  | .x0, v => clsB g (B :: xTail) k0 v
  | .xb, v => clsB g xTail kB v
def Ask.fw (g : Addr → Option Obj) : Ask → Value → List He.FnW
  | .fn _, v => [fwG g v]
  | .xi _, v => [fwG g (memG g 2 v)]
  | _, _ => []
def Ask.vl : Ask → List He.FnW
  | .fn d => [d.val]
  | .xi d => [d.val]
  | _ => []
def asksB (g : Addr → Option Obj) (B : Value) : List (Str × Ask) → List DictEntry → Bool
  | [], [] => true
  | p :: ps, e :: es => e.key.isStr p.1 && (p.2.ok g B e.val && asksB g B ps es)
  | _, _ => false
def asksW (g : Addr → Option Obj) : List (Str × Ask) → List DictEntry → List He.FnW
  | p :: ps, e :: es => p.2.fw g e.val ++ asksW g ps es
  | _, _ => []
def asksV : List (Str × Ask) → List He.FnW
  | [] => []
  | p :: ps => p.2.vl ++ asksV ps
def isX : Ask → Bool
  | .xi _ => true
  | .x0 => true
  | .xb => true
  | _ => false
def adrV : Value → Nat
  | .ref a => a
  | _ => 0
/-- the classes' addresses -/
def adrs : List (Str × Ask) → List DictEntry → List Nat
  | p :: ps, e :: es => if isX p.2 then adrV e.val :: adrs ps es else adrs ps es
  | _, _ => []
def obsAs (iB : Nat) (ps : List (Str × Ask)) (g : Addr → Option Obj) : Bool × List He.FnW :=
  let es := entG g mainGlobals
  (asksB g (valAt es iB) ps es && riseB (adrs ps es), asksW g ps es)
/-! ### what it tells -/
/-- a class of exceptions: its mro, the names that its namespace lacks -/
structure XclN (K : PySem.W.Frag) (C : Addr) (ups : List Value) (keys : List Str) (es : List DictEntry) : Prop where
  ex : ∃ dd cd k0 k1 k2 k3 k5, K.lookup C = some ⟨.type "type", dd, .cls cd, #[k0, k1, k2, k3, some (.builtin "ValueError.__new__"), k5]⟩ ∧ cd.mro = .ref C :: ups ∧ cd.hasDict = true ∧ cd.hasDel = false ∧ ∃ oc od ar n sl, K.lookup cd.ns = some ⟨oc, od, .dict ar n, sl⟩ ∧ ar.toList = es ∧ keysB keys es = true
abbrev FnAt (K : PySem.W.Frag) (d : He.DefD) (v : Value) : Prop := ∃ a, v = .ref a ∧ PySem.W.typeIn K (.ref a) = some (.type "function") ∧ ∃ fd, FunD K d.name d.qual d.params d.body d.scope [] [] a fd
def AskOk (K : PySem.W.Frag) (B : Value) : Ask → Value → Prop
  | .no, _ => True
  | .fn d, v => FnAt K d v
  | .xi d, v => ∃ C es, v = .ref C ∧ XclN K C (B :: xTail) kI es ∧ FnAt K d (valAt es 2)
  | .x0, v => ∃ C es, v = .ref C ∧ XclN K C (B :: xTail) k0 es
  | .xb, v => ∃ C es, v = .ref C ∧ XclN K C xTail kB es
def AskAll (K : PySem.W.Frag) (B : Value) : List (Str × Ask) → List DictEntry → Prop
  | [], [] => True
  | p :: ps, e :: es => e.key.isStr p.1 = true ∧ AskOk K B p.2 e.val ∧ AskAll K B ps es
  | _, _ => False
structure Fcts (iB : Nat) (ps : List (Str × Ask)) (K : PySem.W.Frag) : Prop where
  ex : ∃ es, (∃ oc od ar n sl, K.lookup mainGlobals = some ⟨oc, od, .dict ar n, sl⟩ ∧ ar.toList = es) ∧ AskAll K (valAt es iB) ps es ∧ riseB (adrs ps es) = true
/-! ### from the heap -/
theorem frG_has {g : Addr → Option Obj} {a : Addr} {o : Obj} (h : g a = some o) : ∀ {as : List Addr}, a ∈ as → (He.frG g as).lookup a = some o
  | [], hm => by cases hm
  | b :: r, hm => by
    have ih : a ∈ r → (He.frG g r).lookup a = some o := fun hr => frG_has h hr
    unfold He.frG at ih ⊢
    rw [List.filterMap_cons]
    by_cases e : a = b
    · subst e
      rw [h]
      simp [List.lookup]
    · have hr : a ∈ r := (List.mem_cons.mp hm).resolve_left e
      cases hb : g b with
      | none => exact ih hr
      | some ob =>
        have e2 : (a == b) = false := by simpa using e
        simp only [Option.map_some, List.lookup, e2]
        exact ih hr
theorem ent_ex {g : Addr → Option Obj} {a : Addr} {e : DictEntry} {es : List DictEntry} (h : entG g a = e :: es) : ∃ oc od ar n sl, g a = some ⟨oc, od, .dict ar n, sl⟩ ∧ ar.toList = e :: es := by
  unfold entG at h
  split at h
  · rename_i oc od ar n sl q
    exact ⟨oc, od, ar, n, sl, q, h⟩
  · cases h
section
variable {g : Addr → Option Obj}
theorem vals_of {a : Addr} {v : Addr} {e : DictEntry} (h : e ∈ entG g a) (hv : e.val = .ref v) : v ∈ valsOf g a := by
  unfold entG at h
  unfold valsOf
  split at h
  · rename_i oc od ar n sl q
    rw [q]
    exact List.mem_flatMap.mpr ⟨e, h, by rw [hv]; exact List.mem_singleton.mpr rfl⟩
  · cases h
theorem main_mem : mainGlobals ∈ asM g := List.mem_cons_self ..
theorem part_mem {v b : Addr} {e : DictEntry} (h : e ∈ entG g mainGlobals) (hv : e.val = .ref v) (hb : b ∈ partOf g v) : b ∈ asM g := List.mem_cons_of_mem _ (List.mem_flatMap.mpr ⟨v, vals_of h hv, hb⟩)
theorem typeIn_of {K : PySem.W.Frag} {a : Addr} {o : Obj} (h : K.lookup a = some o) : PySem.W.typeIn K (.ref a) = some o.cls := by
  show (K.lookup a).map _ = _
  rw [h]
  rfl
theorem keepIn_of {K : PySem.W.Frag} {a : Addr} {oc : Value} {od : Option Addr} {fd : FuncData} {sl : Array (Option Value)} (h : K.lookup a = some ⟨oc, od, .func fd, sl⟩) : PySem.W.keepIn K (.ref a) = true := by
  show (match K.lookup a with
      | some ⟨_, _, .func _, _⟩ => true
      | some ⟨_, _, .cls _, _⟩ => PySem.W.specialIn K (.ref a) "__call__" == some (some (.builtin "type.__call__"))
      | _ => false) = true
  rw [h]
theorem fnB_ok {K : PySem.W.Frag} {d : He.DefD} {v : Value} (h : fnB g d.qual v = true) (e : fwG g v = d.val)
    (hK : ∀ a o, v = .ref a → g a = some o → K.lookup a = some o) (hC : ∀ a oc od fd sl c o, v = .ref a → g a = some ⟨oc, od, .func fd, sl⟩ → fd.code = .ref c → g c = some o → K.lookup c = some o) (hd : d.dfl = []) (hk : d.kwd = []) : FnAt K d v := by
  unfold fnB at h
  split at h
  case h_2 => cases h
  rename_i a
  split at h
  case h_2 => cases h
  rename_i t od fd sl ho
  rw [Bool.and_eq_true, Bool.and_eq_true, beq_iff_eq] at h
  obtain ⟨rfl, h2, h3⟩ := h
  unfold fwG at e
  simp only [ho] at e
  obtain ⟨n1, n2, n3, n4, n5, n6, n7, n8, n9, n10, n11, n12, n13, n14, n15⟩ := fd
  have e2 : (some (n1, n2, n3, n4, n5, n6, n7, n15) : He.FnW) = some (d.name, d.qual, d.params, .stmts d.body, d.scope, mainGlobals, [], builtinsNs) := e
  simp only [Option.some.injEq, Prod.mk.injEq] at e2
  obtain ⟨rfl, rfl, rfl, rfl, rfl, rfl, rfl, rfl⟩ := e2
  have lk := hK a _ rfl ho
  have hn : n8 = .none := by
    cases n8 <;> first | rfl | cases h2
  subst hn
  refine ⟨a, rfl, typeIn_of lk, _, ⟨.type "function", od, .none, n9, n10, n11, n12, n13, n14, sl, rfl, lk, ?_, .inl ⟨rfl, rfl⟩, .inl rfl⟩, ?_⟩
  · unfold codeB at h3
    split at h3
    case h_2 => cases h3
    rename_i c hc
    split at h3
    case h_2 => cases h3
    rename_i x1 x2 vs x3 q
    have lc := hC a _ _ _ _ c _ rfl ho hc q
    unfold PySem.W.codeIn
    simp only at hc
    rw [hc]
    simp only [lc]
    exact h3
  · exact keepIn_of lk
theorem clsB_ok {K : PySem.W.Frag} {ups : List Value} {keys : List Str} {v : Value} (h : clsB g ups keys v = true)
    (hK : ∀ a o, v = .ref a → g a = some o → K.lookup a = some o) (hN : ∀ a oc od cd sl o, v = .ref a → g a = some ⟨oc, od, .cls cd, sl⟩ → g cd.ns = some o → K.lookup cd.ns = some o) (k1 : ∃ x xs, keys = x :: xs) :
    ∃ C oc od cd sl, v = .ref C ∧ g C = some ⟨oc, od, .cls cd, sl⟩ ∧ XclN K C ups keys (entG g cd.ns) := by
  unfold clsB at h
  split at h
  case h_2 => cases h
  rename_i C
  split at h
  case h_2 => cases h
  rename_i t dd cd sl ho
  rw [Bool.and_eq_true, beq_iff_eq] at h
  obtain ⟨rfl, h⟩ := h
  split at h
  case h_2 => cases h
  rename_i s0 s1 s2 s3 n s5 hs
  simp only [Bool.and_eq_true, decide_eq_true_eq, beq_iff_eq, Bool.not_eq_true'] at h
  obtain ⟨h1, rfl, h3, h4, h5⟩ := h
  have hsl : sl = #[s0, s1, s2, s3, some (.builtin "ValueError.__new__"), s5] := by
    obtain ⟨l⟩ := sl
    simp only at hs
    rw [hs]
  refine ⟨C, _, _, cd, sl, rfl, ho, ⟨dd, cd, s0, s1, s2, s3, s5, ?_, h1, h3, h4, ?_⟩⟩
  · rw [← hsl]
    exact hK C _ rfl ho
  · cases he : entG g cd.ns with
    | nil =>
      obtain ⟨x, xs, rfl⟩ := k1
      rw [he] at h5
      cases h5
    | cons e es =>
      obtain ⟨oc, od, ar, n, sl2, q1, q2⟩ := ent_ex he
      exact ⟨oc, od, ar, n, sl2, hN C _ _ cd sl _ rfl ho q1, q2, by rw [← he]; exact h5⟩
theorem val_mem : ∀ {es : List DictEntry} {i : Nat} {a : Addr}, valAt es i = .ref a → ∃ e ∈ es, e.val = .ref a
  | [], _, _, h => by cases h
  | e :: es, 0, _, h => ⟨e, List.mem_cons_self .., h⟩
  | e :: es, i + 1, _, h => by
    obtain ⟨e2, h1, h2⟩ := val_mem (es := es) (i := i) h
    exact ⟨e2, List.mem_cons_of_mem _ h1, h2⟩
/-- no default is asked for -/
def Ask.bare : Ask → Bool
  | .fn d => d.dfl.isEmpty && d.kwd.isEmpty
  | .xi d => d.dfl.isEmpty && d.kwd.isEmpty
  | _ => true
theorem part_fn {a : Addr} {oc : Value} {od : Option Addr} {fd : FuncData} {sl : Array (Option Value)} (h : g a = some ⟨oc, od, .func fd, sl⟩) : partOf g a = a :: He.refV fd.code := by
  unfold partOf
  rw [h]
theorem part_cls {a : Addr} {oc : Value} {od : Option Addr} {cd : ClassData} {sl : Array (Option Value)} (h : g a = some ⟨oc, od, .cls cd, sl⟩) : partOf g a = a :: cd.ns :: (valsOf g cd.ns).flatMap (defOf g) := by
  unfold partOf
  rw [h]
theorem isEmp {α : Type} {l : List α} (h : l.isEmpty = true) : l = [] := by
  cases l <;> first | rfl | cases h
theorem ask_ok {K : PySem.W.Frag} (hK : K = He.frG g (asM g)) {B : Value} {p : Ask} {e : DictEntry} (he : e ∈ entG g mainGlobals) (h : p.ok g B e.val = true) (hw : p.fw g e.val = p.vl) (hb : p.bare = true) : AskOk K B p e.val := by
  subst hK
  have top : ∀ a oc od fd sl, e.val = .ref a → g a = some ⟨oc, od, .func fd, sl⟩ → ∀ b, b ∈ a :: He.refV fd.code → b ∈ asM g := fun a oc od fd sl hv ho b hbm => part_mem he hv (by rw [part_fn ho]; exact hbm)
  have cls : ∀ a oc od cd sl, e.val = .ref a → g a = some ⟨oc, od, .cls cd, sl⟩ → ∀ b, b ∈ a :: cd.ns :: (valsOf g cd.ns).flatMap (defOf g) → b ∈ asM g := fun a oc od cd sl hv ho b hbm => part_mem he hv (by rw [part_cls ho]; exact hbm)
  have cK : ∀ {ups keys}, clsB g ups keys e.val = true → (∃ x xs, keys = x :: xs) → ∃ C oc od cd sl, e.val = .ref C ∧ g C = some ⟨oc, od, .cls cd, sl⟩ ∧ XclN (He.frG g (asM g)) C ups keys (entG g cd.ns) := fun {ups keys} hc k1 => by
    refine clsB_ok hc (fun a o hv ho => ?_) (fun a oc od cd sl o hv ho hn => frG_has hn (cls a _ _ _ _ hv ho _ (by simp))) k1
    refine frG_has ho ?_
    obtain ⟨oc, od, dt, sl⟩ := o
    cases dt with
    | cls cd => exact cls a _ _ _ _ hv ho _ (List.mem_cons_self ..)
    | _ =>
      unfold clsB at hc
      rw [hv] at hc
      simp only [ho] at hc
      cases oc <;> cases hc
  cases p with
  | no => trivial
  | fn d =>
    have hb : (d.dfl.isEmpty && d.kwd.isEmpty) = true := hb
    rw [Bool.and_eq_true] at hb
    refine fnB_ok h (List.cons.inj hw).1 (fun a o hv ho => ?_) (fun a oc od fd sl c o hv ho hc hg => frG_has hg (top a _ _ _ _ hv ho _ (by rw [hc]; simp [He.refV]))) (isEmp hb.1) (isEmp hb.2)
    refine frG_has ho ?_
    obtain ⟨oc, od, dt, sl⟩ := o
    have h0 : fnB g d.qual e.val = true := h
    cases dt with
    | func fd => exact top a _ _ _ _ hv ho _ (List.mem_cons_self ..)
    | _ =>
      unfold fnB at h0
      rw [hv] at h0
      simp only [ho] at h0
      cases oc <;> cases h0
  | xi d =>
    have hb : (d.dfl.isEmpty && d.kwd.isEmpty) = true := hb
    rw [Bool.and_eq_true] at hb
    obtain ⟨h1, h2⟩ := Bool.and_eq_true_iff.mp (show (clsB g (B :: xTail) kI e.val && fnB g d.qual (memG g 2 e.val)) = true from h)
    obtain ⟨C, oc, od, cd, sl, hv, ho, X⟩ := cK h1 ⟨_, _, rfl⟩
    have em : memG g 2 e.val = valAt (entG g cd.ns) 2 := by
      unfold memG
      rw [hv]
      simp only [ho]
    rw [em] at h2
    have hw : fwG g (memG g 2 e.val) = d.val := (List.cons.inj hw).1
    rw [em] at hw
    refine ⟨C, _, hv, X, fnB_ok h2 hw (fun a o hm hoa => ?_) (fun a oc2 od2 fd sl2 c o hm hoa hc hg => ?_) (isEmp hb.1) (isEmp hb.2)⟩
    · obtain ⟨e2, m1, m2⟩ := val_mem hm
      refine frG_has hoa (cls C _ _ _ _ hv ho _ (List.mem_cons_of_mem _ (List.mem_cons_of_mem _ (List.mem_flatMap.mpr ⟨a, vals_of m1 m2, ?_⟩))))
      obtain ⟨oc2, od2, dt, sl2⟩ := o
      rw [hm] at h2
      unfold fnB at h2
      simp only [hoa] at h2
      unfold defOf
      cases dt with
      | func fd => simp only [hoa]; exact List.mem_cons_self ..
      | _ => cases oc2 <;> cases h2
    · obtain ⟨e2, m1, m2⟩ := val_mem hm
      refine frG_has hg (cls C _ _ _ _ hv ho _ (List.mem_cons_of_mem _ (List.mem_cons_of_mem _ (List.mem_flatMap.mpr ⟨a, vals_of m1 m2, ?_⟩))))
      unfold defOf
      simp only [hoa]
      rw [hc]
      simp [He.refV]
  | x0 =>
    obtain ⟨C, oc, od, cd, sl, hv, ho, X⟩ := cK (show clsB g (B :: xTail) k0 e.val = true from h) ⟨_, _, rfl⟩
    exact ⟨C, _, hv, X⟩
  | xb =>
    obtain ⟨C, oc, od, cd, sl, hv, ho, X⟩ := cK (show clsB g xTail kB e.val = true from h) ⟨_, _, rfl⟩
    exact ⟨C, _, hv, X⟩
theorem asks_ok {K : PySem.W.Frag} (hK : K = He.frG g (asM g)) {B : Value} : ∀ {ps : List (Str × Ask)} {es : List DictEntry}, (∀ e ∈ es, e ∈ entG g mainGlobals) → asksB g B ps es = true → asksW g ps es = asksV ps → (ps.all fun p => p.2.bare) = true → AskAll K B ps es
  | [], [], _, _, _, _ => trivial
  | [], _ :: _, _, h, _, _ => by cases h
  | _ :: _, [], _, h, _, _ => by cases h
  | p :: ps, e :: es, hm, h, hw, hb => by
    have h : (e.key.isStr p.1 && (p.2.ok g B e.val && asksB g B ps es)) = true := h
    rw [Bool.and_eq_true, Bool.and_eq_true] at h
    rw [List.all_cons, Bool.and_eq_true] at hb
    have hw : p.2.fw g e.val ++ asksW g ps es = p.2.vl ++ asksV ps := hw
    have hl : (p.2.fw g e.val).length = p.2.vl.length := by cases p.2 <;> rfl
    obtain ⟨w1, w2⟩ := List.append_inj hw hl
    exact ⟨h.1, ask_ok hK (hm e (List.mem_cons_self ..)) h.2.1 w1 hb.1, asks_ok hK (fun e2 he => hm e2 (List.mem_cons_of_mem _ he)) h.2.2 w2 hb.2⟩
theorem fcts_of {iB : Nat} {ps : List (Str × Ask)} (h : obsAs iB ps g = (true, asksV ps)) (hb : (ps.all fun p => p.2.bare) = true) (hne : ps ≠ []) : Fcts iB ps (He.frG g (asM g)) := by
  have h1 := congrArg Prod.fst h
  have h2 := congrArg Prod.snd h
  have h1 : (asksB g (valAt (entG g mainGlobals) iB) ps (entG g mainGlobals) && riseB (adrs ps (entG g mainGlobals))) = true := h1
  rw [Bool.and_eq_true] at h1
  refine ⟨entG g mainGlobals, ?_, asks_ok rfl (fun _ q => q) h1.1 h2 hb, h1.2⟩
  cases he : entG g mainGlobals with
  | nil =>
    rw [he] at h1
    cases ps with
    | nil => exact absurd rfl hne
    | cons p ps => cases h1.1
  | cons e es =>
    obtain ⟨oc, od, ar, n, sl, q1, q2⟩ := ent_ex he
    exact ⟨oc, od, ar, n, sl, frG_has q1 main_mem, q2⟩
end
/-! ### the hook -/
def hookA (iB : Nat) (ps : List (Str × Ask)) (hb : (ps.all fun p => p.2.bare) = true) (hne : ps ≠ []) : PySem.W.Hook where
  α := Bool × List He.FnW
  obs := fun s => obsAs iB ps s.heap.get?
  val := fun _ => (true, asksV ps)
  says := fun _ h => ∃ K : PySem.W.Frag, K.In h ∧ Fcts iB ps K
  of := fun _ _ e => ⟨_, He.frG_in, fcts_of e hb hne⟩
  keeps := fun _ _ _ ⟨K, hK, c⟩ k => ⟨K, PySem.W.Frag.In.keeps hK k, c⟩
theorem obsAs_eq {iB : Nat} {ps : List (Str × Ask)} {hb : (ps.all fun p => p.2.bare) = true} {hne : ps ≠ []} {g : Addr → Option Obj} {s : Shared} (h : ∀ a, g a = s.heap.get? a) : obsAs iB ps g = (hookA iB ps hb hne).obs s := by
  have e : g = s.heap.get? := funext h
  rw [e] <;> rfl
end Mir
end

set_option maxHeartbeats 200000
section
namespace Law_k95
open PySem
def top (i : Nat) : Stmt := PySem.Challenge.pw_receiptsay_k95_errors_of_what_is_asked.main.body.getD i (.Pass ⟨0, 0, 0, 0⟩)
end Law_k95
end

set_option maxHeartbeats 0
section
namespace Law_k95
open PySem PySem.Spec PyProof.Rows L2 Mir
def noSt0 : Stmt := .Pass ⟨0, 0, 0, 0⟩
def memb (i j : Nat) : Stmt := match top i with
  | .ClassDef (body := b) .. => b.getD j noSt0
  | _ => noSt0
def nm0 : List Str := [("ReceiptError" : Str), ("BadOther" : Str), ("NotWish" : Str), ("NotFitting" : Str), ("NotMoney" : Str), ("BadTimes" : Str), ("BadBy" : Str), ("NoAmounts" : Str), ("NotEven" : Str), ("BadAnswer" : Str), ("BadWholeText" : Str), ("BadRing" : Str), ("BadRanks" : Str), ("BadFees" : Str), ("BadPart" : Str), ("BadGuesses" : Str), ("BadFilling" : Str), ("NoFilling" : Str), ("BadMost" : Str), ("BadOthers" : Str), ("BadMany" : Str), ("NotSingle" : Str), ("BadEdit" : Str), ("BadDesk" : Str), ("BadDeskText" : Str), ("NothingToUndo" : Str), ("NothingToRedo" : Str), ("BadGoods" : Str), ("WrongReceipts" : Str), ("BadReceipts" : Str), ("BadIndex" : Str), ("BadPlaces" : Str), ("BadPrices" : Str), ("BadBundle" : Str), ("BadMoney" : Str)]
def nm1 : List Str := [("BadGood" : Str), ("OneGood" : Str), ("BadWeights" : Str), ("BadReceiptsText" : Str), ("BadNumbers" : Str), ("BadNumbersText" : Str), ("NoReceipts" : Str), ("WrongChoices" : Str), ("BadChoices" : Str), ("BadMenu" : Str), ("NoLevels" : Str), ("BadThing" : Str), ("NotWhole" : Str), ("BadSieves" : Str), ("NotAll" : Str), ("BadOrders" : Str), ("NoOrders" : Str), ("WrongRecords" : Str), ("BadRecords" : Str), ("BadOutput" : Str), ("_law_start" : Str), ("_law_pick" : Str), ("_law_between" : Str), ("_law_same" : Str), ("_law_kinds_of" : Str), ("_law_others" : Str), ("_law_is_other" : Str), ("_law_made_a" : Str), ("_law_made_b" : Str), ("_law_made_at" : Str), ("_law_object" : Str), ("_law_very" : Str), ("_law_caught" : Str)]
def nms : List Str := nm0 ++ nm1
def d_I_BadOther : He.DefD := ⟨("BadOther", some "__init__"), "__init__", "BadOther.__init__", defArgs (memb 2 0), defBody (memb 2 0), defScope (memb 2 0), [], []⟩
def d_I_NotWish : He.DefD := ⟨("NotWish", some "__init__"), "__init__", "NotWish.__init__", defArgs (memb 3 0), defBody (memb 3 0), defScope (memb 3 0), [], []⟩
def d_I_NotFitting : He.DefD := ⟨("NotFitting", some "__init__"), "__init__", "NotFitting.__init__", defArgs (memb 4 0), defBody (memb 4 0), defScope (memb 4 0), [], []⟩
def d_I_NotMoney : He.DefD := ⟨("NotMoney", some "__init__"), "__init__", "NotMoney.__init__", defArgs (memb 5 0), defBody (memb 5 0), defScope (memb 5 0), [], []⟩
def d_I_BadTimes : He.DefD := ⟨("BadTimes", some "__init__"), "__init__", "BadTimes.__init__", defArgs (memb 6 0), defBody (memb 6 0), defScope (memb 6 0), [], []⟩
def d_I_BadBy : He.DefD := ⟨("BadBy", some "__init__"), "__init__", "BadBy.__init__", defArgs (memb 7 0), defBody (memb 7 0), defScope (memb 7 0), [], []⟩
def d_I_NoAmounts : He.DefD := ⟨("NoAmounts", some "__init__"), "__init__", "NoAmounts.__init__", defArgs (memb 8 0), defBody (memb 8 0), defScope (memb 8 0), [], []⟩
def d_I_NotEven : He.DefD := ⟨("NotEven", some "__init__"), "__init__", "NotEven.__init__", defArgs (memb 9 0), defBody (memb 9 0), defScope (memb 9 0), [], []⟩
def d_I_BadAnswer : He.DefD := ⟨("BadAnswer", some "__init__"), "__init__", "BadAnswer.__init__", defArgs (memb 10 0), defBody (memb 10 0), defScope (memb 10 0), [], []⟩
def d_I_BadWholeText : He.DefD := ⟨("BadWholeText", some "__init__"), "__init__", "BadWholeText.__init__", defArgs (memb 11 0), defBody (memb 11 0), defScope (memb 11 0), [], []⟩
def d_I_BadRing : He.DefD := ⟨("BadRing", some "__init__"), "__init__", "BadRing.__init__", defArgs (memb 12 0), defBody (memb 12 0), defScope (memb 12 0), [], []⟩
def d_I_BadRanks : He.DefD := ⟨("BadRanks", some "__init__"), "__init__", "BadRanks.__init__", defArgs (memb 13 0), defBody (memb 13 0), defScope (memb 13 0), [], []⟩
def d_I_BadFees : He.DefD := ⟨("BadFees", some "__init__"), "__init__", "BadFees.__init__", defArgs (memb 15 0), defBody (memb 15 0), defScope (memb 15 0), [], []⟩
def d_I_BadPart : He.DefD := ⟨("BadPart", some "__init__"), "__init__", "BadPart.__init__", defArgs (memb 16 0), defBody (memb 16 0), defScope (memb 16 0), [], []⟩
def d_I_BadGuesses : He.DefD := ⟨("BadGuesses", some "__init__"), "__init__", "BadGuesses.__init__", defArgs (memb 17 0), defBody (memb 17 0), defScope (memb 17 0), [], []⟩
def d_I_BadFilling : He.DefD := ⟨("BadFilling", some "__init__"), "__init__", "BadFilling.__init__", defArgs (memb 18 0), defBody (memb 18 0), defScope (memb 18 0), [], []⟩
def d_I_NoFilling : He.DefD := ⟨("NoFilling", some "__init__"), "__init__", "NoFilling.__init__", defArgs (memb 19 0), defBody (memb 19 0), defScope (memb 19 0), [], []⟩
def d_I_BadMost : He.DefD := ⟨("BadMost", some "__init__"), "__init__", "BadMost.__init__", defArgs (memb 20 0), defBody (memb 20 0), defScope (memb 20 0), [], []⟩
def d_I_BadOthers : He.DefD := ⟨("BadOthers", some "__init__"), "__init__", "BadOthers.__init__", defArgs (memb 21 0), defBody (memb 21 0), defScope (memb 21 0), [], []⟩
def d_I_BadMany : He.DefD := ⟨("BadMany", some "__init__"), "__init__", "BadMany.__init__", defArgs (memb 22 0), defBody (memb 22 0), defScope (memb 22 0), [], []⟩
def d_I_NotSingle : He.DefD := ⟨("NotSingle", some "__init__"), "__init__", "NotSingle.__init__", defArgs (memb 23 0), defBody (memb 23 0), defScope (memb 23 0), [], []⟩
def d_I_BadEdit : He.DefD := ⟨("BadEdit", some "__init__"), "__init__", "BadEdit.__init__", defArgs (memb 24 0), defBody (memb 24 0), defScope (memb 24 0), [], []⟩
def d_I_BadDesk : He.DefD := ⟨("BadDesk", some "__init__"), "__init__", "BadDesk.__init__", defArgs (memb 25 0), defBody (memb 25 0), defScope (memb 25 0), [], []⟩
def d_I_BadDeskText : He.DefD := ⟨("BadDeskText", some "__init__"), "__init__", "BadDeskText.__init__", defArgs (memb 26 0), defBody (memb 26 0), defScope (memb 26 0), [], []⟩
def d_I_BadGoods : He.DefD := ⟨("BadGoods", some "__init__"), "__init__", "BadGoods.__init__", defArgs (memb 30 0), defBody (memb 30 0), defScope (memb 30 0), [], []⟩
def d_I_WrongReceipts : He.DefD := ⟨("WrongReceipts", some "__init__"), "__init__", "WrongReceipts.__init__", defArgs (memb 31 0), defBody (memb 31 0), defScope (memb 31 0), [], []⟩
def d_I_BadReceipts : He.DefD := ⟨("BadReceipts", some "__init__"), "__init__", "BadReceipts.__init__", defArgs (memb 32 0), defBody (memb 32 0), defScope (memb 32 0), [], []⟩
def d_I_BadIndex : He.DefD := ⟨("BadIndex", some "__init__"), "__init__", "BadIndex.__init__", defArgs (memb 33 0), defBody (memb 33 0), defScope (memb 33 0), [], []⟩
def d_I_BadPlaces : He.DefD := ⟨("BadPlaces", some "__init__"), "__init__", "BadPlaces.__init__", defArgs (memb 34 0), defBody (memb 34 0), defScope (memb 34 0), [], []⟩
def d_I_BadPrices : He.DefD := ⟨("BadPrices", some "__init__"), "__init__", "BadPrices.__init__", defArgs (memb 35 0), defBody (memb 35 0), defScope (memb 35 0), [], []⟩
def d_I_BadBundle : He.DefD := ⟨("BadBundle", some "__init__"), "__init__", "BadBundle.__init__", defArgs (memb 36 0), defBody (memb 36 0), defScope (memb 36 0), [], []⟩
def d_I_BadMoney : He.DefD := ⟨("BadMoney", some "__init__"), "__init__", "BadMoney.__init__", defArgs (memb 37 0), defBody (memb 37 0), defScope (memb 37 0), [], []⟩
def d_I_BadGood : He.DefD := ⟨("BadGood", some "__init__"), "__init__", "BadGood.__init__", defArgs (memb 38 0), defBody (memb 38 0), defScope (memb 38 0), [], []⟩
def d_I_OneGood : He.DefD := ⟨("OneGood", some "__init__"), "__init__", "OneGood.__init__", defArgs (memb 39 0), defBody (memb 39 0), defScope (memb 39 0), [], []⟩
def d_I_BadWeights : He.DefD := ⟨("BadWeights", some "__init__"), "__init__", "BadWeights.__init__", defArgs (memb 40 0), defBody (memb 40 0), defScope (memb 40 0), [], []⟩
def d_I_BadReceiptsText : He.DefD := ⟨("BadReceiptsText", some "__init__"), "__init__", "BadReceiptsText.__init__", defArgs (memb 41 0), defBody (memb 41 0), defScope (memb 41 0), [], []⟩
def d_I_BadNumbers : He.DefD := ⟨("BadNumbers", some "__init__"), "__init__", "BadNumbers.__init__", defArgs (memb 42 0), defBody (memb 42 0), defScope (memb 42 0), [], []⟩
def d_I_BadNumbersText : He.DefD := ⟨("BadNumbersText", some "__init__"), "__init__", "BadNumbersText.__init__", defArgs (memb 43 0), defBody (memb 43 0), defScope (memb 43 0), [], []⟩
def d_I_NoReceipts : He.DefD := ⟨("NoReceipts", some "__init__"), "__init__", "NoReceipts.__init__", defArgs (memb 44 0), defBody (memb 44 0), defScope (memb 44 0), [], []⟩
def d_I_WrongChoices : He.DefD := ⟨("WrongChoices", some "__init__"), "__init__", "WrongChoices.__init__", defArgs (memb 45 0), defBody (memb 45 0), defScope (memb 45 0), [], []⟩
def d_I_BadChoices : He.DefD := ⟨("BadChoices", some "__init__"), "__init__", "BadChoices.__init__", defArgs (memb 46 0), defBody (memb 46 0), defScope (memb 46 0), [], []⟩
def d_I_BadMenu : He.DefD := ⟨("BadMenu", some "__init__"), "__init__", "BadMenu.__init__", defArgs (memb 47 0), defBody (memb 47 0), defScope (memb 47 0), [], []⟩
def d_I_NoLevels : He.DefD := ⟨("NoLevels", some "__init__"), "__init__", "NoLevels.__init__", defArgs (memb 48 0), defBody (memb 48 0), defScope (memb 48 0), [], []⟩
def d_I_BadThing : He.DefD := ⟨("BadThing", some "__init__"), "__init__", "BadThing.__init__", defArgs (memb 49 0), defBody (memb 49 0), defScope (memb 49 0), [], []⟩
def d_I_NotWhole : He.DefD := ⟨("NotWhole", some "__init__"), "__init__", "NotWhole.__init__", defArgs (memb 50 0), defBody (memb 50 0), defScope (memb 50 0), [], []⟩
def d_I_BadSieves : He.DefD := ⟨("BadSieves", some "__init__"), "__init__", "BadSieves.__init__", defArgs (memb 51 0), defBody (memb 51 0), defScope (memb 51 0), [], []⟩
def d_I_NotAll : He.DefD := ⟨("NotAll", some "__init__"), "__init__", "NotAll.__init__", defArgs (memb 52 0), defBody (memb 52 0), defScope (memb 52 0), [], []⟩
def d_I_BadOrders : He.DefD := ⟨("BadOrders", some "__init__"), "__init__", "BadOrders.__init__", defArgs (memb 53 0), defBody (memb 53 0), defScope (memb 53 0), [], []⟩
def d_I_NoOrders : He.DefD := ⟨("NoOrders", some "__init__"), "__init__", "NoOrders.__init__", defArgs (memb 54 0), defBody (memb 54 0), defScope (memb 54 0), [], []⟩
def d_I_WrongRecords : He.DefD := ⟨("WrongRecords", some "__init__"), "__init__", "WrongRecords.__init__", defArgs (memb 55 0), defBody (memb 55 0), defScope (memb 55 0), [], []⟩
def d_I_BadRecords : He.DefD := ⟨("BadRecords", some "__init__"), "__init__", "BadRecords.__init__", defArgs (memb 56 0), defBody (memb 56 0), defScope (memb 56 0), [], []⟩
def d_I_BadOutput : He.DefD := ⟨("BadOutput", some "__init__"), "__init__", "BadOutput.__init__", defArgs (memb 57 0), defBody (memb 57 0), defScope (memb 57 0), [], []⟩
def d__law_start : He.DefD := ⟨("_law_start", none), "_law_start", "_law_start", defArgs (top 59), defBody (top 59), defScope (top 59), [], []⟩
def d__law_pick : He.DefD := ⟨("_law_pick", none), "_law_pick", "_law_pick", defArgs (top 60), defBody (top 60), defScope (top 60), [], []⟩
def d__law_between : He.DefD := ⟨("_law_between", none), "_law_between", "_law_between", defArgs (top 61), defBody (top 61), defScope (top 61), [], []⟩
def d__law_same : He.DefD := ⟨("_law_same", none), "_law_same", "_law_same", defArgs (top 62), defBody (top 62), defScope (top 62), [], []⟩
def d__law_kinds_of : He.DefD := ⟨("_law_kinds_of", none), "_law_kinds_of", "_law_kinds_of", defArgs (top 63), defBody (top 63), defScope (top 63), [], []⟩
def d__law_others : He.DefD := ⟨("_law_others", none), "_law_others", "_law_others", defArgs (top 64), defBody (top 64), defScope (top 64), [], []⟩
def d__law_is_other : He.DefD := ⟨("_law_is_other", none), "_law_is_other", "_law_is_other", defArgs (top 65), defBody (top 65), defScope (top 65), [], []⟩
def d__law_made_a : He.DefD := ⟨("_law_made_a", none), "_law_made_a", "_law_made_a", defArgs (top 66), defBody (top 66), defScope (top 66), [], []⟩
def d__law_made_b : He.DefD := ⟨("_law_made_b", none), "_law_made_b", "_law_made_b", defArgs (top 67), defBody (top 67), defScope (top 67), [], []⟩
def d__law_made_at : He.DefD := ⟨("_law_made_at", none), "_law_made_at", "_law_made_at", defArgs (top 68), defBody (top 68), defScope (top 68), [], []⟩
def d__law_object : He.DefD := ⟨("_law_object", none), "_law_object", "_law_object", defArgs (top 69), defBody (top 69), defScope (top 69), [], []⟩
def d__law_very : He.DefD := ⟨("_law_very", none), "_law_very", "_law_very", defArgs (top 70), defBody (top 70), defScope (top 70), [], []⟩
def d__law_caught : He.DefD := ⟨("_law_caught", none), "_law_caught", "_law_caught", defArgs (top 71), defBody (top 71), defScope (top 71), [], []⟩
def d_law : He.DefD := ⟨("law", none), "law", "law", defArgs (top 72), defBody (top 72), defScope (top 72), [], []⟩
def as0 : List (Str × Ask) := [(("__name__" : Str), .no), (("__doc__" : Str), .no), (("__package__" : Str), .no), (("__loader__" : Str), .no), (("__spec__" : Str), .no), (("__annotations__" : Str), .no), (("__builtins__" : Str), .no), (("__file__" : Str), .no), (("__cached__" : Str), .no), (("ReceiptError" : Str), .xb), (("BadOther" : Str), .xi d_I_BadOther), (("NotWish" : Str), .xi d_I_NotWish), (("NotFitting" : Str), .xi d_I_NotFitting), (("NotMoney" : Str), .xi d_I_NotMoney), (("BadTimes" : Str), .xi d_I_BadTimes), (("BadBy" : Str), .xi d_I_BadBy), (("NoAmounts" : Str), .xi d_I_NoAmounts), (("NotEven" : Str), .xi d_I_NotEven), (("BadAnswer" : Str), .xi d_I_BadAnswer), (("BadWholeText" : Str), .xi d_I_BadWholeText)]
def as1 : List (Str × Ask) := [(("BadRing" : Str), .xi d_I_BadRing), (("BadRanks" : Str), .xi d_I_BadRanks), (("BadFees" : Str), .xi d_I_BadFees), (("BadPart" : Str), .xi d_I_BadPart), (("BadGuesses" : Str), .xi d_I_BadGuesses), (("BadFilling" : Str), .xi d_I_BadFilling), (("NoFilling" : Str), .xi d_I_NoFilling), (("BadMost" : Str), .xi d_I_BadMost), (("BadOthers" : Str), .xi d_I_BadOthers), (("BadMany" : Str), .xi d_I_BadMany), (("NotSingle" : Str), .xi d_I_NotSingle), (("BadEdit" : Str), .xi d_I_BadEdit), (("BadDesk" : Str), .xi d_I_BadDesk), (("BadDeskText" : Str), .xi d_I_BadDeskText), (("NothingToUndo" : Str), .x0), (("NothingToRedo" : Str), .x0), (("BadGoods" : Str), .xi d_I_BadGoods), (("WrongReceipts" : Str), .xi d_I_WrongReceipts), (("BadReceipts" : Str), .xi d_I_BadReceipts), (("BadIndex" : Str), .xi d_I_BadIndex)]
def as2 : List (Str × Ask) := [(("BadPlaces" : Str), .xi d_I_BadPlaces), (("BadPrices" : Str), .xi d_I_BadPrices), (("BadBundle" : Str), .xi d_I_BadBundle), (("BadMoney" : Str), .xi d_I_BadMoney), (("BadGood" : Str), .xi d_I_BadGood), (("OneGood" : Str), .xi d_I_OneGood), (("BadWeights" : Str), .xi d_I_BadWeights), (("BadReceiptsText" : Str), .xi d_I_BadReceiptsText), (("BadNumbers" : Str), .xi d_I_BadNumbers), (("BadNumbersText" : Str), .xi d_I_BadNumbersText), (("NoReceipts" : Str), .xi d_I_NoReceipts), (("WrongChoices" : Str), .xi d_I_WrongChoices), (("BadChoices" : Str), .xi d_I_BadChoices), (("BadMenu" : Str), .xi d_I_BadMenu), (("NoLevels" : Str), .xi d_I_NoLevels), (("BadThing" : Str), .xi d_I_BadThing), (("NotWhole" : Str), .xi d_I_NotWhole), (("BadSieves" : Str), .xi d_I_BadSieves), (("NotAll" : Str), .xi d_I_NotAll), (("BadOrders" : Str), .xi d_I_BadOrders)]
def as3 : List (Str × Ask) := [(("NoOrders" : Str), .xi d_I_NoOrders), (("WrongRecords" : Str), .xi d_I_WrongRecords), (("BadRecords" : Str), .xi d_I_BadRecords), (("BadOutput" : Str), .xi d_I_BadOutput), (("_law_start" : Str), .fn d__law_start), (("_law_pick" : Str), .fn d__law_pick), (("_law_between" : Str), .fn d__law_between), (("_law_same" : Str), .fn d__law_same), (("_law_kinds_of" : Str), .fn d__law_kinds_of), (("_law_others" : Str), .fn d__law_others), (("_law_is_other" : Str), .fn d__law_is_other), (("_law_made_a" : Str), .fn d__law_made_a), (("_law_made_b" : Str), .fn d__law_made_b), (("_law_made_at" : Str), .fn d__law_made_at), (("_law_object" : Str), .fn d__law_object), (("_law_very" : Str), .fn d__law_very), (("_law_caught" : Str), .fn d__law_caught), (("law" : Str), .fn d_law)]
def ps : List (Str × Ask) := as0 ++ as1 ++ as2 ++ as3
theorem p_bare : (ps.all fun p => p.2.bare) = true := rfl
theorem p_ne : ps ≠ [] := by intro h; cases h
abbrev R : PySem.W.OpenRow := PySem.W.OpenLaw.row PySem.Challenge.rw_receiptsay_k95_errors_of_what_is_asked
abbrev hk : PySem.W.Hook := hookA 9 ps p_bare p_ne
def ob (s : PySem.W.SharedT) : Bool × List He.FnW := obsAs 9 ps (HandSHeadRun.getT s)
theorem ob_eq (s : PySem.W.SharedT) : ob s = hk.obs s.abs := obsAs_eq (HandSHeadRun.getT_eq s)
theorem run (w : World) : HandSHeadRun.RunEq R (PySem.W.view R.prog [72]) hk ob 20000 nms w := by
  intro os
  kernel_rfl
end Law_k95
end

set_option maxHeartbeats 200000
section
/-! The mirror: plain values D, the draws' state DS, the monad M, what each construct does. -/
namespace Mir
open PySem L2
/-- a key of a dict: an int or a text; a tuple of such -/
inductive DK where
  | k (x : L2.Key) | t (xs : List L2.Key)
  deriving DecidableEq
/-- a value without the heap -/
inductive D where
  | non | bl (b : Bool) | int (i : Int) | str (s : Str)
  | lst (xs : List D) | tup (xs : List D)
  | dct (t : Bool) (ks : List DK) (vs : List D)
  | obj (c : Str) (ns : List Str) (vs : List D)
  /-- an exception held as a value; a value of the heap as it is -/
  | xc (c : Str) (ns : List Str) (vs : List D) | raw (v : V)
/-- the draws' state: the cells that are left, the great cell, the count, the mixed number -/
structure DS where
  cells : List Int
  big : Int
  cnt : Int
  mix : Int
inductive Res (α : Type) where
  | ok (a : α) (ds : DS)
  | exc (c : Str) (ns : List Str) (vs : List D) (ds : DS)
  | stuck
def M (α : Type) : Type := DS → Res α
namespace M
variable {α β : Type}
@[reducible] def ret (a : α) : M α := fun ds => .ok a ds
def bnd (m : M α) (f : α → M β) : M β := fun ds => match m ds with
  | .ok a ds' => f a ds'
  | .exc c ns vs ds' => .exc c ns vs ds'
  | .stuck => .stuck
instance : Monad M where
  pure := ret
  bind := bnd
def stuck : M α := fun _ => .stuck
def lift : Option α → M α
  | some a => pure a
  | none => stuck
/-- an exception is not awaited here -/
def nox (m : M α) : M α := fun ds => match m ds with
  | .ok a ds' => .ok a ds'
  | _ => .stuck
theorem pure_def (a : α) : (pure a : M α) = fun ds => .ok a ds := rfl
theorem bind_def (m : M α) (f : α → M β) : (m >>= f) = bnd m f := rfl
@[simp] theorem pure_bind (a : α) (f : α → M β) : ((pure a : M α) >>= f) = f a := rfl
@[simp] theorem lift_some (a : α) : (lift (some a) : M α) = pure a := rfl
@[simp] theorem lift_none : (lift (none : Option α) : M α) = stuck := rfl
@[simp] theorem stuck_bind (f : α → M β) : ((stuck : M α) >>= f) = stuck := rfl
@[simp] theorem nox_pure (a : α) : nox (pure a : M α) = pure a := rfl
theorem bind_assoc {γ : Type} (m : M α) (f : α → M β) (g : β → M γ) : ((m >>= f) >>= g) = (m >>= fun a => f a >>= g) := by
  funext ds
  show bnd (bnd m f) g ds = bnd m (fun a => bnd (f a) g) ds
  unfold bnd
  cases m ds <;> rfl
@[simp] theorem bind_pure (m : M α) : (m >>= fun a => pure a) = m := by
  funext ds
  show bnd m _ ds = m ds
  unfold bnd
  cases m ds <;> rfl
end M
instance : LawfulMonad M := LawfulMonad.mk' M (fun m => M.bind_pure m) (fun a f => rfl) (fun m f g => M.bind_assoc m f g)
/-- what is wanted of a run -/
def Run {α : Type} (r : Res α) (Q : α → DS → Prop) (E : Str → List Str → List D → DS → Prop) : Prop := match r with
  | .ok a ds => Q a ds
  | .exc c ns vs ds => E c ns vs ds
  | .stuck => False
theorem Run.bind {α β : Type} {m : M α} {f : α → M β} {ds : DS} {Q : β → DS → Prop} {E : Str → List Str → List D → DS → Prop} (h : Run ((m >>= f) ds) Q E) : Run (m ds) (fun a ds' => Run (f a ds') Q E) E := by
  have h : Run (M.bnd m f ds) Q E := h
  unfold M.bnd at h
  cases e : m ds with
  | ok a ds' => rw [e] at h; exact h
  | exc c ns vs ds' => rw [e] at h; exact h
  | stuck => rw [e] at h; exact h
theorem Run.mono {α : Type} {r : Res α} {Q Q' : α → DS → Prop} {E E' : Str → List Str → List D → DS → Prop} (h : Run r Q E) (hq : ∀ a ds, Q a ds → Q' a ds) (he : ∀ c ns vs ds, E c ns vs ds → E' c ns vs ds) : Run r Q' E' := by
  cases r with
  | ok a ds => exact hq _ _ h
  | exc c ns vs ds => exact he _ _ _ _ h
  | stuck => exact h
theorem Run.nox {α : Type} {m : M α} {ds : DS} {Q : α → DS → Prop} {E : Str → List Str → List D → DS → Prop} (h : Run (M.nox m ds) Q E) : Run (m ds) Q (fun _ _ _ _ => False) := by
  unfold M.nox at h
  cases e : m ds with
  | ok a ds' => rw [e] at h; exact h
  | exc c ns vs ds' => rw [e] at h; exact h.elim
  | stuck => rw [e] at h; exact h
theorem Run.lift {α : Type} {o : Option α} {ds : DS} {Q : α → DS → Prop} {E : Str → List Str → List D → DS → Prop} (h : Run (M.lift o ds) Q E) : ∃ a, o = some a ∧ Q a ds := by
  cases o with
  | none => exact h.elim
  | some a => exact ⟨a, rfl, h⟩
/-- what a slot holds: nothing, a value, a function -/
inductive Val where
  | un | d (x : D) | f (F : List D → M D) | st
abbrev ME := List Val → M D
abbrev MB := List Val → M Bool
abbrev MI := List Val → M (List D)
abbrev MA := List Val → M (List Val)
/-- a function of the text -/
abbrev Fn := List Val → M D
end Mir
end

set_option maxHeartbeats 200000
section
/-! What the operators and built-ins do, by plain values. -/
namespace Mir
open PySem L2
namespace D
mutual
/-- as data of the library, to be compared -/
def py : D → Option PyData
  | .non => some .none
  | .bl b => some (.bool b)
  | .int i => some (.int i)
  | .str s => some (.str s)
  | .lst xs => (pyL xs).map PyData.list
  | .tup xs => (pyL xs).map PyData.tuple
  | .dct _ _ _ => none
  | .obj _ _ _ => none
  | .xc _ _ _ => none
  | .raw _ => none
def pyL : List D → Option (List PyData)
  | [] => some []
  | x :: xs => (py x).bind fun p => (pyL xs).map fun r => p :: r
end
/-- flat values -/
def flat : D → Bool
  | .non => true | .bl _ => true | .int _ => true | .str _ => true
  | _ => false
/-- == of flat values -/
def feq : D → D → Bool
  | .non, .non => true
  | .bl a, .bl b => a == b
  | .bl a, .int b => (if a then 1 else 0) == b
  | .int a, .bl b => a == (if b then 1 else 0)
  | .int a, .int b => a == b
  | .str a, .str b => a == b
  | _, _ => false
/-- == by the library's data -/
def deq (a b : D) : Option Bool := (py a).bind fun x => (py b).bind fun y => if SeqAt.shaped x && SeqAt.shaped y then some (PyData.eqv x y) else none
/-- one of the scalars that == tells apart without more ado -/
def sca : D → D → Option Bool
  | .non, .non => some true | .non, .int _ => some false | .int _, .non => some false | .non, .bl _ => some false | .bl _, .non => some false | .non, .str _ => some false | .str _, .non => some false
  | .int i, .int j => some (decide (i = j)) | .bl i, .bl j => some (decide (i = j)) | .str i, .str j => some (decide (i = j))
  | .int _, .str _ => some false | .str _, .int _ => some false | .bl _, .str _ => some false | .str _, .bl _ => some false
  | _, _ => none
def eqB (a b : D) : Option Bool := match sca a b with
  | some k => some k
  | none => deq a b
def eq (a b : D) : Option D := (eqB a b).map .bl
def ne (a b : D) : Option D := (eqB a b).map fun k => .bl (!k)
def add : D → D → Option D
  | .int i, .int j => some (.int (i + j))
  | .str a, .str b => if a.length + b.length ≤ sizeLine then some (.str (a ++ b)) else none
  | .lst a, .lst b => if a.length + b.length ≤ sizeLine then some (.lst (a ++ b)) else none
  | _, _ => none
def sub : D → D → Option D
  | .int i, .int j => some (.int (i - j))
  | _, _ => none
def cmul (i j : Int) : Bool := decide (-(2 ^ 64) < i ∧ i < 2 ^ 64) || decide (-(2 ^ 64) < j ∧ j < 2 ^ 64)
def mul : D → D → Option D
  | .int i, .int j => if cmul i j then some (.int (i * j)) else none
  | .lst xs, .int k => if -(2 ^ 63) ≤ k ∧ k < 2 ^ 63 ∧ xs.length * k.toNat ≤ sizeLine then some (.lst (List.replicate k.toNat xs).flatten) else none
  | _, _ => none
def fdiv : D → D → Option D
  | .int i, .int j => if j ≠ 0 ∧ j.natAbs < 1073741824 then some (.int (i.fdiv j)) else none
  | _, _ => none
def mod : D → D → Option D
  | .int i, .int j => if j ≠ 0 then some (.int (i.fmod j)) else none
  | _, _ => none
def pow : D → D → Option D
  | .int i, .int j => if 0 ≤ j ∧ j ≤ 1000000 ∧ i.natAbs < 2 ^ 64 then some (.int (i ^ j.toNat)) else none
  | _, _ => none
def neg : D → Option D
  | .int i => some (.int (-i))
  | _ => none
def lt : D → D → Option D
  | .int i, .int j => some (.bl (decide (i < j)))
  | _, _ => none
def le : D → D → Option D
  | .int i, .int j => some (.bl (decide (i ≤ j)))
  | _, _ => none
def gt : D → D → Option D
  | .int i, .int j => some (.bl (decide (j < i)))
  | _, _ => none
def ge : D → D → Option D
  | .int i, .int j => some (.bl (decide (j ≤ i)))
  | _, _ => none
def isNon : D → Bool
  | .non => true
  | .raw w => decide (w = .non)
  | _ => false
/-- a dict's key -/
def key1 : D → Option L2.Key
  | .int i => some (.inl i)
  | .str s => some (.inr s)
  | _ => none
def keys1 : List D → Option (List L2.Key)
  | [] => some []
  | x :: xs => (key1 x).bind fun k => (keys1 xs).map fun r => k :: r
def key : D → Option DK
  | .int i => some (.k (.inl i))
  | .str s => some (.k (.inr s))
  | .tup xs => (keys1 xs).map .t
  | _ => none
def ofKey1 : L2.Key → D
  | .inl i => .int i
  | .inr s => .str s
def ofKey : DK → D
  | .k x => ofKey1 x
  | .t xs => .tup (xs.map ofKey1)
/-- what stands under a key -/
def look (k : DK) : List DK → List D → Option D
  | k' :: ks, v :: vs => if k' = k then some v else look k ks vs
  | _, _ => none
/-- a key of the kind (tuples, if t) -/
def kind (t : Bool) : DK → Bool
  | .k _ => !t
  | .t _ => t
def inFlat (x : D) (xs : List D) : Bool := xs.any fun y => feq y x
/-- x in y -/
def isin (x y : D) : Option Bool := match y with
  | .str z => (match x with
    | .str i => some (!(Builtin.Str.occurrences z i 0 z.length 1).isEmpty)
    | _ => none)
  | .lst ys => if flat x && ys.all flat then some (inFlat x ys) else (py x).bind fun d => (pyL ys).bind fun ds => if SeqAt.shaped d && SeqAt.shaped (.list ds) then some (ds.any fun z => PyData.eqv z d) else none
  | .tup ys => if flat x && ys.all flat then some (inFlat x ys) else none
  | .dct t ks vs => (key x).bind fun k => if kind t k then some (look k ks vs).isSome else none
  | _ => none
def inn (x y : D) : Option D := (isin x y).map .bl
def nin (x y : D) : Option D := (isin x y).map fun k => .bl (!k)
/-- x[i] -/
def idx : D → D → Option D
  | .lst xs, .int i => L2.atI xs i
  | .tup xs, .int i => L2.atI xs i
  | .str z, .int i => if z.length ≤ sizeLine then (L2.atI z.cps.toList i).map fun c => .str ⟨#[c]⟩ else none
  | .dct t ks vs, y => (key y).bind fun k => if kind t k then look k ks vs else none
  | _, _ => none
/-- x[lo:hi] -/
def cut (xs : List D) (lo hi : Option Int) : List D := (xs.drop (HT.sIx xs.length 0 lo)).take (HT.sIx xs.length xs.length hi - HT.sIx xs.length 0 lo)
def bnd : Option D → Option (Option Int)
  | none => some none
  | some (.int i) => some (some i)
  | _ => none
def len : D → Option Int
  | .lst xs => some xs.length
  | .tup xs => some xs.length
  | .dct _ ks _ => some ks.length
  | .str z => if z.length ≤ sizeLine then some z.length else none
  | _ => none
/-- the names of the built-in classes that a value is of; an instance's own class -/
def isa (t : Str) : D → Bool
  | .non => decide (t = ("NoneType" : Str))
  | .bl _ => decide (t = ("bool" : Str)) || decide (t = ("int" : Str))
  | .int _ => decide (t = ("int" : Str))
  | .str _ => decide (t = ("str" : Str))
  | .lst _ => decide (t = ("list" : Str))
  | .tup _ => decide (t = ("tuple" : Str))
  | .dct _ _ _ => decide (t = ("dict" : Str))
  | .obj c _ _ => decide (t = c)
  | _ => false
end D
end Mir
end

set_option maxHeartbeats 200000
section
/-! How a value stands in the abstract heap: frozen (Rep), own (RepO). -/
namespace Mir
open PySem L2
/-- a dict at a, its keys (tuples, if t) and values in order -/
def DictAt (G : Hp) (t : Bool) (a : Addr) (ks : List DK) (vs : List V) : Prop := match t with
  | false => ∃ kvs : List (L2.Key × V), Rd G a (.dK kvs) ∧ ks = kvs.map (fun p => DK.k p.1) ∧ vs = kvs.map (fun p => p.2)
  | true => ∃ kvs : List (List L2.Key × V), Rd G a (.dT kvs) ∧ ks = kvs.map (fun p => DK.t p.1) ∧ vs = kvs.map (fun p => p.2)
theorem rd_of {G G' : Hp} {a : Addr} {u : HO} (e : ∀ o, G a = some o → G' a = some o) (h : Rd G a u) : Rd G' a u := by
  rcases h with h | ⟨o, h⟩
  · exact .inl (e _ h)
  · exact .inr ⟨o, e _ h⟩
theorem DictAt.of {G G' : Hp} {t : Bool} {a : Addr} {ks : List DK} {vs : List V} (e : ∀ o, G a = some o → G' a = some o) (h : DictAt G t a ks vs) : DictAt G' t a ks vs := by
  cases t <;> (obtain ⟨kvs, h1, h2⟩ := h; exact ⟨kvs, rd_of e h1, h2⟩)
theorem DictAt.there {G : Hp} {t : Bool} {a : Addr} {ks : List DK} {vs : List V} (h : DictAt G t a ks vs) : ∃ o, G a = some o := by
  cases t <;> (obtain ⟨kvs, h1 | ⟨o, h1⟩, h2⟩ := h <;> exact ⟨_, h1⟩)
/-- .. and not locked -/
def DictU (G : Hp) (t : Bool) (a : Addr) (ks : List DK) (vs : List V) : Prop := match t with
  | false => ∃ kvs : List (L2.Key × V), G a = some (.dK kvs) ∧ ks = kvs.map (fun p => DK.k p.1) ∧ vs = kvs.map (fun p => p.2)
  | true => ∃ kvs : List (List L2.Key × V), G a = some (.dT kvs) ∧ ks = kvs.map (fun p => DK.t p.1) ∧ vs = kvs.map (fun p => p.2)
theorem DictU.of {G G' : Hp} {t : Bool} {a : Addr} {ks : List DK} {vs : List V} (e : ∀ o, G a = some o → G' a = some o) (h : DictU G t a ks vs) : DictU G' t a ks vs := by
  cases t <;> (obtain ⟨kvs, h1, h2⟩ := h; exact ⟨kvs, e _ h1, h2⟩)
theorem DictU.there {G : Hp} {t : Bool} {a : Addr} {ks : List DK} {vs : List V} (h : DictU G t a ks vs) : ∃ o, G a = some o := by
  cases t <;> (obtain ⟨kvs, h1, h2⟩ := h; exact ⟨_, h1⟩)
theorem DictU.at {G : Hp} {t : Bool} {a : Addr} {ks : List DK} {vs : List V} (h : DictU G t a ks vs) : DictAt G t a ks vs := by
  cases t <;> (obtain ⟨kvs, h1, h2⟩ := h; exact ⟨kvs, .inl h1, h2⟩)
section
variable (cA : Str → Addr)
mutual
def Rep (G : Hp) : D → V → Prop
  | .non, v => v = .non
  | .bl b, v => v = .bl b
  | .int i, v => v = .int i
  | .str s, v => v = .str s
  | .lst ds, v => ∃ a vs, v = .ref a ∧ G a = some (.lst vs) ∧ RepL G ds vs
  | .tup ds, v => ∃ a vs, v = .ref a ∧ G a = some (.tup vs) ∧ RepL G ds vs
  | .dct t ks ds, v => ∃ a vs, v = .ref a ∧ DictAt G t a ks vs ∧ RepL G ds vs
  | .obj c ns ds, v => ∃ a dx fs, v = .ref a ∧ G a = some (.ins (cA c) dx fs) ∧ G dx = some (.own a) ∧ fs.map (fun p => p.1) = ns ∧ RepL G ds (fs.map (fun p => p.2))
  | .xc c ns ds, v => ∃ a, v = .ref a ∧ ((ns = [] ∧ ds = [] ∧ G a = some (exo a (cA c) none)) ∨ ∃ dx fs, G a = some (exo a (cA c) (some dx)) ∧ G dx = some (exd dx fs) ∧ fs.map (fun p => p.1) = ns ∧ RepL G ds (fs.map (fun p => p.2)))
  | .raw w, v => v = w
def RepL (G : Hp) : List D → List V → Prop
  | [], vs => vs = []
  | d :: ds, vs => ∃ v r, vs = v :: r ∧ Rep G d v ∧ RepL G ds r
end
end
/-- who owns what: frozen, or a node of one's own with parts -/
inductive Ow where
  | fz | lst (m : Ow) | tup (ms : List Ow) | dct (m : Ow) | obj (ms : List Ow)
  /-- a list or a dict of frozen parts, one's own; or frozen -/
  | mx
def AllO (P : D → V → List Addr → Prop) : List D → List V → List Addr → Prop
  | [], vs, as => vs = [] ∧ as = []
  | d :: ds, vs, as => ∃ v r a1 a2, vs = v :: r ∧ as = a1 ++ a2 ∧ P d v a1 ∧ AllO P ds r a2
/-- no list, no dict -/
def D.imm : D → Bool
  | .lst _ => false
  | .dct _ _ _ => false
  | _ => true
section
variable (cA : Str → Addr)
mutual
def RepO (G H : Hp) : Ow → D → V → List Addr → Prop
  | .fz, d, v, as => as = [] ∧ Rep cA G d v
  | .lst m, d, v, as => ∃ a ds vs r, d = .lst ds ∧ v = .ref a ∧ as = a :: r ∧ H a = some (.lst vs) ∧ AllO (RepO G H m) ds vs r
  | .tup ms, d, v, as => ∃ a ds vs r, d = .tup ds ∧ v = .ref a ∧ as = a :: r ∧ H a = some (.tup vs) ∧ RepOT G H ms ds vs r
  | .dct m, d, v, as => ∃ a t ks ds vs r, d = .dct t ks ds ∧ v = .ref a ∧ as = a :: r ∧ DictU H t a ks vs ∧ AllO (RepO G H m) ds vs r
  | .obj ms, d, v, as => ∃ a dx c ns ds fs r, d = .obj c ns ds ∧ v = .ref a ∧ as = a :: dx :: r ∧ H a = some (.ins (cA c) dx fs) ∧ H dx = some (.own a) ∧ fs.map (fun p => p.1) = ns ∧ RepOT G H ms ds (fs.map (fun p => p.2)) r
  | .mx, d, v, as => (as = [] ∧ d.imm = true ∧ Rep cA G d v) ∨ (∃ a ds vs, d = .lst ds ∧ v = .ref a ∧ as = [a] ∧ H a = some (.lst vs) ∧ RepL cA G ds vs) ∨ (∃ a t ks ds vs, d = .dct t ks ds ∧ v = .ref a ∧ as = [a] ∧ DictU H t a ks vs ∧ RepL cA G ds vs)
def RepOT (G H : Hp) : List Ow → List D → List V → List Addr → Prop
  | [], ds, vs, as => ds = [] ∧ vs = [] ∧ as = []
  | m :: ms, ds, vs, as => ∃ d dr v vr a1 a2, ds = d :: dr ∧ vs = v :: vr ∧ as = a1 ++ a2 ∧ RepO G H m d v a1 ∧ RepOT G H ms dr vr a2
end
end
section
variable {cA : Str → Addr} {G G' H H' : Hp}
mutual
theorem Rep.mono (e : Same G G') : ∀ {d : D} {v : V}, Rep cA G d v → Rep cA G' d v
  | .non, v, h => by simpa only [Rep] using h
  | .bl b, v, h => by simpa only [Rep] using h
  | .int i, v, h => by simpa only [Rep] using h
  | .str s, v, h => by simpa only [Rep] using h
  | .lst ds, v, h => by
    simp only [Rep] at h ⊢
    obtain ⟨a, vs, h1, h2, h3⟩ := h
    exact ⟨a, vs, h1, e _ _ h2, RepL.mono e h3⟩
  | .tup ds, v, h => by
    simp only [Rep] at h ⊢
    obtain ⟨a, vs, h1, h2, h3⟩ := h
    exact ⟨a, vs, h1, e _ _ h2, RepL.mono e h3⟩
  | .dct t ks ds, v, h => by
    simp only [Rep] at h ⊢
    obtain ⟨a, vs, h1, h2, h3⟩ := h
    exact ⟨a, vs, h1, h2.of (e a), RepL.mono e h3⟩
  | .obj c ns ds, v, h => by
    simp only [Rep] at h ⊢
    obtain ⟨a, dx, fs, h1, h2, h3, h4, h5⟩ := h
    exact ⟨a, dx, fs, h1, e _ _ h2, e _ _ h3, h4, RepL.mono e h5⟩
  | .xc c ns ds, v, h => by
    simp only [Rep] at h ⊢
    obtain ⟨a, h1, h⟩ := h
    rcases h with ⟨h2, h3, h4⟩ | ⟨dx, fs, h2, h3, h4, h5⟩
    · exact ⟨a, h1, .inl ⟨h2, h3, e _ _ h4⟩⟩
    · exact ⟨a, h1, .inr ⟨dx, fs, e _ _ h2, e _ _ h3, h4, RepL.mono e h5⟩⟩
  | .raw w, v, h => by simpa only [Rep] using h
theorem RepL.mono (e : Same G G') : ∀ {ds : List D} {vs : List V}, RepL cA G ds vs → RepL cA G' ds vs
  | [], vs, h => by simpa only [RepL] using h
  | d :: ds, vs, h => by
    simp only [RepL] at h ⊢
    obtain ⟨v, r, h1, h2, h3⟩ := h
    exact ⟨v, r, h1, Rep.mono e h2, RepL.mono e h3⟩
end
theorem RepL.length : ∀ {ds : List D} {vs : List V}, RepL cA G ds vs → vs.length = ds.length
  | [], vs, h => by simp only [RepL] at h; rw [h]; rfl
  | d :: ds, vs, h => by
    simp only [RepL] at h
    obtain ⟨v, r, h1, h2, h3⟩ := h
    rw [h1, List.length_cons, List.length_cons, RepL.length h3]
theorem RepL.get : ∀ {ds : List D} {vs : List V} {i : Nat} {d : D}, RepL cA G ds vs → ds[i]? = some d → ∃ v, vs[i]? = some v ∧ Rep cA G d v
  | [], vs, i, d, h, e => by simp at e
  | d0 :: ds, vs, 0, d, h, e => by
    simp only [RepL] at h
    obtain ⟨v, r, h1, h2, h3⟩ := h
    simp at e
    subst e h1
    exact ⟨v, rfl, h2⟩
  | d0 :: ds, vs, i + 1, d, h, e => by
    simp only [RepL] at h
    obtain ⟨v, r, h1, h2, h3⟩ := h
    subst h1
    obtain ⟨v', q1, q2⟩ := RepL.get (i := i) h3 (by simpa using e)
    exact ⟨v', by simpa using q1, q2⟩
theorem RepL.getV {ds : List D} {vs : List V} {i : Nat} {v : V} (h : RepL cA G ds vs) (e : vs[i]? = some v) : ∃ d, ds[i]? = some d ∧ Rep cA G d v := by
  have hl : i < vs.length := (List.getElem?_eq_some_iff.mp e).1
  rw [RepL.length h] at hl
  obtain ⟨v', e1, r⟩ := RepL.get h (List.getElem?_eq_getElem hl)
  rw [e] at e1
  cases e1
  exact ⟨_, List.getElem?_eq_getElem hl, r⟩
theorem RepL.append : ∀ {ds es : List D} {vs ws : List V}, RepL cA G ds vs → RepL cA G es ws → RepL cA G (ds ++ es) (vs ++ ws)
  | [], es, vs, ws, h, h' => by simp only [RepL] at h; subst h; exact h'
  | d :: ds, es, vs, ws, h, h' => by
    simp only [RepL] at h
    obtain ⟨v, r, rfl, h2, h3⟩ := h
    show RepL cA G (d :: (ds ++ es)) (v :: (r ++ ws))
    simp only [RepL]
    exact ⟨v, r ++ ws, rfl, h2, RepL.append h3 h'⟩
theorem RepL.cons {d : D} {ds : List D} {v : V} {vs : List V} (h : Rep cA G d v) (h' : RepL cA G ds vs) : RepL cA G (d :: ds) (v :: vs) := by
  simp only [RepL]
  exact ⟨v, vs, rfl, h, h'⟩
theorem RepL.nil : RepL cA G [] [] := by simp only [RepL]
theorem RepL.take : ∀ {ds : List D} {vs : List V} (n : Nat), RepL cA G ds vs → RepL cA G (ds.take n) (vs.take n)
  | _, _, 0, _ => by simpa using RepL.nil
  | [], vs, n + 1, h => by simp only [RepL] at h; subst h; exact RepL.nil
  | d :: ds, vs, n + 1, h => by
    simp only [RepL] at h
    obtain ⟨v, r, rfl, h2, h3⟩ := h
    exact .cons h2 (RepL.take n h3)
theorem RepL.drop : ∀ {ds : List D} {vs : List V} (n : Nat), RepL cA G ds vs → RepL cA G (ds.drop n) (vs.drop n)
  | _, _, 0, h => h
  | [], vs, n + 1, h => by simp only [RepL] at h; subst h; exact RepL.nil
  | d :: ds, vs, n + 1, h => by
    simp only [RepL] at h
    obtain ⟨v, r, rfl, h2, h3⟩ := h
    exact RepL.drop n h3
theorem RepL.set {d : D} {v : V} (q : Rep cA G d v) : ∀ {ds : List D} {vs : List V} (n : Nat), RepL cA G ds vs → RepL cA G (ds.set n d) (vs.set n v)
  | [], vs, n, h => by simp only [RepL] at h; subst h; exact RepL.nil
  | d' :: ds, vs, 0, h => by
    simp only [RepL] at h
    obtain ⟨v', r, rfl, h2, h3⟩ := h
    exact .cons q h3
  | d' :: ds, vs, n + 1, h => by
    simp only [RepL] at h
    obtain ⟨v', r, rfl, h2, h3⟩ := h
    exact .cons h2 (RepL.set q n h3)
theorem RepL.eraseIdx : ∀ {ds : List D} {vs : List V} (n : Nat), RepL cA G ds vs → RepL cA G (ds.eraseIdx n) (vs.eraseIdx n)
  | [], vs, n, h => by simp only [RepL] at h; subst h; exact RepL.nil
  | d' :: ds, vs, 0, h => by
    simp only [RepL] at h
    obtain ⟨v', r, rfl, h2, h3⟩ := h
    exact h3
  | d' :: ds, vs, n + 1, h => by
    simp only [RepL] at h
    obtain ⟨v', r, rfl, h2, h3⟩ := h
    exact .cons h2 (RepL.eraseIdx n h3)
theorem RepL.reverse : ∀ {ds : List D} {vs : List V}, RepL cA G ds vs → RepL cA G ds.reverse vs.reverse
  | [], vs, h => by simp only [RepL] at h; subst h; exact RepL.nil
  | d' :: ds, vs, h => by
    simp only [RepL] at h
    obtain ⟨v', r, rfl, h2, h3⟩ := h
    simp only [List.reverse_cons]
    exact .append (RepL.reverse h3) (.cons h2 RepL.nil)
/-! ### own parts -/
theorem AllO.imp {P P' : D → V → List Addr → Prop} {as0 : List Addr} (h : ∀ d v as, (∀ a ∈ as, a ∈ as0) → P d v as → P' d v as) : ∀ {ds : List D} {vs : List V} {as : List Addr}, (∀ a ∈ as, a ∈ as0) → AllO P ds vs as → AllO P' ds vs as
  | [], vs, as, s, q => q
  | d :: ds, vs, as, s, q => by
    obtain ⟨v, r, a1, a2, rfl, rfl, q1, q2⟩ := q
    exact ⟨v, r, a1, a2, rfl, rfl, h _ _ _ (fun a ha => s a (List.mem_append_left _ ha)) q1, AllO.imp h (fun a ha => s a (List.mem_append_right _ ha)) q2⟩
theorem AllO.rep {P : D → V → List Addr → Prop} {as0 : List Addr} (h : ∀ d v as, (∀ a ∈ as, a ∈ as0) → P d v as → Rep cA G' d v) : ∀ {ds : List D} {vs : List V} {as : List Addr}, (∀ a ∈ as, a ∈ as0) → AllO P ds vs as → RepL cA G' ds vs
  | [], vs, as, s, q => by rw [q.1]; exact RepL.nil
  | d :: ds, vs, as, s, q => by
    obtain ⟨v, r, a1, a2, rfl, rfl, q1, q2⟩ := q
    exact .cons (h _ _ _ (fun a ha => s a (List.mem_append_left _ ha)) q1) (AllO.rep h (fun a ha => s a (List.mem_append_right _ ha)) q2)
theorem AllO.length {P : D → V → List Addr → Prop} : ∀ {ds : List D} {vs : List V} {as : List Addr}, AllO P ds vs as → vs.length = ds.length
  | [], vs, as, q => by rw [q.1]; rfl
  | d :: ds, vs, as, q => by
    obtain ⟨v, r, a1, a2, rfl, rfl, q1, q2⟩ := q
    rw [List.length_cons, List.length_cons, AllO.length q2]
theorem AllO.append {P : D → V → List Addr → Prop} : ∀ {ds es : List D} {vs ws : List V} {as bs : List Addr}, AllO P ds vs as → AllO P es ws bs → AllO P (ds ++ es) (vs ++ ws) (as ++ bs)
  | [], es, vs, ws, as, bs, q, q' => by obtain ⟨rfl, rfl⟩ := q; exact q'
  | d :: ds, es, vs, ws, as, bs, q, q' => by
    obtain ⟨v, r, a1, a2, rfl, rfl, q1, q2⟩ := q
    exact ⟨v, r ++ ws, a1, a2 ++ bs, rfl, by rw [List.append_assoc], q1, AllO.append q2 q'⟩
mutual
/-- the own nodes as they were, the frozen ones grown -/
theorem RepO.agree (e : Same G G') : ∀ {m : Ow} {d : D} {v : V} {as : List Addr}, (∀ a ∈ as, H' a = H a) → RepO cA G H m d v as → RepO cA G' H' m d v as
  | .fz, d, v, as, s, h => by
    simp only [RepO] at h ⊢
    exact ⟨h.1, h.2.mono e⟩
  | .lst m, d, v, as, s, h => by
    simp only [RepO] at h ⊢
    obtain ⟨a, ds, vs, r, rfl, rfl, rfl, h1, h2⟩ := h
    refine ⟨a, ds, vs, r, rfl, rfl, rfl, by rw [s a (by simp), h1], AllO.imp (as0 := r) (fun d v as hs q => RepO.agree e (fun b hb => s b (List.mem_cons_of_mem _ (hs b hb))) q) (fun _ z => z) h2⟩
  | .tup ms, d, v, as, s, h => by
    simp only [RepO] at h ⊢
    obtain ⟨a, ds, vs, r, rfl, rfl, rfl, h1, h2⟩ := h
    exact ⟨a, ds, vs, r, rfl, rfl, rfl, by rw [s a (by simp), h1], RepOT.agree e (fun b hb => s b (List.mem_cons_of_mem _ hb)) h2⟩
  | .dct m, d, v, as, s, h => by
    simp only [RepO] at h ⊢
    obtain ⟨a, t, ks, ds, vs, r, rfl, rfl, rfl, h1, h2⟩ := h
    exact ⟨a, t, ks, ds, vs, r, rfl, rfl, rfl, h1.of fun o q => by rw [s a (by simp), q], AllO.imp (as0 := r) (fun d v as hs q => RepO.agree e (fun b hb => s b (List.mem_cons_of_mem _ (hs b hb))) q) (fun _ z => z) h2⟩
  | .obj ms, d, v, as, s, h => by
    simp only [RepO] at h ⊢
    obtain ⟨a, dx, c, ns, ds, fs, r, rfl, rfl, rfl, h1, h2, h3, h4⟩ := h
    exact ⟨a, dx, c, ns, ds, fs, r, rfl, rfl, rfl, by rw [s a (by simp), h1], by rw [s dx (by simp), h2], h3, RepOT.agree e (fun b hb => s b (List.mem_cons_of_mem _ (List.mem_cons_of_mem _ hb))) h4⟩
  | .mx, d, v, as, s, h => by
    simp only [RepO] at h ⊢
    rcases h with ⟨h1, hi, h2⟩ | ⟨a, ds, vs, h1, h2, rfl, h3, h4⟩ | ⟨a, t, ks, ds, vs, h1, h2, rfl, h3, h4⟩
    · exact .inl ⟨h1, hi, h2.mono e⟩
    · exact .inr (.inl ⟨a, ds, vs, h1, h2, rfl, by rw [s a (by simp), h3], h4.mono e⟩)
    · exact .inr (.inr ⟨a, t, ks, ds, vs, h1, h2, rfl, h3.of fun o q => by rw [s a (by simp), q], h4.mono e⟩)
theorem RepOT.agree (e : Same G G') : ∀ {ms : List Ow} {ds : List D} {vs : List V} {as : List Addr}, (∀ a ∈ as, H' a = H a) → RepOT cA G H ms ds vs as → RepOT cA G' H' ms ds vs as
  | [], ds, vs, as, s, h => by simpa only [RepOT] using h
  | m :: ms, ds, vs, as, s, h => by
    simp only [RepOT] at h ⊢
    obtain ⟨d, dr, v, vr, a1, a2, rfl, rfl, rfl, h1, h2⟩ := h
    exact ⟨d, dr, v, vr, a1, a2, rfl, rfl, rfl, RepO.agree e (fun b hb => s b (List.mem_append_left _ hb)) h1, RepOT.agree e (fun b hb => s b (List.mem_append_right _ hb)) h2⟩
end
mutual
/-- the own nodes taken into a frozen heap -/
theorem RepO.into (e : Same G G') : ∀ {m : Ow} {d : D} {v : V} {as : List Addr}, (∀ a ∈ as, ∀ o, H a = some o → G' a = some o) → RepO cA G H m d v as → Rep cA G' d v
  | .fz, d, v, as, s, h => by
    simp only [RepO] at h
    exact h.2.mono e
  | .lst m, d, v, as, s, h => by
    simp only [RepO] at h
    obtain ⟨a, ds, vs, r, rfl, rfl, rfl, h1, h2⟩ := h
    simp only [Rep]
    exact ⟨a, vs, rfl, s a (by simp) _ h1, AllO.rep (as0 := r) (fun d v as hs q => RepO.into e (fun b hb => s b (List.mem_cons_of_mem _ (hs b hb))) q) (fun _ z => z) h2⟩
  | .tup ms, d, v, as, s, h => by
    simp only [RepO] at h
    obtain ⟨a, ds, vs, r, rfl, rfl, rfl, h1, h2⟩ := h
    simp only [Rep]
    exact ⟨a, vs, rfl, s a (by simp) _ h1, RepOT.into e (fun b hb => s b (List.mem_cons_of_mem _ hb)) h2⟩
  | .dct m, d, v, as, s, h => by
    simp only [RepO] at h
    obtain ⟨a, t, ks, ds, vs, r, rfl, rfl, rfl, h1, h2⟩ := h
    simp only [Rep]
    exact ⟨a, vs, rfl, (h1.of (s a (by simp))).at, AllO.rep (as0 := r) (fun d v as hs q => RepO.into e (fun b hb => s b (List.mem_cons_of_mem _ (hs b hb))) q) (fun _ z => z) h2⟩
  | .obj ms, d, v, as, s, h => by
    simp only [RepO] at h
    obtain ⟨a, dx, c, ns, ds, fs, r, rfl, rfl, rfl, h1, h2, h3, h4⟩ := h
    simp only [Rep]
    exact ⟨a, dx, fs, rfl, s a (by simp) _ h1, s dx (by simp) _ h2, h3, RepOT.into e (fun b hb => s b (List.mem_cons_of_mem _ (List.mem_cons_of_mem _ hb))) h4⟩
  | .mx, d, v, as, s, h => by
    simp only [RepO] at h
    rcases h with ⟨h1, hi, h2⟩ | ⟨a, ds, vs, rfl, rfl, rfl, h3, h4⟩ | ⟨a, t, ks, ds, vs, rfl, rfl, rfl, h3, h4⟩
    · exact h2.mono e
    · simp only [Rep]
      exact ⟨a, vs, rfl, s a (by simp) _ h3, h4.mono e⟩
    · simp only [Rep]
      exact ⟨a, vs, rfl, (h3.of (s a (by simp))).at, h4.mono e⟩
theorem RepOT.into (e : Same G G') : ∀ {ms : List Ow} {ds : List D} {vs : List V} {as : List Addr}, (∀ a ∈ as, ∀ o, H a = some o → G' a = some o) → RepOT cA G H ms ds vs as → RepL cA G' ds vs
  | [], ds, vs, as, s, h => by
    simp only [RepOT] at h
    rw [h.1, h.2.1]
    exact RepL.nil
  | m :: ms, ds, vs, as, s, h => by
    simp only [RepOT] at h
    obtain ⟨d, dr, v, vr, a1, a2, rfl, rfl, rfl, h1, h2⟩ := h
    exact .cons (RepO.into e (fun b hb => s b (List.mem_append_left _ hb)) h1) (RepOT.into e (fun b hb => s b (List.mem_append_right _ hb)) h2)
end
/-- all own nodes stand -/
theorem AllO.there {P : D → V → List Addr → Prop} (h : ∀ d v as, P d v as → ∀ a ∈ as, ∃ o, H a = some o) : ∀ {ds : List D} {vs : List V} {as : List Addr}, AllO P ds vs as → ∀ a ∈ as, ∃ o, H a = some o
  | [], vs, as, q, a, ha => by obtain ⟨rfl, rfl⟩ := q; simp at ha
  | d :: ds, vs, as, q, a, ha => by
    obtain ⟨v, r, a1, a2, rfl, rfl, q1, q2⟩ := q
    rcases List.mem_append.mp ha with z | z
    · exact h _ _ _ q1 a z
    · exact AllO.there h q2 a z
mutual
theorem RepO.there : ∀ {m : Ow} {d : D} {v : V} {as : List Addr}, RepO cA G H m d v as → ∀ a ∈ as, ∃ o, H a = some o
  | .fz, d, v, as, h, b, hb => by
    simp only [RepO] at h
    rw [h.1] at hb
    simp at hb
  | .lst m, d, v, as, h, b, hb => by
    simp only [RepO] at h
    obtain ⟨a, ds, vs, r, rfl, rfl, rfl, h1, h2⟩ := h
    rcases List.mem_cons.mp hb with rfl | hb
    · exact ⟨_, h1⟩
    · exact AllO.there (fun d v as q => RepO.there q) h2 b hb
  | .tup ms, d, v, as, h, b, hb => by
    simp only [RepO] at h
    obtain ⟨a, ds, vs, r, rfl, rfl, rfl, h1, h2⟩ := h
    rcases List.mem_cons.mp hb with rfl | hb
    · exact ⟨_, h1⟩
    · exact RepOT.there h2 b hb
  | .dct m, d, v, as, h, b, hb => by
    simp only [RepO] at h
    obtain ⟨a, t, ks, ds, vs, r, rfl, rfl, rfl, h1, h2⟩ := h
    rcases List.mem_cons.mp hb with rfl | hb
    · exact h1.there
    · exact AllO.there (fun d v as q => RepO.there q) h2 b hb
  | .obj ms, d, v, as, h, b, hb => by
    simp only [RepO] at h
    obtain ⟨a, dx, c, ns, ds, fs, r, rfl, rfl, rfl, h1, h2, h3, h4⟩ := h
    rcases List.mem_cons.mp hb with rfl | hb
    · exact ⟨_, h1⟩
    · rcases List.mem_cons.mp hb with rfl | hb
      · exact ⟨_, h2⟩
      · exact RepOT.there h4 b hb
  | .mx, d, v, as, h, b, hb => by
    simp only [RepO] at h
    rcases h with ⟨h1, hi, h2⟩ | ⟨a, ds, vs, rfl, rfl, rfl, h3, h4⟩ | ⟨a, t, ks, ds, vs, rfl, rfl, rfl, h3, h4⟩
    · rw [h1] at hb; simp at hb
    · simp only [List.mem_singleton] at hb
      subst hb
      exact ⟨_, h3⟩
    · simp only [List.mem_singleton] at hb
      subst hb
      exact h3.there
theorem RepOT.there : ∀ {ms : List Ow} {ds : List D} {vs : List V} {as : List Addr}, RepOT cA G H ms ds vs as → ∀ a ∈ as, ∃ o, H a = some o
  | [], ds, vs, as, h, b, hb => by
    simp only [RepOT] at h
    rw [h.2.2] at hb
    simp at hb
  | m :: ms, ds, vs, as, h, b, hb => by
    simp only [RepOT] at h
    obtain ⟨d, dr, v, vr, a1, a2, rfl, rfl, rfl, h1, h2⟩ := h
    rcases List.mem_append.mp hb with z | z
    · exact RepO.there h1 b z
    · exact RepOT.there h2 b z
end
end
end Mir
end

set_option maxHeartbeats 200000
section
/-! The judgements: what a piece of the text does, told by its mirror. -/
namespace Mir
open PySem L2
/-- what stands fixed through a body: where the classes stand, where the draws' state stands, the nodes that are lent, the heaps at the entry, what is wanted of an exception, what a function value is -/
structure Ct where
  cA : Str → Addr
  S : Option (Addr × Addr)
  lent : List Addr
  G0 : Hp
  H0 : Hp
  E : XK
  fnv : V → (List D → M D) → Prop
def stN : Option (Addr × Addr) → List Addr
  | none => []
  | some (a, b) => [a, b]
def StOk : Option (Addr × Addr) → Hp → Hp → DS → Prop
  | none, _, _, _ => True
  | some (a, b), G, H, ds => a ≠ b ∧ G a = none ∧ G b = none ∧ H a = some (.lst [.ref b, .int ds.big, .int ds.cnt, .int ds.mix]) ∧ H b = some (.lst (ds.cells.map V.int))
theorem StOk.there {S : Option (Addr × Addr)} {G H : Hp} {ds : DS} (h : StOk S G H ds) {a : Addr} (ha : a ∈ stN S) : ∃ o, H a = some o := by
  cases S with
  | none => simp [stN] at ha
  | some p =>
    obtain ⟨x, y⟩ := p
    obtain ⟨_, _, _, h1, h2⟩ := h
    simp only [stN, List.mem_cons, List.not_mem_nil, or_false] at ha
    rcases ha with rfl | rfl
    · exact ⟨_, h1⟩
    · exact ⟨_, h2⟩
theorem StOk.free {S : Option (Addr × Addr)} {G H : Hp} {ds : DS} (h : StOk S G H ds) {a : Addr} (ha : a ∈ stN S) : G a = none := by
  cases S with
  | none => simp [stN] at ha
  | some p =>
    obtain ⟨x, y⟩ := p
    obtain ⟨_, g1, g2, h1, h2⟩ := h
    simp only [stN, List.mem_cons, List.not_mem_nil, or_false] at ha
    rcases ha with rfl | rfl
    · exact g1
    · exact g2
theorem StOk.at {S : Option (Addr × Addr)} {G H G' H' : Hp} {ds : DS} (h : StOk S G H ds) (g : ∀ a ∈ stN S, G' a = G a) (e : ∀ a ∈ stN S, H' a = H a) : StOk S G' H' ds := by
  cases S with
  | none => trivial
  | some p =>
    obtain ⟨x, y⟩ := p
    obtain ⟨n, g1, g2, h1, h2⟩ := h
    have ex : x ∈ stN (some (x, y)) := by simp [stN]
    have ey : y ∈ stN (some (x, y)) := by simp [stN]
    exact ⟨n, by rw [g x ex, g1], by rw [g y ey, g2], by rw [e x ex, h1], by rw [e y ey, h2]⟩
/-- later: what stood stands, but the nodes of the state and those at L; the frozen part has grown by new nodes alone -/
structure ExtA (L : List Addr) (S : Option (Addr × Addr)) (G H G' H' : Hp) : Prop where
  g : Same G G'
  h : ∀ b o, b ∉ stN S → b ∉ L → H b = some o → H' b = some o
  s : ∀ b o, H b = some o → ∃ o', H' b = some o'
  new : ∀ a o, G' a = some o → G a = some o ∨ H a = none
  sub : Same G' H'
abbrev Ext (S : Option (Addr × Addr)) (G H G' H' : Hp) : Prop := ExtA [] S G H G' H'
theorem ExtA.refl {L : List Addr} {S : Option (Addr × Addr)} {G H : Hp} (e : Same G H) : ExtA L S G H G H :=
  ⟨Same.refl _, fun _ _ _ _ h => h, fun _ o h => ⟨o, h⟩, fun _ _ h => .inl h, e⟩
theorem ExtA.free {L : List Addr} {S : Option (Addr × Addr)} {G H G' H' : Hp} (e : ExtA L S G H G' H') {a : Addr} (h : H' a = none) : H a = none := by
  cases q : H a with
  | none => rfl
  | some o =>
    obtain ⟨o', z⟩ := e.s a o q
    rw [h] at z
    cases z
theorem ExtA.trans {L : List Addr} {S : Option (Addr × Addr)} {G H G1 H1 G2 H2 : Hp} (a : ExtA L S G H G1 H1) (b : ExtA L S G1 H1 G2 H2) : ExtA L S G H G2 H2 where
  g := a.g.trans b.g
  h := fun x o hs hl q => b.h x o hs hl (a.h x o hs hl q)
  s := fun x o q => by
    obtain ⟨o', q'⟩ := a.s x o q
    exact b.s x o' q'
  new := fun x o q => by
    rcases b.new x o q with z | z
    · exact a.new x o z
    · exact .inr (a.free z)
  sub := b.sub
theorem ExtA.more {L : List Addr} {S : Option (Addr × Addr)} {G H G' H' : Hp} (e : Ext S G H G' H') : ExtA L S G H G' H' :=
  ⟨e.g, fun b o hs _ q => e.h b o hs (by simp) q, e.s, e.new, e.sub⟩
/-- a new node laid, not frozen -/
theorem Ext.laid {S : Option (Addr × Addr)} {G H : Hp} (e : Same G H) {p : Addr} (hp : H p = none) (o : HO) : Ext S G H G (upd H p o) where
  g := Same.refl _
  h := fun b x _ _ q => by rw [upd_ne (ne_of_none q hp)]; exact q
  s := fun b x q => ⟨x, by rw [upd_ne (ne_of_none q hp)]; exact q⟩
  new := fun _ _ h => .inl h
  sub := fun b x q => by rw [upd_ne (ne_of_none (e _ _ q) hp)]; exact e _ _ q
theorem StOk.laid {S : Option (Addr × Addr)} {G H : Hp} {ds : DS} (h : StOk S G H ds) {p : Addr} (hp : H p = none) (o : HO) : StOk S G (upd H p o) ds :=
  h.at (fun _ _ => rfl) fun a ha => by
    obtain ⟨x, q⟩ := h.there ha
    rw [upd_ne (ne_of_none q hp)]
/-- the nodes at as taken into the frozen part -/
def frz (G H : Hp) (as : List Addr) : Hp := fun b => if b ∈ as then H b else G b
theorem frz_in {G H : Hp} {as : List Addr} {a : Addr} (h : a ∈ as) : frz G H as a = H a := if_pos h
theorem frz_out {G H : Hp} {as : List Addr} {a : Addr} (h : a ∉ as) : frz G H as a = G a := if_neg h
theorem frz_same {G H : Hp} {as : List Addr} (e : Same G H) : Same G (frz G H as) := fun b o q => by
  by_cases hb : b ∈ as
  · rw [frz_in hb]; exact e _ _ q
  · rw [frz_out hb]; exact q
theorem frz_sub {G H : Hp} {as : List Addr} (e : Same G H) : Same (frz G H as) H := fun b o q => by
  by_cases hb : b ∈ as
  · rw [frz_in hb] at q; exact q
  · rw [frz_out hb] at q; exact e _ _ q
/-- provenance: a fresh value of mode m; a view -/
inductive Pv where
  | ow (m : Ow) | vw (m : Ow)
abbrev fz : Pv := .ow .fz
def ResA (c : Ct) (H G' H' : Hp) (m : Ow) (d : D) (v : V) (as : List Addr) : Prop := RepO c.cA G' H' m d v as ∧ as.Nodup ∧ ∀ a ∈ as, H a = none ∧ G' a = none
def Res' (c : Ct) (p : Pv) (H G' H' : Hp) (d : D) (v : V) : Prop := match p with
  | .ow m => ∃ as, ResA c H G' H' m d v as
  | .vw m => ∃ as, RepO c.cA G' H' m d v as ∧ ∀ a ∈ as, a ∉ stN c.S ∧ G' a = none
theorem Res'.rep {c : Ct} {p : Pv} {H G' H' : Hp} {d : D} {v : V} (e : Same G' H') (h : Res' c p H G' H' d v) : Rep c.cA H' d v := by
  cases p with
  | ow m =>
    obtain ⟨as, h, _⟩ := h
    exact h.into e fun _ _ _ q => q
  | vw m =>
    obtain ⟨as, h, _⟩ := h
    exact h.into e fun _ _ _ q => q
theorem Res'.fz {c : Ct} {H G' H' : Hp} {d : D} {v : V} (h : Res' c fz H G' H' d v) : Rep c.cA G' d v := by
  obtain ⟨as, h, _⟩ := h
  simp only [RepO] at h
  exact h.2
theorem Res'.of_fz {c : Ct} {H G' H' : Hp} {d : D} {v : V} (h : Rep c.cA G' d v) : Res' c Mir.fz H G' H' d v := ⟨[], by simp only [ResA, RepO]; exact ⟨⟨trivial, h⟩, List.nodup_nil, by simp⟩⟩
/-- kept later -/
theorem Res'.ext {c : Ct} {p : Pv} {H G1 H1 G2 H2 : Hp} {d : D} {v : V} {ds : DS} (st : StOk c.S G1 H1 ds) (st0 : ∀ a ∈ stN c.S, ∃ o, H a = some o) (e : Ext c.S G1 H1 G2 H2) (h : Res' c p H G1 H1 d v) : Res' c p H G2 H2 d v := by
  cases p with
  | ow m =>
    obtain ⟨as, h, nd, fr⟩ := h
    have ns : ∀ a ∈ as, a ∉ stN c.S := fun a ha hs => by
      obtain ⟨o, q⟩ := st0 a hs
      rw [(fr a ha).1] at q
      cases q
    refine ⟨as, h.agree e.g fun a ha => ?_, nd, fun a ha => ⟨(fr a ha).1, ?_⟩⟩
    · obtain ⟨o, q⟩ := h.there a ha
      rw [q, e.h a o (ns a ha) (by simp) q]
    · cases q : G2 a with
      | none => rfl
      | some o =>
        obtain ⟨o', q'⟩ := h.there a ha
        rcases e.new a o q with z | z
        · rw [(fr a ha).2] at z; cases z
        · rw [q'] at z; cases z
  | vw m =>
    obtain ⟨as, h, ns⟩ := h
    refine ⟨as, h.agree e.g fun a ha => ?_, fun a ha => ⟨(ns a ha).1, ?_⟩⟩
    · obtain ⟨o, q⟩ := h.there a ha
      rw [q, e.h a o (ns a ha).1 (by simp) q]
    · cases q : G2 a with
      | none => rfl
      | some o =>
        obtain ⟨o', q'⟩ := h.there a ha
        rcases e.new a o q with z | z
        · rw [(ns a ha).2] at z; cases z
        · rw [q'] at z; cases z
/-! ### the slots -/
inductive Md where
  | un | ow (m : Ow) | fn | st
inductive Slots (c : Ct) (G H : Hp) : List Md → L2.St → List Val → List (List Addr) → Prop
  | nil : Slots c G H [] [] [] []
  | un {Γ : List Md} {σ : L2.St} {env : List Val} {ass : List (List Addr)} (x : Option V) (e : Val) : Slots c G H Γ σ env ass → Slots c G H (.un :: Γ) (x :: σ) (e :: env) ([] :: ass)
  | ow {Γ : List Md} {σ : L2.St} {env : List Val} {ass : List (List Addr)} {m : Ow} {d : D} {v : V} {as : List Addr} : RepO c.cA G H m d v as → Slots c G H Γ σ env ass → Slots c G H (.ow m :: Γ) (some v :: σ) (.d d :: env) (as :: ass)
  | fn {Γ : List Md} {σ : L2.St} {env : List Val} {ass : List (List Addr)} {F : List D → M D} {v : V} : c.fnv v F → Slots c G H Γ σ env ass → Slots c G H (.fn :: Γ) (some v :: σ) (.f F :: env) ([] :: ass)
  | st {Γ : List Md} {σ : L2.St} {env : List Val} {ass : List (List Addr)} {a b : Addr} : c.S = some (a, b) → Slots c G H Γ σ env ass → Slots c G H (.st :: Γ) (some (.ref a) :: σ) (.st :: env) ([] :: ass)
/-- the own nodes of the slots: apart, not frozen, new since the entry (in slot 0: or lent) -/
structure OwnOk (c : Ct) (G : Hp) (ass : List (List Addr)) : Prop where
  nd : ass.flatten.Nodup
  fr : ∀ a ∈ ass.flatten, G a = none ∧ a ∉ stN c.S
  en : ∀ (i : Nat) as, ass[i]? = some as → ∀ a ∈ as, c.H0 a = none ∨ (i = 0 ∧ a ∈ c.lent)
structure Good (c : Ct) (Γ : List Md) (G H : Hp) (σ : L2.St) (env : List Val) (ds : DS) : Prop where
  sub : Same G H
  st : StOk c.S G H ds
  base : ExtA c.lent c.S c.G0 c.H0 G H
  slots : ∃ ass, Slots c G H Γ σ env ass ∧ OwnOk c G ass
section
variable {c : Ct} {Γ : List Md} {G H G' H' : Hp} {σ : L2.St} {env : List Val} {ds ds' : DS} {ass : List (List Addr)}
theorem Slots.agree (e : Same G G') (h : ∀ a ∈ ass.flatten, H' a = H a) (s : Slots c G H Γ σ env ass) : Slots c G' H' Γ σ env ass := by
  induction s with
  | nil => exact .nil
  | un x v s ih => exact .un x v (ih fun a ha => h a (by simpa using ha))
  | ow r s ih => exact .ow (r.agree e fun a ha => h a (by simp [ha])) (ih fun a ha => h a (by simp only [List.flatten_cons, List.mem_append]; exact .inr ha))
  | fn f s ih => exact .fn f (ih fun a ha => h a (by simpa using ha))
  | st f s ih => exact .st f (ih fun a ha => h a (by simpa using ha))
theorem Slots.there (s : Slots c G H Γ σ env ass) : ∀ a ∈ ass.flatten, ∃ o, H a = some o := by
  induction s with
  | nil => intro a ha; simp at ha
  | un x v s ih => intro a ha; exact ih a (by simpa using ha)
  | ow r s ih =>
    intro a ha
    simp only [List.flatten_cons, List.mem_append] at ha
    rcases ha with z | z
    · exact r.there a z
    · exact ih a z
  | fn f s ih => intro a ha; exact ih a (by simpa using ha)
  | st f s ih => intro a ha; exact ih a (by simpa using ha)
theorem Slots.len (s : Slots c G H Γ σ env ass) : σ.length = Γ.length ∧ env.length = Γ.length ∧ ass.length = Γ.length := by
  induction s with
  | nil => exact ⟨rfl, rfl, rfl⟩
  | un x v s ih => simp [ih.1, ih.2.1, ih.2.2]
  | ow r s ih => simp [ih.1, ih.2.1, ih.2.2]
  | fn f s ih => simp [ih.1, ih.2.1, ih.2.2]
  | st f s ih => simp [ih.1, ih.2.1, ih.2.2]
theorem Slots.get {i : Nat} {m : Ow} (s : Slots c G H Γ σ env ass) (hi : Γ[i]? = some (.ow m)) : ∃ v d as, σ[i]? = some (some v) ∧ env[i]? = some (.d d) ∧ ass[i]? = some as ∧ RepO c.cA G H m d v as := by
  induction s generalizing i with
  | nil => simp at hi
  | un x v s ih =>
    cases i with
    | zero => simp at hi
    | succ i => simpa using ih (i := i) (by simpa using hi)
  | @ow _ _ _ _ m' d v as r s ih =>
    cases i with
    | zero =>
      simp at hi
      subst hi
      exact ⟨v, d, as, rfl, rfl, rfl, r⟩
    | succ i => simpa using ih (i := i) (by simpa using hi)
  | fn f s ih =>
    cases i with
    | zero => simp at hi
    | succ i => simpa using ih (i := i) (by simpa using hi)
  | st f s ih =>
    cases i with
    | zero => simp at hi
    | succ i => simpa using ih (i := i) (by simpa using hi)
theorem Slots.getS {i : Nat} (s : Slots c G H Γ σ env ass) (hi : Γ[i]? = some .st) : ∃ a b, c.S = some (a, b) ∧ σ[i]? = some (some (.ref a)) ∧ env[i]? = some .st := by
  induction s generalizing i with
  | nil => simp at hi
  | un x v s ih =>
    cases i with
    | zero => simp at hi
    | succ i => simpa using ih (i := i) (by simpa using hi)
  | ow r s ih =>
    cases i with
    | zero => simp at hi
    | succ i => simpa using ih (i := i) (by simpa using hi)
  | fn f s ih =>
    cases i with
    | zero => simp at hi
    | succ i => simpa using ih (i := i) (by simpa using hi)
  | @st _ _ _ _ a b f s ih =>
    cases i with
    | zero => exact ⟨a, b, f, rfl, rfl⟩
    | succ i => simpa using ih (i := i) (by simpa using hi)
theorem Slots.getF {i : Nat} (s : Slots c G H Γ σ env ass) (hi : Γ[i]? = some .fn) : ∃ v F, σ[i]? = some (some v) ∧ env[i]? = some (.f F) ∧ c.fnv v F := by
  induction s generalizing i with
  | nil => simp at hi
  | un x v s ih =>
    cases i with
    | zero => simp at hi
    | succ i => simpa using ih (i := i) (by simpa using hi)
  | ow r s ih =>
    cases i with
    | zero => simp at hi
    | succ i => simpa using ih (i := i) (by simpa using hi)
  | @fn _ _ _ _ F v f s ih =>
    cases i with
    | zero => exact ⟨v, F, rfl, rfl, f⟩
    | succ i => simpa using ih (i := i) (by simpa using hi)
  | st f s ih =>
    cases i with
    | zero => simp at hi
    | succ i => simpa using ih (i := i) (by simpa using hi)
theorem Slots.set {i : Nat} {m : Ow} {d : D} {v : V} {as : List Addr} (s : Slots c G H Γ σ env ass) (hi : i < Γ.length) (r : RepO c.cA G H m d v as) : Slots c G H (Γ.set i (.ow m)) (σ.set i (some v)) (env.set i (.d d)) (ass.set i as) := by
  induction s generalizing i with
  | nil => simp at hi
  | un x e s ih =>
    cases i with
    | zero => exact .ow r s
    | succ i => exact .un x e (ih (by simpa using hi))
  | ow r' s ih =>
    cases i with
    | zero => exact .ow r s
    | succ i => exact .ow r' (ih (by simpa using hi))
  | fn f s ih =>
    cases i with
    | zero => exact .ow r s
    | succ i => exact .fn f (ih (by simpa using hi))
  | st f s ih =>
    cases i with
    | zero => exact .ow r s
    | succ i => exact .st f (ih (by simpa using hi))
theorem Slots.kill {i : Nat} (s : Slots c G H Γ σ env ass) (x : Option V) (e : Val) : Slots c G H (Γ.set i .un) (σ.set i x) (env.set i e) (ass.set i []) := by
  induction s generalizing i with
  | nil => exact .nil
  | un x' e' s ih =>
    cases i with
    | zero => exact .un x e s
    | succ i => exact .un x' e' ih
  | ow r' s ih =>
    cases i with
    | zero => exact .un x e s
    | succ i => exact .ow r' ih
  | fn f s ih =>
    cases i with
    | zero => exact .un x e s
    | succ i => exact .fn f ih
  | st f s ih =>
    cases i with
    | zero => exact .un x e s
    | succ i => exact .st f ih
theorem mem_flatten_set {α : Type} {as : List α} : ∀ {ass : List (List α)} {i : Nat} {a : α}, a ∈ (ass.set i as).flatten → a ∈ as ∨ a ∈ ass.flatten
  | [], i, a, h => by simp at h
  | bs :: ass, 0, a, h => by
    simp only [List.set_cons_zero, List.flatten_cons, List.mem_append] at h ⊢
    rcases h with h | h
    · exact .inl h
    · exact .inr (.inr h)
  | bs :: ass, i + 1, a, h => by
    simp only [List.set_cons_succ, List.flatten_cons, List.mem_append] at h ⊢
    rcases h with h | h
    · exact .inr (.inl h)
    · rcases mem_flatten_set h with z | z
      · exact .inl z
      · exact .inr (.inr z)
theorem nodup_flatten_set {α : Type} {as : List α} : ∀ {ass : List (List α)} {i : Nat}, ass.flatten.Nodup → as.Nodup → (∀ (j : Nat) bs, j ≠ i → ass[j]? = some bs → ∀ a ∈ as, a ∉ bs) → (ass.set i as).flatten.Nodup
  | [], i, h, h2, d => h
  | bs :: ass, 0, h, h2, d => by
    simp only [List.set_cons_zero, List.flatten_cons] at h ⊢
    refine List.nodup_append.mpr ⟨h2, (List.nodup_append.mp h).2.1, fun a ha b hb e => ?_⟩
    subst e
    obtain ⟨l, hl, hal⟩ := List.mem_flatten.mp hb
    obtain ⟨j, hj, ej⟩ := List.mem_iff_getElem.mp hl
    exact d (j + 1) l (by omega) (by simp [hj, ej]) a ha hal
  | bs :: ass, i + 1, h, h2, d => by
    simp only [List.set_cons_succ, List.flatten_cons] at h ⊢
    obtain ⟨n1, n2, n3⟩ := List.nodup_append.mp h
    refine List.nodup_append.mpr ⟨n1, nodup_flatten_set n2 h2 (fun j cs hj e => d (j + 1) cs (by omega) (by simpa using e)), fun a ha b hb e => ?_⟩
    subst e
    rcases mem_flatten_set hb with z | z
    · exact d 0 bs (by omega) rfl a z ha
    · exact n3 a ha a z rfl
theorem nodup_flatten_apart {α : Type} : ∀ {ass : List (List α)} {i j : Nat} {as bs : List α}, ass.flatten.Nodup → i ≠ j → ass[i]? = some as → ass[j]? = some bs → ∀ {a : α}, a ∈ as → a ∈ bs → False
  | [], i, j, as, bs, n, ne, h1, h2, a, ha, hb => by simp at h1
  | cs :: ass, 0, 0, as, bs, n, ne, h1, h2, a, ha, hb => ne rfl
  | cs :: ass, 0, j + 1, as, bs, n, ne, h1, h2, a, ha, hb => by
    simp only [List.flatten_cons] at n
    simp at h1 h2
    subst h1
    exact (List.nodup_append.mp n).2.2 a ha a (List.mem_flatten.mpr ⟨bs, List.mem_of_getElem? h2, hb⟩) rfl
  | cs :: ass, i + 1, 0, as, bs, n, ne, h1, h2, a, ha, hb => by
    simp only [List.flatten_cons] at n
    simp at h1 h2
    subst h2
    exact (List.nodup_append.mp n).2.2 a hb a (List.mem_flatten.mpr ⟨as, List.mem_of_getElem? h1, ha⟩) rfl
  | cs :: ass, i + 1, j + 1, as, bs, n, ne, h1, h2, a, ha, hb => by
    simp only [List.flatten_cons] at n
    exact nodup_flatten_apart (i := i) (j := j) (as := as) (bs := bs) (List.nodup_append.mp n).2.1 (by omega) (by simpa using h1) (by simpa using h2) ha hb
theorem mem_flatten_of {α : Type} {ass : List (List α)} {i : Nat} {as : List α} (h : ass[i]? = some as) {a : α} (ha : a ∈ as) : a ∈ ass.flatten :=
  List.mem_flatten.mpr ⟨as, List.mem_of_getElem? h, ha⟩
theorem slots_ext (sub : Same G H) (e : Ext c.S G H G' H') (s : Slots c G H Γ σ env ass) (o : OwnOk c G ass) : Slots c G' H' Γ σ env ass ∧ OwnOk c G' ass := by
  have key : ∀ a ∈ ass.flatten, H' a = H a ∧ G' a = none := fun a ha => by
    obtain ⟨x, q⟩ := s.there a ha
    obtain ⟨f1, f2⟩ := o.fr a ha
    refine ⟨by rw [q, e.h a x f2 (by simp) q], ?_⟩
    cases z : G' a with
    | none => rfl
    | some y =>
      rcases e.new a y z with z | z
      · rw [f1] at z; cases z
      · rw [q] at z; cases z
  exact ⟨s.agree e.g fun a ha => (key a ha).1, o.nd, fun a ha => ⟨(key a ha).2, (o.fr a ha).2⟩, o.en⟩
theorem Good.ext (g : Good c Γ G H σ env ds) (e : Ext c.S G H G' H') (st : StOk c.S G' H' ds') : Good c Γ G' H' σ env ds' := by
  obtain ⟨ass, s, o⟩ := g.slots
  obtain ⟨s', o'⟩ := slots_ext g.sub e s o
  exact ⟨e.sub, st, g.base.trans e.more, ass, s', o'⟩
theorem OwnOk.set {i : Nat} {as : List Addr} (o : OwnOk c G ass) (nd : as.Nodup) (dj : ∀ (j : Nat) bs, j ≠ i → ass[j]? = some bs → ∀ a ∈ as, a ∉ bs) (fr : ∀ a ∈ as, G a = none ∧ a ∉ stN c.S) (en : ∀ a ∈ as, c.H0 a = none ∨ (i = 0 ∧ a ∈ c.lent)) : OwnOk c G (ass.set i as) := by
  refine ⟨nodup_flatten_set o.nd nd dj, fun a ha => ?_, fun j bs hj a ha => ?_⟩
  · rcases mem_flatten_set ha with z | z
    · exact fr a z
    · exact o.fr a z
  · by_cases h : i = j
    · subst h
      by_cases hl : i < ass.length
      · rw [List.getElem?_set_self hl] at hj
        cases hj
        exact en a ha
      · rw [List.getElem?_eq_none (by rw [List.length_set]; omega)] at hj
        cases hj
    · rw [List.getElem?_set_ne h] at hj
      exact o.en j bs hj a ha
/-- a new value comes into slot i -/
theorem Good.put {i : Nat} {m : Ow} {d : D} {v : V} {as : List Addr} (g : Good c Γ G H σ env ds) (e : Ext c.S G H G' H') (st : StOk c.S G' H' ds') (hi : i < Γ.length) (r : ResA c H G' H' m d v as) :
    Good c (Γ.set i (.ow m)) G' H' (σ.set i (some v)) (env.set i (.d d)) ds' := by
  obtain ⟨ass, s, o⟩ := g.slots
  obtain ⟨s', o'⟩ := slots_ext g.sub e s o
  obtain ⟨r1, r2, r3⟩ := r
  refine ⟨e.sub, st, g.base.trans e.more, _, s'.set hi r1, o'.set r2 (fun j bs hj hb a ha hab => ?_) (fun a ha => ⟨(r3 a ha).2, fun hs => ?_⟩) (fun a ha => .inl (g.base.free (r3 a ha).1))⟩
  · obtain ⟨x, q⟩ := s.there a (mem_flatten_of hb hab)
    rw [(r3 a ha).1] at q
    cases q
  · obtain ⟨x, q⟩ := g.st.there hs
    rw [(r3 a ha).1] at q
    cases q
theorem Good.get {i : Nat} {m : Ow} (g : Good c Γ G H σ env ds) (hi : Γ[i]? = some (.ow m)) : ∃ v d, σ[i]? = some (some v) ∧ env[i]? = some (.d d) ∧ ∃ as, RepO c.cA G H m d v as ∧ ∀ a ∈ as, a ∉ stN c.S ∧ G a = none := by
  obtain ⟨ass, s, o⟩ := g.slots
  obtain ⟨v, d, as, h1, h2, h3, h4⟩ := s.get hi
  exact ⟨v, d, h1, h2, as, h4, fun a ha => ⟨(o.fr a (mem_flatten_of h3 ha)).2, (o.fr a (mem_flatten_of h3 ha)).1⟩⟩
theorem Good.getF {i : Nat} (g : Good c Γ G H σ env ds) (hi : Γ[i]? = some .fn) : ∃ v F, σ[i]? = some (some v) ∧ env[i]? = some (.f F) ∧ c.fnv v F := by
  obtain ⟨ass, s, o⟩ := g.slots
  exact s.getF hi
theorem Good.getS {i : Nat} (g : Good c Γ G H σ env ds) (hi : Γ[i]? = some .st) : ∃ a b, c.S = some (a, b) ∧ σ[i]? = some (some (.ref a)) ∧ env[i]? = some .st := by
  obtain ⟨ass, s, o⟩ := g.slots
  exact s.getS hi
/-- a slot is forgotten -/
theorem Good.kill (g : Good c Γ G H σ env ds) (i : Nat) (x : Option V) (e : Val) : Good c (Γ.set i .un) G H (σ.set i x) (env.set i e) ds := by
  obtain ⟨ass, s, o⟩ := g.slots
  exact ⟨g.sub, g.st, g.base, _, s.kill x e, o.set List.nodup_nil (fun _ _ _ _ a ha => by simp at ha) (fun a ha => by simp at ha) (fun a ha => by simp at ha)⟩
/-- an own slot is frozen -/
theorem Good.freeze {i : Nat} {m : Ow} (g : Good c Γ G H σ env ds) (hi : Γ[i]? = some (.ow m)) (h0 : i ≠ 0 ∨ c.lent = []) : ∃ G', Good c (Γ.set i (.ow .fz)) G' H σ env ds ∧ Same G G' := by
  obtain ⟨ass, s, o⟩ := g.slots
  obtain ⟨v, d, as, h1, h2, h3, h4⟩ := s.get hi
  have sm : Same G (frz G H as) := frz_same g.sub
  have r : Rep c.cA (frz G H as) d v := h4.into sm fun a ha o q => by rw [frz_in ha, q]
  have hl : i < Γ.length := (List.getElem?_eq_some_iff.mp hi).1
  have s2 := (s.agree (G' := frz G H as) (H' := H) sm fun _ _ => rfl).set (m := .fz) (d := d) (v := v) (as := []) hl (by simp only [RepO]; exact ⟨trivial, r⟩)
  have e1 : σ.set i (some v) = σ := by
    apply List.ext_getElem?
    intro j
    by_cases hj : i = j
    · subst hj
      rw [List.getElem?_set_self (List.getElem?_eq_some_iff.mp h1).1, h1]
    · rw [List.getElem?_set_ne hj]
  have e2 : env.set i (.d d) = env := by
    apply List.ext_getElem?
    intro j
    by_cases hj : i = j
    · subst hj
      rw [List.getElem?_set_self (List.getElem?_eq_some_iff.mp h2).1, h2]
    · rw [List.getElem?_set_ne hj]
  rw [e1, e2] at s2
  have en0 : ∀ a ∈ as, c.H0 a = none := fun a ha => by
    rcases o.en i as h3 a ha with z | ⟨z, z2⟩
    · exact z
    · rcases h0 with h0 | h0
      · exact absurd z h0
      · rw [h0] at z2; simp at z2
  have ns : ∀ a ∈ as, a ∉ stN c.S := fun a ha => (o.fr a (mem_flatten_of h3 ha)).2
  refine ⟨_, ⟨frz_sub g.sub, g.st.at (fun a ha => frz_out fun z => ns a z ha) (fun _ _ => rfl), ⟨g.base.g.trans sm, g.base.h, g.base.s, fun a x q => ?_, frz_sub g.sub⟩, _, s2, ?_⟩, sm⟩
  · by_cases ha : a ∈ as
    · exact .inr (en0 a ha)
    · rw [frz_out ha] at q
      exact g.base.new a x q
  · refine ⟨nodup_flatten_set o.nd List.nodup_nil (fun _ _ _ _ a ha => by simp at ha), fun a ha => ?_, fun j bs hj a ha => ?_⟩
    · have hna : a ∉ as := fun z => ?_
      · rcases mem_flatten_set ha with y | y
        · simp at y
        · rw [frz_out hna]
          exact o.fr a y
      · -- the nodes of slot i are gone from the list
        obtain ⟨l, hl1, hl2⟩ := List.mem_flatten.mp ha
        obtain ⟨j, hj, ej⟩ := List.mem_iff_getElem.mp hl1
        have hj' : j < ass.length := by simpa using hj
        by_cases hij : i = j
        · subst hij
          rw [List.getElem_set_self] at ej
          rw [← ej] at hl2
          simp at hl2
        · rw [List.getElem_set_ne hij] at ej
          have hi' : i < ass.length := (List.getElem?_eq_some_iff.mp h3).1
          have ei : ass[i] = as := (List.getElem?_eq_some_iff.mp h3).2
          exact nodup_flatten_apart o.nd hij (List.getElem?_eq_some_iff.mpr ⟨hi', ei⟩) (List.getElem?_eq_some_iff.mpr ⟨hj', ej⟩) z hl2
    · by_cases hij : i = j
      · subst hij
        by_cases hl' : i < ass.length
        · rw [List.getElem?_set_self hl'] at hj
          cases hj
          simp at ha
        · rw [List.getElem?_eq_none (by rw [List.length_set]; omega)] at hj
          cases hj
      · rw [List.getElem?_set_ne hij] at hj
        exact o.en j bs hj a ha
end
/-! ### expressions -/
/-- what is wanted of an exception -/
def Wish (c : Ct) (cn : Str) (ns : List Str) (vs : List D) (G' H' : Hp) : Prop :=
  (ns = [] → c.E (.ref (c.cA cn)) none H') ∧ ∀ dd fs, H' dd = some (.xd fs) → fs.map (fun p => p.1) = ns → RepL c.cA G' vs (fs.map (fun p => p.2)) → ns ≠ [] → c.E (.ref (c.cA cn)) (some dd) H'
def ExcQ (c : Ct) (G H : Hp) : Str → List Str → List D → DS → Prop := fun cn ns vs ds' => ∀ G' H', Ext c.S G H G' H' → StOk c.S G' H' ds' → Wish c cn ns vs G' H'
theorem ExcQ.ext {c : Ct} {G H G' H' : Hp} {cn : Str} {ns : List Str} {vs : List D} {ds : DS} (h : ExcQ c G H cn ns vs ds) (e : Ext c.S G H G' H') : ExcQ c G' H' cn ns vs ds := fun G2 H2 e2 s2 => h G2 H2 (e.trans e2) s2
def OkQ (c : Ct) (G H : Hp) (p : Pv) (Q : VK) : D → DS → Prop := fun d ds' => ∀ v G' H', Ext c.S G H G' H' → StOk c.S G' H' ds' → Res' c p H G' H' d v → Q v H'
/-- the reading of an expression by its mirror -/
def tGE (c : Ct) (Γ : List Md) (m : ME) (p : Pv) : TE := fun σ H Q => ∃ G env ds, Good c Γ G H σ env ds ∧ Run (m env ds) (OkQ c G H p Q) (ExcQ c G H)
def GE (X : Cx) (c : Ct) (Γ : List Md) (e : Expr) (m : ME) (p : Pv) : Prop := PE X e (tGE c Γ m p)
theorem pe_imp {X : Cx} {e : Expr} {t t' : TE} (h : PE X e t) (k : ∀ σ H Q, t' σ H Q → t σ H Q) : PE X e t' := ⟨fun pins s σ H Q I hw => h.run pins s σ H Q I (k σ H Q hw)⟩
theorem pt_imp {X : Cx} {e : Expr} {t t' : TT} (h : PT X e t) (k : ∀ σ H Q, t' σ H Q → t σ H Q) : PT X e t' := ⟨fun pins s σ H Q I hw => h.run pins s σ H Q I (k σ H Q hw)⟩
theorem pa_imp {X : Cx} {e : List Expr} {t t' : TA} (h : PA X e t) (k : ∀ σ H Q, t' σ H Q → t σ H Q) : PA X e t' := ⟨fun pos pins s σ H Q I hw => h.run pos pins s σ H Q I (k σ H Q hw)⟩
theorem ps_imp {X : Cx} {e : Stmt} {t t' : TS} (h : PS X e t) (k : ∀ D σ H, t' D σ H → t D σ H) : PS X e t' := ⟨fun pins s σ H D I hw => h.run pins s σ H D I (k D σ H hw)⟩
theorem pss_imp {X : Cx} {e : List Stmt} {t t' : TS} (h : PSs X e t) (k : ∀ D σ H, t' D σ H → t D σ H) : PSs X e t' := ⟨fun pins s σ H D I hw => h.run pins s σ H D I (k D σ H hw)⟩
end Mir
end

set_option maxHeartbeats 200000
section
/-! Rules: names, constants, operators. -/
namespace Mir
open PySem L2
section
variable {X : Cx} {c : Ct} {Γ : List Md} {G H G' H' : Hp} {σ : L2.St} {env : List Val} {ds ds' : DS} {Q : VK} {p pa pb : Pv} {ma mb : ME}
/-! ### ends -/
theorem ok_at {d : D} {v : V} (h : OkQ c G H fz Q d ds') (e : Ext c.S G H G' H') (st : StOk c.S G' H' ds') (r : Rep c.cA G' d v) : Q v H' := h v G' H' e st (.of_fz r)
theorem ok_int {i : Int} (h : OkQ c G H fz Q (.int i) ds') (e : Ext c.S G H G' H') (st : StOk c.S G' H' ds') : Q (.int i) H' := ok_at h e st (by simp only [Rep])
theorem ok_bl {i : Bool} (h : OkQ c G H fz Q (.bl i) ds') (e : Ext c.S G H G' H') (st : StOk c.S G' H' ds') : Q (.bl i) H' := ok_at h e st (by simp only [Rep])
theorem ok_str {i : Str} (h : OkQ c G H fz Q (.str i) ds') (e : Ext c.S G H G' H') (st : StOk c.S G' H' ds') : Q (.str i) H' := ok_at h e st (by simp only [Rep])
theorem ok_non (h : OkQ c G H fz Q .non ds') (e : Ext c.S G H G' H') (st : StOk c.S G' H' ds') : Q .non H' := ok_at h e st (by simp only [Rep])
theorem free_of (sub : Same G H) {a : Addr} (ha : H a = none) : G a = none := by
  cases q : G a with
  | none => rfl
  | some o => rw [sub _ _ q] at ha; cases ha
theorem allO_fz : ∀ {xs : List D} {vs : List V}, RepL c.cA G xs vs → AllO (RepO c.cA G H .fz) xs vs []
  | [], vs, r => by simp only [RepL] at r; exact ⟨r, rfl⟩
  | d :: xs, vs, r => by
    simp only [RepL] at r
    obtain ⟨v, w, rfl, r1, r2⟩ := r
    exact ⟨v, w, [], [], rfl, rfl, by simp only [RepO]; exact ⟨trivial, r1⟩, allO_fz r2⟩
theorem allO_fz' : ∀ {xs : List D} {vs : List V} {as : List Addr}, AllO (RepO c.cA G H .fz) xs vs as → as = [] ∧ RepL c.cA G xs vs
  | [], vs, as, r => by obtain ⟨rfl, rfl⟩ := r; exact ⟨rfl, RepL.nil⟩
  | d :: xs, vs, as, r => by
    obtain ⟨v, w, a1, a2, rfl, rfl, r1, r2⟩ := r
    simp only [RepO] at r1
    obtain ⟨e2, r2⟩ := allO_fz' r2
    exact ⟨by rw [r1.1, e2] <;> rfl, .cons r1.2 r2⟩
/-- a new list of frozen parts, one's own -/
theorem ok_lst {xs : List D} {vs : List V} (h : OkQ c G H (.ow (.lst .fz)) Q (.lst xs) ds') (e : Ext c.S G H G' H') (st : StOk c.S G' H' ds') (r : RepL c.cA G' xs vs) {a : Addr} (ha : H' a = none) : Q (.ref a) (upd H' a (.lst vs)) := by
  refine h _ G' _ (e.trans (Ext.laid e.sub ha _)) (st.laid ha _) ⟨[a], ?_, by simp, fun b hb => ?_⟩
  · simp only [RepO]
    exact ⟨a, xs, vs, [], rfl, rfl, rfl, upd_same, allO_fz (H := H') r⟩
  · simp only [List.mem_singleton] at hb
    subst hb
    exact ⟨e.free ha, free_of e.sub ha⟩
/-- an own value frozen as it comes -/
theorem OkQ.freeze {m : Ow} {d : D} (st0 : ∀ a ∈ stN c.S, ∃ o, H a = some o) (h : OkQ c G H fz Q d ds') : OkQ c G H (.ow m) Q d ds' := by
  intro v G1 H1 e st r
  obtain ⟨as, r1, r2, r3⟩ := r
  have sm : Same G1 (frz G1 H1 as) := frz_same e.sub
  have hs : ∀ a ∈ stN c.S, a ∉ as := fun a ha z => by
    obtain ⟨o, q⟩ := st0 a ha
    rw [(r3 a z).1] at q
    cases q
  refine h v (frz G1 H1 as) H1 ⟨e.g.trans sm, e.h, e.s, fun a o q => ?_, frz_sub e.sub⟩ (st.at (fun a ha => frz_out (hs a ha)) fun _ _ => rfl) (.of_fz (r1.into sm fun a ha o q => by rw [frz_in ha, q]))
  by_cases ha : a ∈ as
  · exact .inr (r3 a ha).1
  · rw [frz_out ha] at q
    exact e.new a o q
theorem OkQ.freezeVw {d : D} (h : OkQ c G H fz Q d ds') : OkQ c G H (.vw .fz) Q d ds' := by
  intro v G1 H1 e st r
  obtain ⟨as, r1, r2⟩ := r
  simp only [RepO] at r1
  exact h v G1 H1 e st (.of_fz r1.2)
theorem ge_fz {e : Expr} {m : ME} {o : Ow} (h : GE X c Γ e m (.ow o)) : GE X c Γ e m fz :=
  pe_imp h fun σ H Q ⟨G, env, ds, g, r⟩ => ⟨G, env, ds, g, r.mono (fun d ds' q => q.freeze fun a ha => g.st.there ha) fun _ _ _ _ q => q⟩
theorem ge_vwfz {e : Expr} {m : ME} (h : GE X c Γ e m (.vw .fz)) : GE X c Γ e m fz :=
  pe_imp h fun σ H Q ⟨G, env, ds, g, r⟩ => ⟨G, env, ds, g, r.mono (fun d ds' q => q.freezeVw) fun _ _ _ _ q => q⟩
/-! ### sequencing -/
theorem read1 {k : D → M D} {r : V → Hp → Prop} (g : Good c Γ G H σ env ds) (h : Run ((ma env >>= k) ds) (OkQ c G H p Q) (ExcQ c G H))
    (hk : ∀ dx ds1 x G1 H1, Ext c.S G H G1 H1 → StOk c.S G1 H1 ds1 → Good c Γ G1 H1 σ env ds1 → Res' c pa H G1 H1 dx x → Run (k dx ds1) (OkQ c G H p Q) (ExcQ c G H) → r x H1) :
    tGE c Γ ma pa σ H r :=
  ⟨G, env, ds, g, h.bind.mono (fun dx ds1 h1 x G1 H1 e1 s1 r1 => hk dx ds1 x G1 H1 e1 s1 (g.ext e1 s1) r1 h1) fun _ _ _ _ q => q⟩
theorem read2 {k : D → D → M D} {r : V → V → Hp → Prop} (g : Good c Γ G H σ env ds) (h : Run ((ma env >>= fun x => mb env >>= fun y => k x y) ds) (OkQ c G H p Q) (ExcQ c G H))
    (hk : ∀ dx dy ds2 x y G1 H1 G2 H2, Ext c.S G H G1 H1 → Ext c.S G1 H1 G2 H2 → Ext c.S G H G2 H2 → StOk c.S G2 H2 ds2 → Good c Γ G2 H2 σ env ds2 → Res' c pa H G2 H2 dx x → Res' c pb H1 G2 H2 dy y → Run (k dx dy ds2) (OkQ c G H p Q) (ExcQ c G H) → r x y H2) :
    tGE c Γ ma pa σ H fun x H1 => tGE c Γ mb pb σ H1 fun y H2 => r x y H2 :=
  read1 g h fun dx ds1 x G1 H1 e1 s1 g1 r1 h1 => ⟨G1, env, ds1, g1, h1.bind.mono
    (fun dy ds2 h2 y G2 H2 e2 s2 r2 => hk dx dy ds2 x y G1 H1 G2 H2 e1 e2 (e1.trans e2) s2 (g1.ext e2 s2) (r1.ext s1 (fun a ha => g.st.there ha) e2) r2 h2) fun _ _ _ _ q => q.ext e1⟩
end
/-! ### names, constants -/
namespace E
def var (i : Nat) : ME := fun env => match env[i]? with
  | some (.d d) => pure d
  | _ => M.stuck
def cst (d : D) : ME := fun _ => pure d
def bin (op : D → D → Option D) (a b : ME) : ME := fun env => a env >>= fun x => b env >>= fun y => M.lift (op x y)
def un (op : D → Option D) (a : ME) : ME := fun env => a env >>= fun x => M.lift (op x)
end E
section
variable {X : Cx} {c : Ct} {Γ : List Md} {p pa pb : Pv} {ma mb : ME} {a b : Expr} {pos : Pos}
theorem ge_varV {i : Nat} {x : Str} {m : Ow} (hi : Γ[i]? = some (.ow m)) (hN : X.N[i]? = some x) (hv : Vis X.env.scope x) (hd : (x == ("__debug__" : Str)) = false := by decide) (hcd : (x == ("__classdict__" : Str)) = false := by decide) :
    GE X c Γ (.Name x pos) (E.var i) (.vw m) := by
  refine pe_imp (pe_var hN hv hd hcd) fun σ H Q ⟨G, env, ds, g, r⟩ => ?_
  obtain ⟨v, d, h1, h2, h3⟩ := g.get hi
  unfold E.var at r
  simp only [h2] at r
  exact ⟨v, h1, r v G H (.refl g.sub) g.st h3⟩
theorem ge_var {i : Nat} {x : Str} (hi : Γ[i]? = some (.ow .fz)) (hN : X.N[i]? = some x) (hv : Vis X.env.scope x) (hd : (x == ("__debug__" : Str)) = false := by decide) (hcd : (x == ("__classdict__" : Str)) = false := by decide) :
    GE X c Γ (.Name x pos) (E.var i) fz := ge_vwfz (ge_varV hi hN hv hd hcd)
/-- an atom from an expression that does nothing else -/
theorem ge_atom {e : Expr} {d : D} {v : V} (h : PE X e (tC v)) (r : ∀ G, Rep c.cA G d v) : GE X c Γ e (E.cst d) fz :=
  pe_imp h fun σ H Q ⟨G, env, ds, g, q⟩ => ok_at (show OkQ c G H fz Q d ds from q) (.refl g.sub) g.st (r G)
theorem ge_int {i : Int} {j : Nat} : GE X c Γ (.Constant (.int i) j pos) (E.cst (.int i)) fz := ge_atom pe_int fun _ => by simp only [Rep]
theorem ge_bl {i : Bool} {j : Nat} : GE X c Γ (.Constant (.bool i) j pos) (E.cst (.bl i)) fz := ge_atom pe_bl fun _ => by simp only [Rep]
theorem ge_non {j : Nat} : GE X c Γ (.Constant .none j pos) (E.cst .non) fz := ge_atom pe_non fun _ => by simp only [Rep]
theorem ge_str {i : Str} {j : Nat} : GE X c Γ (.Constant (.str i) j pos) (E.cst (.str i)) fz := ge_atom pe_str fun _ => by simp only [Rep]
/-- a module's text -/
theorem ge_globS {x : Str} {z : Str} {t : Tok} (hg : Gl X x) (hm : X.mg x = some (.str z t)) (hd : (x == ("__debug__" : Str)) = false := by decide) : GE X c Γ (.Name x pos) (E.cst (.str z)) fz :=
  ge_atom (pe_glob hg hm (v := .str z) ⟨_, rfl⟩ hd) fun _ => by simp only [Rep]
/-! ### operators -/
/-- an operator by values does what op says -/
def OpS (X : Cx) (c : Ct) (f : Value → Value → Sem Value) (op : D → D → Option D) (pa pb p : Pv) : Prop :=
  ∃ r : R2, OpR X f r ∧ ∀ (G H G1 H1 G2 H2 : Hp) (dx dy d : D) (x y : V) (ds2 : DS) (Q : VK), (∀ a ∈ stN c.S, ∃ o, H a = some o) → Ext c.S G H G1 H1 → Ext c.S G1 H1 G2 H2 → Ext c.S G H G2 H2 → StOk c.S G2 H2 ds2 →
    Res' c pa H G2 H2 dx x → Res' c pb H1 G2 H2 dy y → op dx dy = some d → OkQ c G H p Q d ds2 → r x y H2 Q
theorem ge_bin {op : Operator} {f : D → D → Option D} (ho : OpS X c (binaryOp op) f pa pb p) (ha : GE X c Γ a ma pa) (hb : GE X c Γ b mb pb) : GE X c Γ (.BinOp a op b pos) (E.bin f ma mb) p := by
  obtain ⟨r, hr, hk⟩ := ho
  refine pe_imp (pe_op hr ha hb) fun σ H Q ⟨G, env, ds, g, h⟩ => ?_
  refine read2 (p := p) (Q := Q) g h fun dx dy ds2 x y G1 H1 G2 H2 e1 e2 e s2 g2 r1 r2 h2 => ?_
  obtain ⟨d, hd, q⟩ := Run.lift h2
  exact hk G H G1 H1 G2 H2 dx dy d x y ds2 Q (fun a ha => g.st.there ha) e1 e2 e s2 r1 r2 hd q
theorem ge_cmp {op : CmpOp} {f : D → D → Option D} (ho : OpS X c (compareOp op) f pa pb p) (ha : GE X c Γ a ma pa) (hb : GE X c Γ b mb pb) (hm : behindInMarks op b = false) : GE X c Γ (.Compare a [op] [b] pos) (E.bin f ma mb) p := by
  obtain ⟨r, hr, hk⟩ := ho
  refine pe_imp (pe_cmpR hr ha hb hm) fun σ H Q ⟨G, env, ds, g, h⟩ => ?_
  refine read2 (p := p) (Q := Q) g h fun dx dy ds2 x y G1 H1 G2 H2 e1 e2 e s2 g2 r1 r2 h2 => ?_
  obtain ⟨d, hd, q⟩ := Run.lift h2
  exact hk G H G1 H1 G2 H2 dx dy d x y ds2 Q (fun a ha => g.st.there ha) e1 e2 e s2 r1 r2 hd q
/-- two ints -/
theorem opS_int {f : Value → Value → Sem Value} {op : D → D → Option D} {C : Int → Int → Prop} {g : Int → Int → V} {gd : Int → Int → D} (hr : OpR X f (rI C g)) (hd : ∀ i j G, Rep c.cA G (gd i j) (g i j))
    (ho : ∀ dx dy d, op dx dy = some d → ∃ i j, dx = .int i ∧ dy = .int j ∧ C i j ∧ d = gd i j) : OpS X c f op pa pb fz :=
  ⟨_, hr, fun G H G1 H1 G2 H2 dx dy d x y ds2 Q st0 e1 e2 e s2 r1 r2 hop q => by
    obtain ⟨i, j, rfl, rfl, hc, rfl⟩ := ho dx dy d hop
    have a1 := r1.rep e.sub
    have a2 := r2.rep e.sub
    simp only [Rep] at a1 a2
    exact ⟨i, j, a1, a2, hc, ok_at q e s2 (hd i j G2)⟩⟩
theorem rI0_rI {f : Value → Value → Sem Value} {g : Int → Int → V} (h : OpR X f (rI0 g)) : OpR X f (rI (fun _ _ => True) g) := fun pins s σ H x y v u Q I rx ry ⟨i, j, a, b, _, q⟩ => h pins s σ H x y v u Q I rx ry ⟨i, j, a, b, q⟩
theorem os_sub : OpS X c (binaryOp .Sub) D.sub pa pb fz := opS_int (gd := fun i j => .int (i - j)) (rI0_rI op_sub) (fun _ _ _ => by simp only [Rep]) fun dx dy d h => by
  unfold D.sub at h
  split at h
  · exact ⟨_, _, rfl, rfl, trivial, (Option.some.inj h).symm⟩
  · cases h
theorem os_fdiv : OpS X c (binaryOp .FloorDiv) D.fdiv pa pb fz := opS_int (gd := fun i j => .int (i.fdiv j)) op_fdivN (fun _ _ _ => by simp only [Rep]) fun dx dy d h => by
  unfold D.fdiv at h
  split at h
  · split at h
    · rename_i hc
      exact ⟨_, _, rfl, rfl, hc, (Option.some.inj h).symm⟩
    · cases h
  · cases h
theorem os_mod : OpS X c (binaryOp .Mod) D.mod pa pb fz := opS_int (gd := fun i j => .int (i.fmod j)) op_modN (fun _ _ _ => by simp only [Rep]) fun dx dy d h => by
  unfold D.mod at h
  split at h
  · split at h
    · rename_i hc
      exact ⟨_, _, rfl, rfl, hc, (Option.some.inj h).symm⟩
    · cases h
  · cases h
theorem os_pow : OpS X c (binaryOp .Pow) D.pow pa pb fz := opS_int (gd := fun i j => .int (i ^ j.toNat)) op_pow (fun _ _ _ => by simp only [Rep]) fun dx dy d h => by
  unfold D.pow at h
  split at h
  · split at h
    · rename_i hc
      exact ⟨_, _, rfl, rfl, hc, (Option.some.inj h).symm⟩
    · cases h
  · cases h
theorem os_lt : OpS X c (compareOp .Lt) D.lt pa pb fz := opS_int (gd := fun i j => .bl (decide (i < j))) (rI0_rI op_lt) (fun _ _ _ => by simp only [Rep]) fun dx dy d h => by
  unfold D.lt at h
  split at h
  · exact ⟨_, _, rfl, rfl, trivial, (Option.some.inj h).symm⟩
  · cases h
theorem os_le : OpS X c (compareOp .LtE) D.le pa pb fz := opS_int (gd := fun i j => .bl (decide (i ≤ j))) (rI0_rI op_le) (fun _ _ _ => by simp only [Rep]) fun dx dy d h => by
  unfold D.le at h
  split at h
  · exact ⟨_, _, rfl, rfl, trivial, (Option.some.inj h).symm⟩
  · cases h
theorem os_gt : OpS X c (compareOp .Gt) D.gt pa pb fz := opS_int (gd := fun i j => .bl (decide (j < i))) (rI0_rI op_gt) (fun _ _ _ => by simp only [Rep]) fun dx dy d h => by
  unfold D.gt at h
  split at h
  · exact ⟨_, _, rfl, rfl, trivial, (Option.some.inj h).symm⟩
  · cases h
theorem os_ge : OpS X c (compareOp .GtE) D.ge pa pb fz := opS_int (gd := fun i j => .bl (decide (j ≤ i))) (rI0_rI op_ge) (fun _ _ _ => by simp only [Rep]) fun dx dy d h => by
  unfold D.ge at h
  split at h
  · exact ⟨_, _, rfl, rfl, trivial, (Option.some.inj h).symm⟩
  · cases h
/-- parts that are frozen -/
def Pv.flat : Pv → Bool
  | .ow .fz => true | .vw .fz => true
  | .ow (.lst .fz) => true | .vw (.lst .fz) => true
  | .ow (.dct .fz) => true | .vw (.dct .fz) => true
  | _ => false
theorem kids {H0 G H : Hp} {p : Pv} {xs : List D} {v : V} (sub : Same G H) (hp : p.flat = true) (r : Res' c p H0 G H (.lst xs) v) : ∃ a vs, v = .ref a ∧ H a = some (.lst vs) ∧ RepL c.cA G xs vs := by
  have key : ∀ (m : Ow) as, (m = .fz ∨ m = .lst .fz ∨ m = .dct .fz) → RepO c.cA G H m (.lst xs) v as → ∃ a vs, v = .ref a ∧ H a = some (.lst vs) ∧ RepL c.cA G xs vs := by
    intro m as hm r
    rcases hm with rfl | rfl | rfl
    · simp only [RepO, Rep] at r
      obtain ⟨_, a, vs, h1, h2, h3⟩ := r
      exact ⟨a, vs, h1, sub _ _ h2, h3⟩
    · simp only [RepO] at r
      obtain ⟨a, ds, vs, r, h1, h2, h3, h4, h5⟩ := r
      cases h1
      exact ⟨a, vs, h2, h4, (allO_fz' (H := H) h5).2⟩
    · simp only [RepO] at r
      obtain ⟨a, t, ks, ds, vs, r, h1, h2⟩ := r
      cases h1
  cases p with
  | ow m =>
    obtain ⟨as, r, _⟩ := r
    refine key m as ?_ r
    cases m with
    | fz => exact .inl rfl
    | lst m => cases m <;> first | exact .inr (.inl rfl) | cases hp
    | dct m => cases m <;> first | exact .inr (.inr rfl) | cases hp
    | tup ms => cases hp
    | obj ms => cases hp
    | mx => cases hp
  | vw m =>
    obtain ⟨as, r, _⟩ := r
    refine key m as ?_ r
    cases m with
    | fz => exact .inl rfl
    | lst m => cases m <;> first | exact .inr (.inl rfl) | cases hp
    | dct m => cases m <;> first | exact .inr (.inr rfl) | cases hp
    | tup ms => cases hp
    | obj ms => cases hp
    | mx => cases hp
theorem os_add (ha : pa.flat = true) (hb : pb.flat = true) : OpS X c (binaryOp .Add) D.add pa pb fz := by
  refine ⟨_, (op_add.or op_add_str).or op_cat, fun G H G1 H1 G2 H2 dx dy d x y ds2 Q st0 e1 e2 e s2 r1 r2 hop q => ?_⟩
  unfold D.add at hop
  split at hop
  · have a1 := r1.rep e.sub
    have a2 := r2.rep e.sub
    simp only [Rep] at a1 a2
    cases hop
    exact .inl (.inl ⟨_, _, a1, a2, ok_int q e s2⟩)
  · have a1 := r1.rep e.sub
    have a2 := r2.rep e.sub
    simp only [Rep] at a1 a2
    split at hop
    · rename_i hz
      cases hop
      exact .inl (.inr ⟨_, _, a1, a2, hz, ok_str q e s2⟩)
    · cases hop
  · split at hop
    · rename_i hz
      cases hop
      obtain ⟨a, vs, rfl, h1, k1⟩ := kids e.sub ha r1
      obtain ⟨b, ws, rfl, h2, k2⟩ := kids e.sub hb r2
      refine .inr ⟨a, b, vs, ws, rfl, rfl, h1, h2, by rw [k1.length, k2.length]; exact hz, fun p hp => ?_⟩
      exact ok_lst (q.freeze st0) e s2 (k1.append k2) hp
    · cases hop
  · cases hop
theorem RepL.replicate {G : Hp} {xs : List D} {vs : List V} (h : RepL c.cA G xs vs) : ∀ n : Nat, RepL c.cA G (List.replicate n xs).flatten (List.replicate n vs).flatten
  | 0 => by simpa using RepL.nil
  | n + 1 => by
    simp only [List.replicate_succ, List.flatten_cons]
    exact h.append (h.replicate n)
theorem os_mul (ha : pa.flat = true) : OpS X c (binaryOp .Mult) D.mul pa pb fz := by
  refine ⟨_, op_mul.or op_rep, fun G H G1 H1 G2 H2 dx dy d x y ds2 Q st0 e1 e2 e s2 r1 r2 hop q => ?_⟩
  have a2 := r2.rep e.sub
  unfold D.mul at hop
  split at hop
  · have a1 := r1.rep e.sub
    simp only [Rep] at a1 a2
    split at hop
    · rename_i hz
      cases hop
      unfold D.cmul at hz
      simp only [Bool.or_eq_true, decide_eq_true_eq] at hz
      exact .inl ⟨_, _, a1, a2, hz, ok_int q e s2⟩
    · cases hop
  · simp only [Rep] at a2
    split at hop
    · rename_i hz
      cases hop
      obtain ⟨a, vs, rfl, h1, k1⟩ := kids e.sub ha r1
      exact .inr ⟨a, _, vs, rfl, a2, h1, hz.1, hz.2.1, by rw [k1.length]; exact hz.2.2, fun p hp => ok_lst (q.freeze st0) e s2 (k1.replicate _) hp⟩
    · cases hop
  · cases hop
/-! ### equality -/
/-- a flat value as it stands -/
def D.v : D → V
  | .bl b => .bl b | .int i => .int i | .str s => .str s | _ => .non
theorem rep_flat {G : Hp} {d : D} {v : V} (f : d.flat = true) (r : Rep c.cA G d v) : v = d.v := by
  cases d <;> first | (simp only [Rep] at r; exact r) | cases f
mutual
theorem rep_py {K : PySem.W.Frag} {H : Hp} : ∀ {d : D} {v : V} {p : PyData}, Rep c.cA H d v → d.py = some p → Dp K H v p
  | .non, v, p, r, h => by
    simp only [Rep] at r
    simp only [D.py] at h
    cases h
    rw [r]
    exact .non
  | .bl b, v, p, r, h => by
    simp only [Rep] at r
    simp only [D.py] at h
    cases h
    rw [r]
    exact .bl b
  | .int i, v, p, r, h => by
    simp only [Rep] at r
    simp only [D.py] at h
    cases h
    rw [r]
    exact .int i
  | .str s, v, p, r, h => by
    simp only [Rep] at r
    simp only [D.py] at h
    cases h
    rw [r]
    exact .str s
  | .lst xs, v, p, r, h => by
    simp only [Rep] at r
    simp only [D.py] at h
    obtain ⟨a, vs, rfl, h1, h2⟩ := r
    obtain ⟨ps, e1, rfl⟩ := Option.map_eq_some_iff.mp h
    exact .lst (SqL.of h1) (rep_pyL h2 e1)
  | .tup xs, v, p, r, h => by
    simp only [Rep] at r
    simp only [D.py] at h
    obtain ⟨a, vs, rfl, h1, h2⟩ := r
    obtain ⟨ps, e1, rfl⟩ := Option.map_eq_some_iff.mp h
    exact .tup (SqT.of h1) (rep_pyL h2 e1)
  | .dct _ _ _, v, p, r, h => by simp only [D.py] at h; cases h
  | .obj _ _ _, v, p, r, h => by simp only [D.py] at h; cases h
  | .xc _ _ _, v, p, r, h => by simp only [D.py] at h; cases h
  | .raw _, v, p, r, h => by simp only [D.py] at h; cases h
theorem rep_pyL {K : PySem.W.Frag} {H : Hp} : ∀ {xs : List D} {vs : List V} {ps : List PyData}, RepL c.cA H xs vs → D.pyL xs = some ps → DpAll K H vs ps
  | [], vs, ps, r, h => by
    simp only [RepL] at r
    simp only [D.pyL] at h
    cases h
    rw [r]
    exact .nil
  | d :: xs, vs, ps, r, h => by
    simp only [RepL] at r
    simp only [D.pyL] at h
    obtain ⟨v, w, rfl, r1, r2⟩ := r
    obtain ⟨p, e1, h⟩ := Option.bind_eq_some_iff.mp h
    obtain ⟨q, e2, rfl⟩ := Option.map_eq_some_iff.mp h
    exact .cons (rep_py r1 e1) (rep_pyL r2 e2)
end
theorem sca_ok {x y : D} {k : Bool} (h : D.sca x y = some k) : x.flat = true ∧ y.flat = true ∧ scal x.v y.v = true ∧ decide (x.v = y.v) = k := by
  cases x <;> cases y <;> simp only [D.sca] at h <;> first | (cases h; done) | (cases h; refine ⟨rfl, rfl, rfl, ?_⟩; simp [D.v])
theorem deq_ok {x y : D} {k : Bool} (h : D.deq x y = some k) : ∃ p q, x.py = some p ∧ y.py = some q ∧ SeqAt.shaped p = true ∧ SeqAt.shaped q = true ∧ PyData.eqv p q = k := by
  unfold D.deq at h
  obtain ⟨p, e1, h⟩ := Option.bind_eq_some_iff.mp h
  obtain ⟨q, e2, h⟩ := Option.bind_eq_some_iff.mp h
  split at h
  · rename_i hz
    rw [Bool.and_eq_true] at hz
    exact ⟨p, q, e1, e2, hz.1, hz.2, Option.some.inj h⟩
  · cases h
theorem eqB_ok {K : PySem.W.Frag} {H : Hp} {x y : D} {v w : V} {k : Bool} (h : D.eqB x y = some k) (r1 : Rep c.cA H x v) (r2 : Rep c.cA H y w) :
    (scal v w = true ∧ decide (v = w) = k) ∨ ∃ p q, Dp K H v p ∧ Dp K H w q ∧ SeqAt.shaped p = true ∧ SeqAt.shaped q = true ∧ PyData.eqv p q = k := by
  unfold D.eqB at h
  split at h
  · rename_i k' e
    cases h
    obtain ⟨f1, f2, h1, h2⟩ := sca_ok e
    rw [rep_flat f1 r1, rep_flat f2 r2]
    exact .inl ⟨h1, h2⟩
  · obtain ⟨p, q, e1, e2, h1, h2, h3⟩ := deq_ok h
    exact .inr ⟨p, q, rep_py r1 e1, rep_py r2 e2, h1, h2, h3⟩
theorem os_eq (hu : X.A.units + 64 < cLine) : OpS X c (compareOp .Eq) D.eq pa pb fz := by
  refine ⟨_, op_eq.or (op_eqD hu), fun G H G1 H1 G2 H2 dx dy d x y ds2 Q st0 e1 e2 e s2 r1 r2 hop q => ?_⟩
  obtain ⟨k, hk, rfl⟩ := Option.map_eq_some_iff.mp hop
  rcases eqB_ok (K := X.K) hk (r1.rep e.sub) (r2.rep e.sub) with ⟨h1, h2⟩ | ⟨p, q', h1, h2, h3, h4, h5⟩
  · exact .inl ⟨h1, by rw [h2]; exact ok_bl q e s2⟩
  · exact .inr ⟨p, q', h1, h2, h3, h4, by rw [h5]; exact ok_bl q e s2⟩
theorem os_ne (hu : X.A.units + 64 < cLine) : OpS X c (compareOp .NotEq) D.ne pa pb fz := by
  refine ⟨_, op_ne.or (op_neD hu), fun G H G1 H1 G2 H2 dx dy d x y ds2 Q st0 e1 e2 e s2 r1 r2 hop q => ?_⟩
  obtain ⟨k, hk, rfl⟩ := Option.map_eq_some_iff.mp hop
  rcases eqB_ok (K := X.K) hk (r1.rep e.sub) (r2.rep e.sub) with ⟨h1, h2⟩ | ⟨p, q', h1, h2, h3, h4, h5⟩
  · exact .inl ⟨h1, by rw [h2]; exact ok_bl q e s2⟩
  · exact .inr ⟨p, q', h1, h2, h3, h4, by rw [h5]; exact ok_bl q e s2⟩
/-! ### membership -/
theorem feq_v {x y : D} (fx : x.flat = true) (fy : y.flat = true) : D.feq y x = eqV y.v x.v := by
  cases x <;> cases y <;> first | rfl | (cases fx; done) | (cases fy; done)
theorem rep_flats {H : Hp} : ∀ {xs : List D} {vs : List V}, xs.all D.flat = true → RepL c.cA H xs vs → vs = xs.map D.v
  | [], vs, f, r => by simp only [RepL] at r; rw [r]; rfl
  | d :: xs, vs, f, r => by
    simp only [RepL] at r
    obtain ⟨v, w, rfl, r1, r2⟩ := r
    rw [List.all_cons, Bool.and_eq_true] at f
    rw [rep_flat f.1 r1, rep_flats f.2 r2]
    rfl
theorem flatV_v {x : D} (f : x.flat = true) : flatV x.v = true := by cases x <;> first | rfl | cases f
theorem all_flatV : ∀ {xs : List D}, xs.all D.flat = true → (xs.map D.v).all flatV = true
  | [], _ => rfl
  | d :: xs, f => by
    rw [List.all_cons, Bool.and_eq_true] at f
    rw [List.map_cons, List.all_cons, flatV_v f.1, all_flatV f.2]
    rfl
theorem inV_v {x : D} (fx : x.flat = true) : ∀ {xs : List D}, xs.all D.flat = true → inV x.v (xs.map D.v) = D.inFlat x xs
  | [], _ => rfl
  | d :: xs, f => by
    rw [List.all_cons, Bool.and_eq_true] at f
    have ih := inV_v fx f.2
    unfold inV D.inFlat at ih ⊢
    rw [List.map_cons, List.any_cons, List.any_cons, ih, feq_v fx f.1]
/-! a key by its representation -/
theorem keys1_rep {H : Hp} : ∀ {xs : List D} {ks : List L2.Key} {vs : List V}, D.keys1 xs = some ks → RepL c.cA H xs vs → vs = ks.map kV
  | [], ks, vs, h, r => by
    simp only [D.keys1] at h
    cases h
    simp only [RepL] at r
    rw [r]; rfl
  | d :: xs, ks, vs, h, r => by
    simp only [D.keys1] at h
    simp only [RepL] at r
    obtain ⟨v, w, rfl, r1, r2⟩ := r
    obtain ⟨k, e1, h⟩ := Option.bind_eq_some_iff.mp h
    obtain ⟨q, e2, rfl⟩ := Option.map_eq_some_iff.mp h
    rw [keys1_rep e2 r2]
    cases d <;> simp only [D.key1] at e1 <;> first | (cases e1; done) | (cases e1; simp only [Rep] at r1; rw [r1]; rfl)
theorem look_k {kvs : List (L2.Key × V)} {vs : List D} {H : Hp} (k : L2.Key) (r : RepL c.cA H vs (kvs.map (fun p => p.2))) :
    (∀ d, D.look (.k k) (kvs.map (fun p => DK.k p.1)) vs = some d → ∃ v, valV kvs k = some v ∧ Rep c.cA H d v) ∧ (D.look (.k k) (kvs.map (fun p => DK.k p.1)) vs = none → valV kvs k = none) := by
  induction kvs generalizing vs with
  | nil => exact ⟨fun d h => by simp [D.look] at h, fun _ => rfl⟩
  | cons p kvs ih =>
    cases vs with
    | nil =>
      have := r.length
      simp at this
    | cons d0 vs =>
      simp only [List.map_cons, RepL] at r
      obtain ⟨v, w, h1, r1, r2⟩ := r
      cases h1
      obtain ⟨i1, i2⟩ := ih r2
      by_cases e : p.1 = k
      · refine ⟨fun d h => ?_, fun h => ?_⟩
        · simp only [List.map_cons, D.look, e, if_true] at h
          cases h
          exact ⟨_, valV_pos e, r1⟩
        · simp only [List.map_cons, D.look, e, if_true] at h
          cases h
      · have ne : ¬ DK.k p.1 = DK.k k := fun z => e (DK.k.inj z)
        refine ⟨fun d h => ?_, fun h => ?_⟩
        · simp only [List.map_cons, D.look, if_neg ne] at h
          rw [valV_neg e]
          exact i1 d h
        · simp only [List.map_cons, D.look, if_neg ne] at h
          rw [valV_neg e]
          exact i2 h
theorem look_t {kvs : List (List L2.Key × V)} {vs : List D} {H : Hp} (k : List L2.Key) (r : RepL c.cA H vs (kvs.map (fun p => p.2))) :
    (∀ d, D.look (.t k) (kvs.map (fun p => DK.t p.1)) vs = some d → ∃ v, valV kvs k = some v ∧ Rep c.cA H d v) ∧ (D.look (.t k) (kvs.map (fun p => DK.t p.1)) vs = none → valV kvs k = none) := by
  induction kvs generalizing vs with
  | nil => exact ⟨fun d h => by simp [D.look] at h, fun _ => rfl⟩
  | cons p kvs ih =>
    cases vs with
    | nil =>
      have := r.length
      simp at this
    | cons d0 vs =>
      simp only [List.map_cons, RepL] at r
      obtain ⟨v, w, h1, r1, r2⟩ := r
      cases h1
      obtain ⟨i1, i2⟩ := ih r2
      by_cases e : p.1 = k
      · refine ⟨fun d h => ?_, fun h => ?_⟩
        · simp only [List.map_cons, D.look, e, if_true] at h
          cases h
          exact ⟨_, valV_pos e, r1⟩
        · simp only [List.map_cons, D.look, e, if_true] at h
          cases h
      · have ne : ¬ DK.t p.1 = DK.t k := fun z => e (DK.t.inj z)
        refine ⟨fun d h => ?_, fun h => ?_⟩
        · simp only [List.map_cons, D.look, if_neg ne] at h
          rw [valV_neg e]
          exact i1 d h
        · simp only [List.map_cons, D.look, if_neg ne] at h
          rw [valV_neg e]
          exact i2 h
/-- what stands under a key in the dict at a -/
theorem dget {H G : Hp} {t : Bool} {a : Addr} {ks : List DK} {ds : List D} {vs : List V} {k : DK} {dy : D} {y : V} (hd : DictAt H t a ks vs) (r : RepL c.cA G ds vs) (hk : dy.key = some k) (ry : Rep c.cA H dy y) (kd : D.kind t k = true) :
    ∃ o, DGet H a y o ∧ (∀ d, D.look k ks ds = some d → ∃ v, o = some v ∧ Rep c.cA G d v) ∧ (D.look k ks ds = none → o = none) := by
  have kk : ∀ k1 : L2.Key, y = kV k1 → k = .k k1 → ∃ o, DGet H a y o ∧ (∀ d, D.look k ks ds = some d → ∃ v, o = some v ∧ Rep c.cA G d v) ∧ (D.look k ks ds = none → o = none) := by
    rintro k1 rfl rfl
    cases t with
    | true => cases kd
    | false =>
      obtain ⟨kvs, h1, rfl, rfl⟩ := hd
      obtain ⟨l1, l2⟩ := look_k k1 r
      exact ⟨_, .inl ⟨kvs, k1, h1, rfl, rfl⟩, l1, l2⟩
  cases dy <;> simp only [D.key] at hk <;> try (cases hk; done)
  · cases hk
    simp only [Rep] at ry
    exact kk (.inl _) ry rfl
  · cases hk
    simp only [Rep] at ry
    exact kk (.inr _) ry rfl
  · rename_i xs
    simp only [Rep] at ry
    obtain ⟨b, ws, rfl, hb, rw'⟩ := ry
    obtain ⟨k1, e1, rfl⟩ := Option.map_eq_some_iff.mp hk
    have e2 := keys1_rep e1 rw'
    subst e2
    cases t with
    | false => cases kd
    | true =>
      obtain ⟨kvs, h1, rfl, rfl⟩ := hd
      obtain ⟨l1, l2⟩ := look_t k1 r
      exact ⟨_, .inr ⟨kvs, k1, b, h1, rfl, hb, rfl⟩, l1, l2⟩
theorem op_in_dict (hu : X.A.units + 1 < cLine) : OpR X (compareOp .In) (fun y x H Q => ∃ a o, x = .ref a ∧ DGet H a y o ∧ Q (.bl o.isSome) H) := by
  intro pins s σ H y x u v Q I ry rx h
  obtain ⟨a, o, rfl, g, q⟩ := h
  obtain rfl : v = Value.ref a := rx
  exact d_in hu I g ry fun s3 I3 => ⟨.bl o.isSome, H, I3, rfl, q⟩
theorem op_notIn_dict (hu : X.A.units + 1 < cLine) : OpR X (compareOp .NotIn) (fun y x H Q => ∃ a o, x = .ref a ∧ DGet H a y o ∧ Q (.bl (!o.isSome)) H) := by
  intro pins s σ H y x u v Q I ry rx h
  obtain ⟨a, o, rfl, g, q⟩ := h
  obtain rfl : v = Value.ref a := rx
  exact d_notIn hu I g ry fun s3 I3 => ⟨.bl (!o.isSome), H, I3, rfl, q⟩
/-- the ways of a membership -/
theorem isin_ok {H : Hp} {K : PySem.W.Frag} {dx dy : D} {x y : V} {k : Bool} (h : D.isin dx dy = some k) (r1 : Rep c.cA H dx x) (r2 : Rep c.cA H dy y) :
    (∃ i j, x = .str i ∧ y = .str j ∧ (!(Builtin.Str.occurrences j i 0 j.length 1).isEmpty) = k) ∨
    (∃ p xs, y = .ref p ∧ (SqL K H p xs ∨ SqT K H p xs) ∧ flatV x = true ∧ xs.all flatV = true ∧ inV x xs = k) ∨
    (∃ d es, Dp K H x d ∧ Dp K H y (.list es) ∧ SeqAt.shaped d = true ∧ SeqAt.shaped (.list es) = true ∧ (es.any fun z => PyData.eqv z d) = k) ∨
    ∃ a o, y = .ref a ∧ DGet H a x o ∧ o.isSome = k := by
  cases dy <;> simp only [D.isin] at h <;> try (cases h; done)
  · cases dx <;> simp only at h <;> try (cases h; done)
    cases h
    simp only [Rep] at r1 r2
    exact .inl ⟨_, _, r1, r2, rfl⟩
  · rename_i ys
    have r2' := r2
    simp only [Rep] at r2
    obtain ⟨a, vs, rfl, h1, h2⟩ := r2
    split at h
    · rename_i hf
      rw [Bool.and_eq_true] at hf
      cases h
      have e := rep_flats hf.2 h2
      subst e
      rw [rep_flat hf.1 r1]
      exact .inr (.inl ⟨a, _, rfl, .inl (SqL.of h1), flatV_v hf.1, all_flatV hf.2, inV_v hf.1 hf.2⟩)
    · obtain ⟨d, e1, h⟩ := Option.bind_eq_some_iff.mp h
      obtain ⟨es, e2, h⟩ := Option.bind_eq_some_iff.mp h
      split at h
      · rename_i hz
        rw [Bool.and_eq_true] at hz
        exact .inr (.inr (.inl ⟨d, es, rep_py r1 e1, rep_py r2' (by simp only [D.py, e2, Option.map_some]), hz.1, hz.2, Option.some.inj h⟩))
      · cases h
  · rename_i ys
    simp only [Rep] at r2
    obtain ⟨a, vs, rfl, h1, h2⟩ := r2
    split at h
    · rename_i hf
      rw [Bool.and_eq_true] at hf
      cases h
      have e := rep_flats hf.2 h2
      subst e
      rw [rep_flat hf.1 r1]
      exact .inr (.inl ⟨a, _, rfl, .inr (SqT.of h1), flatV_v hf.1, all_flatV hf.2, inV_v hf.1 hf.2⟩)
    · cases h
  · rename_i t ks ds
    simp only [Rep] at r2
    obtain ⟨a, vs, rfl, h1, h2⟩ := r2
    obtain ⟨k', e1, h⟩ := Option.bind_eq_some_iff.mp h
    split at h
    · rename_i kd
      obtain ⟨o, g, l1, l2⟩ := dget h1 h2 e1 r1 kd
      refine .inr (.inr (.inr ⟨a, o, rfl, g, ?_⟩))
      cases hl : D.look k' ks ds with
      | none => rw [l2 hl, ← Option.some.inj h, hl]; rfl
      | some d =>
        obtain ⟨v, e, _⟩ := l1 d hl
        rw [e, ← Option.some.inj h, hl]; rfl
    · cases h
theorem os_in (hu : X.A.units + 65 < cLine) : OpS X c (compareOp .In) D.inn pa pb fz := by
  refine ⟨_, op_in_str.or (op_in_seq.or ((op_inD hu).or (op_in_dict (by omega)))), fun G H G1 H1 G2 H2 dx dy d x y ds2 Q st0 e1 e2 e s2 r1 r2 hop q => ?_⟩
  obtain ⟨k, hk, rfl⟩ := Option.map_eq_some_iff.mp hop
  rcases isin_ok (K := X.K) hk (r1.rep e.sub) (r2.rep e.sub) with ⟨i, j, h1, h2, h3⟩ | ⟨p, xs, h1, h2, h3, h4, h5⟩ | ⟨d, es, h1, h2, h3, h4, h5⟩ | ⟨a, o, h1, h2, h3⟩
  · exact .inl ⟨i, j, h1, h2, by rw [h3]; exact ok_bl q e s2⟩
  · exact .inr (.inl ⟨p, xs, h1, h2, h3, h4, by rw [h5]; exact ok_bl q e s2⟩)
  · exact .inr (.inr (.inl ⟨d, es, h1, h2, h3, h4, by rw [h5]; exact ok_bl q e s2⟩))
  · exact .inr (.inr (.inr ⟨a, o, h1, h2, by rw [h3]; exact ok_bl q e s2⟩))
theorem os_nin (hu : X.A.units + 65 < cLine) : OpS X c (compareOp .NotIn) D.nin pa pb fz := by
  refine ⟨_, op_notIn_str.or (op_notIn_seq.or ((op_notInD hu).or (op_notIn_dict (by omega)))), fun G H G1 H1 G2 H2 dx dy d x y ds2 Q st0 e1 e2 e s2 r1 r2 hop q => ?_⟩
  obtain ⟨k, hk, rfl⟩ := Option.map_eq_some_iff.mp hop
  rcases isin_ok (K := X.K) hk (r1.rep e.sub) (r2.rep e.sub) with ⟨i, j, h1, h2, h3⟩ | ⟨p, xs, h1, h2, h3, h4, h5⟩ | ⟨d, es, h1, h2, h3, h4, h5⟩ | ⟨a, o, h1, h2, h3⟩
  · exact .inl ⟨i, j, h1, h2, by rw [h3]; exact ok_bl q e s2⟩
  · exact .inr (.inl ⟨p, xs, h1, h2, h3, h4, by show Q (.bl (!inV x xs)) H2; rw [h5]; exact ok_bl q e s2⟩)
  · exact .inr (.inr (.inl ⟨d, es, h1, h2, h3, h4, by rw [h5]; exact ok_bl q e s2⟩))
  · exact .inr (.inr (.inr ⟨a, o, h1, h2, by rw [h3]; exact ok_bl q e s2⟩))
/-! ### is None -/
def D.isN (x y : D) : Option D := match y with | .non => some (.bl x.isNon) | _ => none
def D.isNN (x y : D) : Option D := match y with | .non => some (.bl (!x.isNon)) | _ => none
theorem rep_isNon {H : Hp} {d : D} {v : V} (r : Rep c.cA H d v) : decide (v = .non) = d.isNon := by
  cases d <;> simp only [Rep] at r <;> first | (rw [r]; rfl) | (subst r; rfl) | (obtain ⟨a, dx, vs, rfl, _⟩ := r; rfl) | (obtain ⟨a, rfl, _⟩ := r; rfl) | (obtain ⟨a, vs, rfl, _⟩ := r; rfl)
theorem os_isN : OpS X c (compareOp .Is) D.isN pa pb fz := by
  refine ⟨_, op_isN, fun G H G1 H1 G2 H2 dx dy d x y ds2 Q st0 e1 e2 e s2 r1 r2 hop q => ?_⟩
  have a1 := r1.rep e.sub
  have a2 := r2.rep e.sub
  cases dy <;> simp only [D.isN] at hop <;> try (cases hop; done)
  cases hop
  simp only [Rep] at a2
  exact ⟨a2, by rw [rep_isNon a1]; exact ok_bl q e s2⟩
theorem os_isNN : OpS X c (compareOp .IsNot) D.isNN pa pb fz := by
  refine ⟨_, op_notN, fun G H G1 H1 G2 H2 dx dy d x y ds2 Q st0 e1 e2 e s2 r1 r2 hop q => ?_⟩
  have a1 := r1.rep e.sub
  have a2 := r2.rep e.sub
  cases dy <;> simp only [D.isNN] at hop <;> try (cases hop; done)
  cases hop
  simp only [Rep] at a2
  exact ⟨a2, by rw [rep_isNon a1]; exact ok_bl q e s2⟩
end
end Mir
end

set_option maxHeartbeats 200000
section
/-! Rules: tests, displays, subscripts. -/
namespace Mir
open PySem L2
namespace E
def tru (m : M D) : M Bool := m >>= fun x => match x with
  | .bl b => pure b
  | _ => M.stuck
/-- a test by an expression -/
def tst (a : ME) : MB := fun env => tru (a env)
def tand (a b : MB) : MB := fun env => a env >>= fun k => if k then b env else pure false
def tor (a b : MB) : MB := fun env => a env >>= fun k => if k then pure true else b env
def tnot (a : MB) : MB := fun env => a env >>= fun k => pure (!k)
def and (a b : ME) : ME := fun env => tru (a env) >>= fun k => if k then b env else pure (.bl false)
def or (a b : ME) : ME := fun env => tru (a env) >>= fun k => if k then pure (.bl true) else b env
def not (a : ME) : ME := fun env => tru (a env) >>= fun k => pure (.bl (!k))
def ite (t : MB) (a b : ME) : ME := fun env => t env >>= fun k => if k then a env else b env
/-- a < b < c -/
def chain (f g : D → D → Option D) (a b d : ME) : ME := fun env => a env >>= fun x => b env >>= fun y => tru (M.lift (f x y)) >>= fun k => if k then d env >>= fun z => M.lift (g y z) else pure (.bl false)
end E
/-- a test's reading -/
def OkT (c : Ct) (G H : Hp) (Q : Bool → Hp → Prop) : Bool → DS → Prop := fun k ds' => ∀ G' H', Ext c.S G H G' H' → StOk c.S G' H' ds' → Q k H'
def tGT (c : Ct) (Γ : List Md) (m : MB) : TT := fun σ H Q => ∃ G env ds, Good c Γ G H σ env ds ∧ Run (m env ds) (OkT c G H Q) (ExcQ c G H)
def GT (X : Cx) (c : Ct) (Γ : List Md) (e : Expr) (m : MB) : Prop := PT X e (tGT c Γ m)
def GW (X : Cx) (c : Ct) (Γ : List Md) (e : Expr) (m : MB) : Prop := PW X e (tGT c Γ m)
theorem pw_imp {X : Cx} {e : Expr} {t t' : TT} (h : PW X e t) (k : ∀ σ H Q, t' σ H Q → t σ H Q) : PW X e t' := ⟨fun wh pins s σ H Q I hw => h.run wh pins s σ H Q I (k σ H Q hw)⟩
theorem Run.tru {m : M D} {ds : DS} {Q : Bool → DS → Prop} {Ex : Str → List Str → List D → DS → Prop} (h : Run (E.tru m ds) Q Ex) : Run (m ds) (fun d ds' => ∃ b, d = .bl b ∧ Q b ds') Ex := by
  refine (Run.bind h).mono (fun d ds' q => ?_) fun _ _ _ _ q => q
  cases d <;> first | exact ⟨_, rfl, q⟩ | exact q.elim
section
variable {X : Cx} {c : Ct} {Γ : List Md} {p pa pb pd : Pv} {ma mb md : ME} {ta tb : MB} {a b d : Expr} {rest : List Expr} {pos : Pos}
theorem gt_val (h : GE X c Γ a ma pa) (he : ∀ whole, isTrue a X.env whole = (do let v ← whole; standAt a.pos; holding [v] (truthy v)) := by intro _; rfl) : GT X c Γ a (E.tst ma) := by
  refine pt_imp (pt_val h he) fun σ H Q ⟨G, env, ds, g, r⟩ => ?_
  refine ⟨G, env, ds, g, (Run.tru r).mono (fun d ds' q v G' H' e st r => ?_) fun _ _ _ _ q => q⟩
  obtain ⟨k, rfl, q⟩ := q
  have r := r.rep e.sub
  simp only [Rep] at r
  exact ⟨k, r, q G' H' e st⟩
theorem gt_cmp {op : CmpOp} {f : D → D → Option D} (ho : OpS X c (compareOp op) f pa pb fz) (ha : GE X c Γ a ma pa) (hb : GE X c Γ b mb pb) (hm : behindInMarks op b = false) : GT X c Γ (.Compare a [op] [b] pos) (E.tst (E.bin f ma mb)) := by
  obtain ⟨r, hr, hk⟩ := ho
  refine pt_imp (pt_cmpR hr ha hb hm) fun σ H Q ⟨G, env, ds, g, h⟩ => ?_
  have h' := Run.tru h
  refine read2 (p := fz) (Q := fun x H' => ∃ k, x = .bl k ∧ Q k H') g (Run.mono h' (fun d ds' q v G' H' e st r => ?_) fun _ _ _ _ q => q) fun dx dy ds2 x y G1 H1 G2 H2 e1 e2 e s2 g2 r1 r2 h2 => ?_
  · obtain ⟨k, rfl, q⟩ := q
    have r := r.rep e.sub
    simp only [Rep] at r
    exact ⟨k, r, q G' H' e st⟩
  · obtain ⟨d, hd, q⟩ := Run.lift h2
    exact hk G H G1 H1 G2 H2 dx dy d x y ds2 _ (fun a ha => g.st.there ha) e1 e2 e s2 r1 r2 hd q
theorem gt_of {t : TT} {k : Bool → M Bool} {r : Bool → Hp → Prop} {Q : Bool → Hp → Prop} {G H : Hp} {σ : L2.St} {env : List Val} {ds : DS} (g : Good c Γ G H σ env ds) (h : Run ((ta env >>= k) ds) (OkT c G H Q) (ExcQ c G H))
    (hk : ∀ x ds1 G1 H1, Ext c.S G H G1 H1 → StOk c.S G1 H1 ds1 → Good c Γ G1 H1 σ env ds1 → Run (k x ds1) (OkT c G1 H1 Q) (ExcQ c G1 H1) → r x H1) : tGT c Γ ta σ H r :=
  ⟨G, env, ds, g, h.bind.mono (fun x ds1 h1 G1 H1 e1 s1 => hk x ds1 G1 H1 e1 s1 (g.ext e1 s1) (h1.mono (fun k ds' q G' H' e s => q G' H' (e1.trans e) s) fun _ _ _ _ q => q.ext e1)) fun _ _ _ _ q => q⟩
theorem gw_and1 (ha : GT X c Γ a ta) : GW X c Γ (.BoolOp .And [a] pos) ta := pw_and1 ha
theorem gw_or1 (ha : GT X c Γ a ta) : GW X c Γ (.BoolOp .Or [a] pos) ta := pw_or1 ha
theorem gw_and (ha : GT X c Γ a ta) (hb : GW X c Γ (.BoolOp .And (b :: rest) pos) tb) : GW X c Γ (.BoolOp .And (a :: b :: rest) pos) (E.tand ta tb) :=
  pw_imp (pw_and ha hb) fun σ H Q ⟨G, env, ds, g, h⟩ => gt_of (t := tGT c Γ ta) g h fun k ds1 G1 H1 e1 s1 g1 h1 => by
    cases k with
    | true => exact iteT ⟨G1, env, ds1, g1, h1⟩
    | false => exact iteF ((show OkT c G1 H1 Q false ds1 from h1) G1 H1 (.refl g1.sub) s1)
theorem gw_or (ha : GT X c Γ a ta) (hb : GW X c Γ (.BoolOp .Or (b :: rest) pos) tb) : GW X c Γ (.BoolOp .Or (a :: b :: rest) pos) (E.tor ta tb) :=
  pw_imp (pw_or ha hb) fun σ H Q ⟨G, env, ds, g, h⟩ => gt_of (t := tGT c Γ ta) g h fun k ds1 G1 H1 e1 s1 g1 h1 => by
    cases k with
    | true => exact iteT ((show OkT c G1 H1 Q true ds1 from h1) G1 H1 (.refl g1.sub) s1)
    | false => exact iteF ⟨G1, env, ds1, g1, h1⟩
theorem gt_w (h : GW X c Γ a ta) : GT X c Γ a ta := PW.pt h
theorem gt_not (ha : GT X c Γ a ta) : GT X c Γ (.UnaryOp .Not a pos) (E.tnot ta) :=
  pt_imp (pt_not ha) fun σ H Q ⟨G, env, ds, g, h⟩ => gt_of (t := tGT c Γ ta) g h fun k ds1 G1 H1 e1 s1 g1 h1 => (show OkT c G1 H1 Q (!k) ds1 from h1) G1 H1 (.refl g1.sub) s1
/-! ### and, or, not as values -/
theorem read1t {k : Bool → M D} {r : V → Hp → Prop} {Q : VK} {G H : Hp} {σ : L2.St} {env : List Val} {ds : DS} (g : Good c Γ G H σ env ds) (h : Run ((E.tru (ma env) >>= k) ds) (OkQ c G H p Q) (ExcQ c G H))
    (hk : ∀ b ds1 G1 H1, Ext c.S G H G1 H1 → StOk c.S G1 H1 ds1 → Good c Γ G1 H1 σ env ds1 → Run (k b ds1) (OkQ c G H p Q) (ExcQ c G H) → r (.bl b) H1) : tGE c Γ ma pa σ H r :=
  ⟨G, env, ds, g, (Run.tru h.bind).mono (fun d ds1 ⟨b, e, h1⟩ x G1 H1 e1 s1 r1 => by
    subst e
    have r1 := r1.rep e1.sub
    simp only [Rep] at r1
    subst r1
    exact hk b ds1 G1 H1 e1 s1 (g.ext e1 s1) h1) fun _ _ _ _ q => q⟩
theorem Res'.wide {H0 H1 G H : Hp} {d : D} {v : V} (e : ∀ a, H1 a = none → H0 a = none) (r : Res' c p H1 G H d v) : Res' c p H0 G H d v := by
  cases p with
  | ow m =>
    obtain ⟨as, r, nd, f⟩ := r
    exact ⟨as, r, nd, fun a ha => ⟨e a (f a ha).1, (f a ha).2⟩⟩
  | vw m => exact r
theorem OkQ.ext {G H G1 H1 : Hp} {Q : VK} {d : D} {ds : DS} (e : Ext c.S G H G1 H1) (h : OkQ c G H p Q d ds) : OkQ c G1 H1 p Q d ds := fun v G' H' e' s' r => h v G' H' (e.trans e') s' (r.wide fun _ z => e.free z)
theorem run_ext {G H G1 H1 : Hp} {Q : VK} {r : Res D} (e : Ext c.S G H G1 H1) (h : Run r (OkQ c G H p Q) (ExcQ c G H)) : Run r (OkQ c G1 H1 p Q) (ExcQ c G1 H1) := h.mono (fun d ds q => q.ext e) fun _ _ _ _ q => q.ext e
theorem ge_one {op : BoolOp} (h : GE X c Γ a ma p) : GE X c Γ (.BoolOp op [a] pos) ma p := pe_one h
theorem ge_and (ha : GE X c Γ a ma pa) (hb : GE X c Γ (.BoolOp .And (b :: rest) pos) mb fz) : GE X c Γ (.BoolOp .And (a :: b :: rest) pos) (E.and ma mb) fz :=
  pe_imp (pe_and ha hb) fun σ H Q ⟨G, env, ds, g, h⟩ => read1t (Q := Q) (p := fz) g h fun k ds1 G1 H1 e1 s1 g1 h1 => by
    refine ⟨k, rfl, ?_⟩
    cases k with
    | true => exact iteT ⟨G1, env, ds1, g1, run_ext e1 h1⟩
    | false => exact iteF (ok_bl (show OkQ c G H fz Q (.bl false) ds1 from h1) e1 s1)
theorem ge_or (ha : GE X c Γ a ma pa) (hb : GE X c Γ (.BoolOp .Or (b :: rest) pos) mb fz) : GE X c Γ (.BoolOp .Or (a :: b :: rest) pos) (E.or ma mb) fz :=
  pe_imp (pe_or ha hb) fun σ H Q ⟨G, env, ds, g, h⟩ => read1t (Q := Q) (p := fz) g h fun k ds1 G1 H1 e1 s1 g1 h1 => by
    refine ⟨k, rfl, ?_⟩
    cases k with
    | true => exact iteT (ok_bl (show OkQ c G H fz Q (.bl true) ds1 from h1) e1 s1)
    | false => exact iteF ⟨G1, env, ds1, g1, run_ext e1 h1⟩
theorem ge_not (ha : GE X c Γ a ma pa) : GE X c Γ (.UnaryOp .Not a pos) (E.not ma) fz :=
  pe_imp (pe_not ha) fun σ H Q ⟨G, env, ds, g, h⟩ => read1t (Q := Q) (p := fz) g h fun k ds1 G1 H1 e1 s1 g1 h1 => ⟨k, rfl, ok_bl (show OkQ c G H fz Q (.bl (!k)) ds1 from h1) e1 s1⟩
theorem ge_ite {t : Expr} (ht : GT X c Γ t ta) (ha : GE X c Γ a ma p) (hb : GE X c Γ b mb p) : GE X c Γ (.IfExp t a b pos) (E.ite ta ma mb) p :=
  pe_imp (pe_ifExp ht ha hb) fun σ H Q ⟨G, env, ds, g, h⟩ => ⟨G, env, ds, g, h.bind.mono (fun k ds1 h1 G1 H1 e1 s1 => by
    cases k with
    | true => exact iteT ⟨G1, env, ds1, g.ext e1 s1, run_ext e1 h1⟩
    | false => exact iteF ⟨G1, env, ds1, g.ext e1 s1, run_ext e1 h1⟩) fun _ _ _ _ q => q⟩
theorem ge_neg (ha : GE X c Γ a ma pa) : GE X c Γ (.UnaryOp .USub a pos) (E.un D.neg ma) fz :=
  pe_imp (pe_un un_neg ha) fun σ H Q ⟨G, env, ds, g, h⟩ => read1 (p := fz) (Q := Q) g h fun dx ds1 x G1 H1 e1 s1 g1 r1 h1 => by
    obtain ⟨d, hd, q⟩ := Run.lift h1
    have r1 := r1.rep e1.sub
    cases dx <;> simp only [D.neg] at hd <;> try (cases hd; done)
    cases hd
    simp only [Rep] at r1
    exact ⟨_, r1, ok_int q e1 s1⟩
/-! ### a chain of two comparisons -/
theorem ge_chain {op op' : CmpOp} {f f' : D → D → Option D} (ho : OpS X c (compareOp op) f fz fz fz) (ho' : OpS X c (compareOp op') f' fz fz fz) (ha : GE X c Γ a ma fz) (hb : GE X c Γ b mb fz) (hd : GE X c Γ d md fz)
    (hpe : ∀ {r r' : R2}, OpR X (compareOp op) r → OpR X (compareOp op') r' → PE X (.Compare a [op, op'] [b, d] pos) (tChain r r' (tGE c Γ ma fz) (tGE c Γ mb fz) (tGE c Γ md fz))) : GE X c Γ (.Compare a [op, op'] [b, d] pos) (E.chain f f' ma mb md) fz := by
  obtain ⟨r, hr, hk⟩ := ho
  obtain ⟨r', hr', hk'⟩ := ho'
  refine pe_imp (hpe hr hr') fun σ H Q ⟨G, env, ds, g, h⟩ => ?_
  refine read2 (p := fz) (Q := Q) g h fun dx dy ds2 x y G1 H1 G2 H2 e1 e2 e s2 g2 r1 r2 h2 => ?_
  obtain ⟨k, hf, h3⟩ : ∃ k, f dx dy = some (.bl k) ∧ Run ((if k = true then md env >>= fun z => M.lift (f' dy z) else pure (.bl false)) ds2) (OkQ c G H fz Q) (ExcQ c G H) := by
    cases hf : f dx dy with
    | none => rw [hf] at h2; exact h2.elim
    | some z => rw [hf] at h2; cases z <;> first | exact ⟨_, rfl, h2⟩ | exact h2.elim
  refine hk G2 H2 G2 H2 G2 H2 dx dy _ x y ds2 _ (fun a ha => s2.there ha) (.refl e.sub) (.refl e.sub) (.refl e.sub) s2 (.of_fz r1.fz) (.of_fz r2.fz) hf fun v G3 H3 e3 s3 r3 => ?_
  have r3 := r3.rep e3.sub
  simp only [Rep] at r3
  refine ⟨k, r3, ?_⟩
  cases k with
  | false => exact iteF (ok_bl (show OkQ c G H fz Q (.bl false) ds2 from h3) (e.trans e3) s3)
  | true =>
    refine iteT ⟨G3, env, ds2, g2.ext e3 s3, (run_ext (e.trans e3) h3).bind.mono (fun dz ds4 h4 z G4 H4 e4 s4 r4 => ?_) fun _ _ _ _ q => q⟩
    obtain ⟨d, hd', q⟩ := Run.lift h4
    exact hk' G4 H4 G4 H4 G4 H4 dy dz d y z ds4 Q (fun a ha => s4.there ha) (.refl e4.sub) (.refl e4.sub) (.refl e4.sub) s4 (.of_fz (r2.fz.mono (e3.g.trans e4.g))) (.of_fz r4.fz) hd' (q.ext e4)
end
end Mir
end

set_option maxHeartbeats 200000
section
/-! Rules: argument lists, displays, subscripts, slices, calls. -/
namespace Mir
open PySem L2
/-! ### displays -/
def ResT (c : Ct) (H G' H' : Hp) (ms : List Ow) (ds : List D) (vs : List V) : Prop := ∃ as, RepOT c.cA G' H' ms ds vs as ∧ as.Nodup ∧ ∀ a ∈ as, H a = none ∧ G' a = none
def OkD (c : Ct) (G H : Hp) (ms : List Ow) (Q : List V → Hp → Prop) : List D → DS → Prop := fun xs ds' => ∀ vs G' H', Ext c.S G H G' H' → StOk c.S G' H' ds' → ResT c H G' H' ms xs vs → Q vs H'
def tGD (c : Ct) (Γ : List Md) (m : MI) (ms : List Ow) : TA := fun σ H Q => ∃ G env ds, Good c Γ G H σ env ds ∧ Run (m env ds) (OkD c G H ms Q) (ExcQ c G H)
def GD (X : Cx) (c : Ct) (Γ : List Md) (es : List Expr) (m : MI) (ms : List Ow) : Prop := PA X es (tGD c Γ m ms)
namespace E
def dnil : MI := fun _ => pure []
def dcons (a : ME) (r : MI) : MI := fun env => a env >>= fun x => r env >>= fun xs => pure (x :: xs)
def list (m : MI) : ME := fun env => m env >>= fun xs => pure (.lst xs)
def tuple (m : MI) : ME := fun env => m env >>= fun xs => pure (.tup xs)
end E
theorem RepOT.length {cA : Str → Addr} {G H : Hp} : ∀ {ms : List Ow} {ds : List D} {vs : List V} {as : List Addr}, RepOT cA G H ms ds vs as → vs.length = ms.length ∧ ds.length = ms.length
  | [], ds, vs, as, h => by
    simp only [RepOT] at h
    rw [h.1, h.2.1]
    exact ⟨rfl, rfl⟩
  | m :: ms, ds, vs, as, h => by
    simp only [RepOT] at h
    obtain ⟨d, dr, v, vr, a1, a2, rfl, rfl, rfl, h1, h2⟩ := h
    obtain ⟨l1, l2⟩ := RepOT.length h2
    exact ⟨by rw [List.length_cons, List.length_cons, l1], by rw [List.length_cons, List.length_cons, l2]⟩
theorem repOT_all {cA : Str → Addr} {G H : Hp} {m : Ow} : ∀ {n : Nat} {ds : List D} {vs : List V} {as : List Addr}, RepOT cA G H (List.replicate n m) ds vs as → AllO (RepO cA G H m) ds vs as
  | 0, ds, vs, as, h => by
    simp only [List.replicate_zero, RepOT] at h
    rw [h.1, h.2.1, h.2.2]
    exact ⟨rfl, rfl⟩
  | n + 1, ds, vs, as, h => by
    simp only [List.replicate_succ, RepOT] at h
    obtain ⟨d, dr, v, vr, a1, a2, rfl, rfl, rfl, h1, h2⟩ := h
    exact ⟨v, vr, a1, a2, rfl, rfl, h1, repOT_all h2⟩
theorem ResT.fz {c : Ct} {H G' H' : Hp} {n : Nat} {ds : List D} {vs : List V} (h : ResT c H G' H' (List.replicate n .fz) ds vs) : RepL c.cA G' ds vs := by
  obtain ⟨as, r, _⟩ := h
  exact (allO_fz' (repOT_all r)).2
theorem ResA.ext {c : Ct} {H G1 H1 G2 H2 : Hp} {m : Ow} {d : D} {v : V} {as : List Addr} (st0 : ∀ a ∈ stN c.S, ∃ o, H a = some o) (e : Ext c.S G1 H1 G2 H2) (h : ResA c H G1 H1 m d v as) : ResA c H G2 H2 m d v as ∧ ∀ a ∈ as, ∃ o, H1 a = some o := by
  obtain ⟨h, nd, fr⟩ := h
  have ns : ∀ a ∈ as, a ∉ stN c.S := fun a ha hs => by
    obtain ⟨o, q⟩ := st0 a hs
    rw [(fr a ha).1] at q
    cases q
  refine ⟨⟨h.agree e.g fun a ha => ?_, nd, fun a ha => ⟨(fr a ha).1, ?_⟩⟩, h.there⟩
  · obtain ⟨o, q⟩ := h.there a ha
    rw [q, e.h a o (ns a ha) (by simp) q]
  · cases q : G2 a with
    | none => rfl
    | some o =>
      obtain ⟨o', q'⟩ := h.there a ha
      rcases e.new a o q with z | z
      · rw [(fr a ha).2] at z; cases z
      · rw [q'] at z; cases z
section
variable {X : Cx} {c : Ct} {Γ : List Md} {p pa pb : Pv} {ma mb : ME} {a b e : Expr} {es : List Expr} {mr : MI} {m : Ow} {ms : List Ow} {pos : Pos}
theorem gd_nil : GD X c Γ [] E.dnil [] := pa_imp pa_nil fun σ H Q ⟨G, env, ds, g, h⟩ => (show OkD c G H [] Q [] ds from h) [] G H (.refl g.sub) g.st ⟨[], by simp only [RepOT]; exact ⟨trivial, trivial, trivial⟩, List.nodup_nil, by simp⟩
theorem gd_cons (ha : GE X c Γ e ma (.ow m)) (hr : GD X c Γ es mr ms) (hs : starEach (e :: es) X.env = (false, eval e X.env) :: starEach es X.env := by rfl) : GD X c Γ (e :: es) (E.dcons ma mr) (m :: ms) :=
  pa_imp (pa_cons ha hr hs) fun σ H Q ⟨G, env, ds, g, h⟩ => ⟨G, env, ds, g, h.bind.mono (fun dx ds1 h1 x G1 H1 e1 s1 r1 => ⟨G1, env, ds1, g.ext e1 s1, h1.bind.mono (fun xs ds2 h2 vs G2 H2 e2 s2 r2 => by
    obtain ⟨as1, r1⟩ := r1
    obtain ⟨⟨q1, n1, f1⟩, t1⟩ := r1.ext (fun a ha => g.st.there ha) e2
    obtain ⟨as2, q2, n2, f2⟩ := r2
    refine (show OkD c G H (m :: ms) Q (dx :: xs) ds2 from h2) (x :: vs) G2 H2 (e1.trans e2) s2 ⟨as1 ++ as2, ?_, ?_, fun a ha => ?_⟩
    · simp only [RepOT]
      exact ⟨dx, xs, x, vs, as1, as2, rfl, rfl, rfl, q1, q2⟩
    · refine List.nodup_append.mpr ⟨n1, n2, fun a h1 b h2 e => ?_⟩
      subst e
      obtain ⟨o, z⟩ := t1 a h1
      rw [(f2 a h2).1] at z
      cases z
    · rcases List.mem_append.mp ha with z | z
      · exact f1 a z
      · exact ⟨e1.free (f2 a z).1, (f2 a z).2⟩) fun _ _ _ _ q => q.ext e1⟩) fun _ _ _ _ q => q⟩
/-- a new node around own parts -/
theorem ok_node {G H G' H' : Hp} {Q : VK} {d : D} {ds' : DS} {mo : Ow} {o : HO} {a : Addr} {as : List Addr} (st0 : ∀ a ∈ stN c.S, ∃ o, H a = some o) (h : OkQ c G H (.ow mo) Q d ds') (e : Ext c.S G H G' H') (st : StOk c.S G' H' ds') (ha : H' a = none)
    (nd : as.Nodup) (fr : ∀ b ∈ as, H b = none ∧ G' b = none) (th : ∀ b ∈ as, ∃ o, H' b = some o) (r : RepO c.cA G' (upd H' a o) mo d (.ref a) (a :: as)) : Q (.ref a) (upd H' a o) := by
  refine h _ G' _ (e.trans (Ext.laid e.sub ha _)) (st.laid ha _) ⟨a :: as, r, ?_, fun b hb => ?_⟩
  · refine List.nodup_cons.mpr ⟨fun z => ?_, nd⟩
    obtain ⟨o, q⟩ := th a z
    rw [ha] at q
    cases q
  · rcases List.mem_cons.mp hb with rfl | hb
    · exact ⟨e.free ha, free_of e.sub ha⟩
    · exact fr b hb
theorem RepOT.there' {G H : Hp} {ds : List D} {vs : List V} {as : List Addr} (r : RepOT c.cA G H ms ds vs as) : ∀ a ∈ as, ∃ o, H a = some o := r.there
theorem ge_list {n : Nat} (hn : n ≤ sizeLine) (h : GD X c Γ es mr (List.replicate n m)) : GE X c Γ (.List es pos) (E.list mr) (.ow (.lst m)) :=
  pe_imp (pe_lst h) fun σ H Q ⟨G, env, ds, g, r⟩ => ⟨G, env, ds, g, r.bind.mono (fun xs ds1 h1 vs G1 H1 e1 s1 r1 => by
    obtain ⟨as, q, nd, fr⟩ := r1
    have hl := q.length.1
    rw [List.length_replicate] at hl
    refine ⟨by rw [hl]; exact hn, fun a ha => ?_⟩
    refine ok_node (fun a ha => g.st.there ha) (show OkQ c G H (.ow (.lst m)) Q (.lst xs) ds1 from h1) e1 s1 ha nd fr (fun b hb => q.there b hb) ?_
    have q' := q.agree (G' := G1) (H' := upd H1 a (.lst vs)) (Same.refl _) fun b hb => by
      obtain ⟨o, z⟩ := q.there b hb
      rw [upd_ne (ne_of_none z ha)]
    simp only [RepO]
    exact ⟨a, xs, vs, as, rfl, rfl, rfl, upd_same, repOT_all q'⟩) fun _ _ _ _ q => q⟩
theorem ge_tuple {k : Nat} (hn : ms.length ≤ sizeLine) (h : GD X c Γ es mr ms) : GE X c Γ (.Tuple es k pos) (E.tuple mr) (.ow (.tup ms)) :=
  pe_imp (pe_tup h) fun σ H Q ⟨G, env, ds, g, r⟩ => ⟨G, env, ds, g, r.bind.mono (fun xs ds1 h1 vs G1 H1 e1 s1 r1 => by
    obtain ⟨as, q, nd, fr⟩ := r1
    refine ⟨by rw [q.length.1]; exact hn, fun a ha => ?_⟩
    refine ok_node (fun a ha => g.st.there ha) (show OkQ c G H (.ow (.tup ms)) Q (.tup xs) ds1 from h1) e1 s1 ha nd fr (fun b hb => q.there b hb) ?_
    have q' := q.agree (G' := G1) (H' := upd H1 a (.tup vs)) (Same.refl _) fun b hb => by
      obtain ⟨o, z⟩ := q.there b hb
      rw [upd_ne (ne_of_none z ha)]
    simp only [RepO]
    exact ⟨a, xs, vs, as, rfl, rfl, rfl, upd_same, q'⟩) fun _ _ _ _ q => q⟩
end
/-! ### arguments -/
inductive ArgOk (c : Ct) (G : Hp) : Val → V → Prop
  | d {d : D} {v : V} : Rep c.cA G d v → ArgOk c G (.d d) v
  | f {F : List D → M D} {v : V} : c.fnv v F → ArgOk c G (.f F) v
  | st {a b : Addr} : c.S = some (a, b) → ArgOk c G .st (.ref a)
abbrev ArgsOk (c : Ct) (G : Hp) : List Val → List V → Prop := Paired (ArgOk c G)
theorem ArgOk.mono {c : Ct} {G G' : Hp} {x : Val} {v : V} (e : Same G G') (h : ArgOk c G x v) : ArgOk c G' x v := by
  cases h with
  | d r => exact .d (r.mono e)
  | f r => exact .f r
  | st r => exact .st r
def OkA (c : Ct) (G H : Hp) (Q : List V → Hp → Prop) : List Val → DS → Prop := fun xs ds' => ∀ vs G' H', Ext c.S G H G' H' → StOk c.S G' H' ds' → ArgsOk c G' xs vs → Q vs H'
def tGA (c : Ct) (Γ : List Md) (m : MA) : TA := fun σ H Q => ∃ G env ds, Good c Γ G H σ env ds ∧ Run (m env ds) (OkA c G H Q) (ExcQ c G H)
def GA (X : Cx) (c : Ct) (Γ : List Md) (es : List Expr) (m : MA) : Prop := PA X es (tGA c Γ m)
namespace E
def anil : MA := fun _ => pure []
def acons (a : ME) (r : MA) : MA := fun env => a env >>= fun x => r env >>= fun xs => pure (.d x :: xs)
def aval (x : List Val → Val) (r : MA) : MA := fun env => r env >>= fun xs => pure (x env :: xs)
def call (F : Fn) (r : MA) : ME := fun env => r env >>= F
end E
section
variable {X : Cx} {c : Ct} {Γ : List Md} {p pa pb : Pv} {ma mb : ME} {a b e : Expr} {es : List Expr} {mr : MA} {m : Ow} {ms : List Ow} {pos : Pos}
theorem ga_nil : GA X c Γ [] E.anil := pa_imp pa_nil fun σ H Q ⟨G, env, ds, g, h⟩ => (show OkA c G H Q [] ds from h) [] G H (.refl g.sub) g.st .nil
theorem ga_cons (ha : GE X c Γ e ma fz) (hr : GA X c Γ es mr) (hs : starEach (e :: es) X.env = (false, eval e X.env) :: starEach es X.env := by rfl) : GA X c Γ (e :: es) (E.acons ma mr) :=
  pa_imp (pa_cons ha hr hs) fun σ H Q ⟨G, env, ds, g, h⟩ => ⟨G, env, ds, g, h.bind.mono (fun dx ds1 h1 x G1 H1 e1 s1 r1 => ⟨G1, env, ds1, g.ext e1 s1, h1.bind.mono (fun xs ds2 h2 vs G2 H2 e2 s2 r2 =>
    (show OkA c G H Q (.d dx :: xs) ds2 from h2) (x :: vs) G2 H2 (e1.trans e2) s2 (.cons (.d (r1.fz.mono e2.g)) r2)) fun _ _ _ _ q => q.ext e1⟩) fun _ _ _ _ q => q⟩
/-- a value that is no data: the draws' state, a function -/
theorem ga_val {x : List Val → Val} {t : TE} (hx : PE X e t) (ht : ∀ σ H G env ds R, Good c Γ G H σ env ds → (∀ v, ArgOk c G (x env) v → R v H) → t σ H R) (hr : GA X c Γ es mr) (hs : starEach (e :: es) X.env = (false, eval e X.env) :: starEach es X.env := by rfl) :
    GA X c Γ (e :: es) (E.aval x mr) :=
  pa_imp (pa_cons hx hr hs) fun σ H Q ⟨G, env, ds, g, h⟩ => ht σ H G env ds _ g fun v hv => ⟨G, env, ds, g, h.bind.mono (fun xs ds2 h2 vs G2 H2 e2 s2 r2 =>
    (show OkA c G H Q (x env :: xs) ds2 from h2) (v :: vs) G2 H2 e2 s2 (.cons (hv.mono e2.g) r2)) fun _ _ _ _ q => q⟩
theorem ga_st {i : Nat} {x : Str} {pos : Pos} (hi : Γ[i]? = some .st) (hr : GA X c Γ es mr) (hN : X.N[i]? = some x) (hv : Vis X.env.scope x) (hd : (x == ("__debug__" : Str)) = false := by decide) (hcd : (x == ("__classdict__" : Str)) = false := by decide)
    (hs : starEach (.Name x pos :: es) X.env = (false, eval (.Name x pos) X.env) :: starEach es X.env := by rfl) : GA X c Γ (.Name x pos :: es) (E.aval (fun _ => .st) mr) :=
  ga_val (pe_var hN hv hd hcd) (fun σ H G env ds R g k => by
    obtain ⟨a, b, h1, h2, h3⟩ := g.getS hi
    exact ⟨.ref a, h2, k _ (.st h1)⟩) hr hs
/-- a def's promise by its mirror: the result's mode mo, nothing that stood is changed but the draws' state -/
def SpF (c : Ct) (F : Fn) (mo : Ow) : Sp := fun vs H Q E => ∃ (S : Option (Addr × Addr)) (G : Hp) (as : List Val) (ds : DS), Same G H ∧ StOk S G H ds ∧ ArgsOk { c with S := S } G as vs ∧
  Run (F as ds) (OkQ { c with S := S, E := E } G H (.ow mo) Q) (ExcQ { c with S := S, E := E } G H)
/-- a def is called -/
theorem ge_call {x : Str} {f : Addr} {fd : FuncData} {k : Nat} {ps : List Str} {F : Fn} {mo : Ow} {p1 pos : Pos} {c0 : Ct} (h0 : c0.cA = c.cA ∧ c0.fnv = c.fnv) (F1 : FnOk X.prog X.w X.K X.mg X.base (L2.CX X.prog X.w) k f fd ps (SpF c0 F mo)) (hr : Room k X.A) (hg : Gl X x) (hm : X.mg x = some (.ref f))
    (hk : PySem.W.keepIn X.K (.ref f) = true) (hb : Binds X.K fd ps []) (hx : Passes (L2.CX X.prog X.w) X c.E) (ha : GA X c Γ (e :: es) mr)
    (hpe : PE X (.Call (.Name x p1) (e :: es) [] pos) (tCall (SpF c0 F mo) [] c.E (tGA c Γ mr))) :
    GE X c Γ (.Call (.Name x p1) (e :: es) [] pos) (E.call F mr) (.ow mo) := by
  refine pe_imp hpe fun σ H Q ⟨G, env, ds, g, h⟩ => ⟨G, env, ds, g, h.bind.mono (fun as ds1 h1 vs G1 H1 e1 s1 r1 => ?_) fun _ _ _ _ q => q⟩
  obtain ⟨cA0, S0, l0, G00, H00, E0', fnv0⟩ := c0
  obtain ⟨cA1, S1, l1, G01, H01, E1, fnv1⟩ := c
  obtain ⟨rfl, rfl⟩ := h0
  refine ⟨S1, G1, as, ds1, e1.sub, s1, ?_, ?_⟩
  · rw [List.append_nil]
    refine Paired.mapP r1 fun a b z => ?_
    cases z with
    | d r => exact .d r
    | f r => exact .f r
    | st r => exact .st r
  · have h2 := run_ext e1 h1
    exact h2
end
end Mir
end

set_option maxHeartbeats 200000
section
/-! Statements. -/
namespace Mir
open PySem L2
inductive Fl where
  | nx (env : List Val) | rt (d : D)
abbrev MS := List Val → M Fl
/-- what is wanted of an exception, from anywhere in the body -/
def ExcS (c : Ct) : Str → List Str → List D → DS → Prop := fun cn ns vs ds' => ∀ G' H', ExtA c.lent c.S c.G0 c.H0 G' H' → StOk c.S G' H' ds' → Wish c cn ns vs G' H'
theorem ExcS.at {c : Ct} {G H : Hp} (e : ExtA c.lent c.S c.G0 c.H0 G H) {cn : Str} {ns : List Str} {vs : List D} {ds : DS} (h : ExcS c cn ns vs ds) : ExcQ c G H cn ns vs ds := fun G' H' e' s' => h G' H' (e.trans e'.more) s'
def OkS (c : Ct) (G : Hp) (Γ' : List Md) (mo : Ow) (Dn : Ends) : Fl → DS → Prop
  | .nx env', ds' => ∀ σ' G' H', Same G G' → Good c Γ' G' H' σ' env' ds' → Dn.nx σ' H'
  | .rt d, ds' => ∀ v G' H', ExtA c.lent c.S c.G0 c.H0 G' H' → StOk c.S G' H' ds' → Res' c (.ow mo) c.H0 G' H' d v → Dn.rt v H'
def tGS (c : Ct) (Γ : List Md) (m : MS) (Γ' : List Md) (mo : Ow) : TS := fun Dn σ H => ∃ G env ds, Good c Γ G H σ env ds ∧ Run (m env ds) (OkS c G Γ' mo Dn) (ExcS c)
theorem OkS.up {c : Ct} {G G1 : Hp} {Γ' : List Md} {mo : Ow} {Dn : Ends} {r : Fl} {ds : DS} (e : Same G G1) (h : OkS c G Γ' mo Dn r ds) : OkS c G1 Γ' mo Dn r ds := by
  cases r with
  | nx env => exact fun σ' G' H' s g => h σ' G' H' (e.trans s) g
  | rt d => exact h
theorem run_up {c : Ct} {G G1 : Hp} {Γ' : List Md} {mo : Ow} {Dn : Ends} {r : Res Fl} (e : Same G G1) (h : Run r (OkS c G Γ' mo Dn) (ExcS c)) : Run r (OkS c G1 Γ' mo Dn) (ExcS c) := h.mono (fun _ _ q => q.up e) fun _ _ _ _ q => q
def GS (X : Cx) (c : Ct) (Γ : List Md) (st : Stmt) (m : MS) (Γ' : List Md) (mo : Ow) : Prop := PS X st (tGS c Γ m Γ' mo)
def GSs (X : Cx) (c : Ct) (Γ : List Md) (st : List Stmt) (m : MS) (Γ' : List Md) (mo : Ow) : Prop := PSs X st (tGS c Γ m Γ' mo)
namespace S
def skip : MS := fun env => pure (.nx env)
def seq (a b : MS) : MS := fun env => a env >>= fun r => match r with
  | .nx env' => b env'
  | .rt d => pure (.rt d)
def ret (e : ME) : MS := fun env => e env >>= fun d => pure (.rt d)
def asg (i : Nat) (e : ME) : MS := fun env => e env >>= fun d => pure (.nx (env.set i (.d d)))
def expr (e : ME) : MS := fun env => e env >>= fun _ => pure (.nx env)
def cond (t : MB) (a b : MS) : MS := fun env => t env >>= fun k => if k then a env else b env
end S
section
variable {X : Cx} {c : Ct} {Γ Γ1 Γ2 Γ' : List Md} {p pa pb : Pv} {ma mb : ME} {a b e : Expr} {st : Stmt} {sts : List Stmt} {m m1 m2 : MS} {mo : Ow} {pos : Pos}
/-! ### one after another -/
theorem gs_nil : GSs X c Γ [] S.skip Γ mo := pss_imp pss_nil fun Dn σ H ⟨G, env, ds, g, h⟩ => (show OkS c G Γ mo Dn (.nx env) ds from h) σ G H (Same.refl _) g
theorem gs_cons (h1 : GS X c Γ st m1 Γ1 mo) (h2 : GSs X c Γ1 sts m2 Γ2 mo) : GSs X c Γ (st :: sts) (S.seq m1 m2) Γ2 mo :=
  pss_imp (pss_cons h1 h2) fun Dn σ H ⟨G, env, ds, g, h⟩ => ⟨G, env, ds, g, h.bind.mono (fun r ds1 q => by
    cases r with
    | nx env' => exact fun σ' G' H' sm g' => ⟨G', env', ds1, g', run_up sm q⟩
    | rt d => exact fun v G' H' e' s' r' => (show OkS c G Γ2 mo Dn (.rt d) ds1 from q) v G' H' e' s' r') fun _ _ _ _ q => q⟩
theorem gs_one (h1 : GS X c Γ st m1 Γ1 mo) : GSs X c Γ [st] m1 Γ1 mo := pss_one h1
/-- a slot is frozen ahead of a block -/
theorem gs_frz (i : Nat) (mi : Ow) (hi : Γ[i]? = some (.ow mi)) (h0 : i ≠ 0 ∨ c.lent = []) (h : GSs X c (Γ.set i (.ow .fz)) sts m Γ2 mo) : GSs X c Γ sts m Γ2 mo :=
  pss_imp h fun Dn σ H ⟨G, env, ds, g, q⟩ => by
    obtain ⟨G', g', sm⟩ := g.freeze hi h0
    exact ⟨G', env, ds, g', run_up sm q⟩
/-- a slot is forgotten ahead of a block -/
theorem Good.forget {G H : Hp} {σ : L2.St} {env : List Val} {ds : DS} (g : Good c Γ G H σ env ds) (i : Nat) : Good c (Γ.set i .un) G H σ env ds := by
  by_cases hi : i < Γ.length
  · obtain ⟨ass, s, o⟩ := g.slots
    obtain ⟨l1, l2, l3⟩ := s.len
    have e1 : σ.set i (σ[i]'(by omega)) = σ := by simp
    have e2 : env.set i (env[i]'(by omega)) = env := by simp
    have := g.kill i (σ[i]'(by omega)) (env[i]'(by omega))
    rw [e1, e2] at this
    exact this
  · have e : Γ.set i .un = Γ := List.set_eq_of_length_le (by omega)
    rw [e]
    exact g
theorem gs_forget (i : Nat) (h : GSs X c (Γ.set i .un) sts m Γ2 mo) : GSs X c Γ sts m Γ2 mo :=
  pss_imp h fun Dn σ H ⟨G, env, ds, g, q⟩ => ⟨G, env, ds, g.forget i, q⟩
/-- the modes behind a block weakened -/
theorem gs_post (h : GSs X c Γ sts m Γ1 mo) (k : ∀ {σ : L2.St} {G H : Hp} {env : List Val} {ds : DS}, Good c Γ1 G H σ env ds → ∃ G', Same G G' ∧ Good c Γ2 G' H σ env ds) : GSs X c Γ sts m Γ2 mo :=
  pss_imp h fun Dn σ H ⟨G, env, ds, g, q⟩ => ⟨G, env, ds, g, q.mono (fun r ds1 q => by
    cases r with
    | nx env' => exact fun σ' G' H' sm g' => let ⟨G2, s2, g2⟩ := k g'; (show OkS c G Γ2 mo Dn (.nx env') ds1 from q) σ' G2 H' (sm.trans s2) g2
    | rt d => exact q) fun _ _ _ _ q => q⟩
theorem wk_refl {σ : L2.St} {G H : Hp} {env : List Val} {ds : DS} (g : Good c Γ G H σ env ds) : ∃ G', Same G G' ∧ Good c Γ G' H σ env ds := ⟨G, Same.refl _, g⟩
theorem wk_forget (i : Nat) {σ : L2.St} {G H : Hp} {env : List Val} {ds : DS} (k : ∀ {σ : L2.St} {G H : Hp} {env : List Val} {ds : DS}, Good c (Γ.set i .un) G H σ env ds → ∃ G', Same G G' ∧ Good c Γ2 G' H σ env ds) (g : Good c Γ G H σ env ds) : ∃ G', Same G G' ∧ Good c Γ2 G' H σ env ds := k (g.forget i)
theorem wk_frz (i : Nat) (mi : Ow) (hi : Γ[i]? = some (.ow mi)) (h0 : i ≠ 0 ∨ c.lent = []) {σ : L2.St} {G H : Hp} {env : List Val} {ds : DS} (k : ∀ {σ : L2.St} {G H : Hp} {env : List Val} {ds : DS}, Good c (Γ.set i (.ow .fz)) G H σ env ds → ∃ G', Same G G' ∧ Good c Γ2 G' H σ env ds) (g : Good c Γ G H σ env ds) : ∃ G', Same G G' ∧ Good c Γ2 G' H σ env ds := by
  obtain ⟨G', g', sm⟩ := g.freeze hi h0
  obtain ⟨G2, s2, g2⟩ := k g'
  exact ⟨G2, sm.trans s2, g2⟩
/-! ### statements -/
theorem run_at {G H : Hp} {σ : L2.St} {env : List Val} {ds : DS} {k : D → M Fl} {Q : D → DS → Prop} {Qs : Fl → DS → Prop} (g : Good c Γ G H σ env ds) (h : Run ((ma env >>= k) ds) Qs (ExcS c)) (hk : ∀ d ds1, Run (k d ds1) Qs (ExcS c) → Q d ds1) : Run (ma env ds) Q (ExcQ c G H) :=
  h.bind.mono (fun d ds1 q => hk d ds1 q) fun _ _ _ _ q => q.at g.base
theorem gs_asg {i : Nat} {x : Str} {m : Ow} {pos' : Pos} (hi : i < Γ.length) (hN : X.N.Nodup) (hx : X.N[i]? = some x) (hl : Loc X.env.scope x) (he : GE X c Γ e ma (.ow m)) (hs : swapsWith e (some (.Name x pos')) pos.line X.env = pure false := by rfl) (hf : X.fn x = true ∨ X.env.scope.names.lookup x = some .local := by first | exact .inl rfl | exact .inr rfl | assumption) :
    GS X c Γ (.Assign [.Name x pos'] e pos) (S.asg i ma) (Γ.set i (.ow m)) mo :=
  ps_imp (ps_set hN hx hl he hs hf) fun Dn σ H ⟨G, env, ds, g, h⟩ => ⟨G, env, ds, g, run_at g h fun d ds1 q v G1 H1 e1 s1 r1 => by
    obtain ⟨as, r1⟩ := r1
    exact (show OkS c G (Γ.set i (.ow m)) mo Dn (.nx (env.set i (.d d))) ds1 from q) _ G1 H1 e1.g (g.put e1 s1 hi r1)⟩
theorem gs_expr (he : GE X c Γ e ma p) (hs : swapsWith e none pos.line X.env = pure false := by rfl) : GS X c Γ (.Expr e pos) (S.expr ma) Γ mo :=
  ps_imp (ps_expr he hs) fun Dn σ H ⟨G, env, ds, g, h⟩ => ⟨G, env, ds, g, run_at g h fun d ds1 q v G1 H1 e1 s1 r1 => (show OkS c G Γ mo Dn (.nx env) ds1 from q) σ G1 H1 e1.g (g.ext e1 s1)⟩
theorem gs_ret (he : GE X c Γ e ma (.ow mo)) : GS X c Γ (.Return (some e) pos) (S.ret ma) Γ' mo :=
  ps_imp (ps_ret he) fun Dn σ H ⟨G, env, ds, g, h⟩ => ⟨G, env, ds, g, run_at g h fun d ds1 q v G1 H1 e1 s1 r1 =>
    (show OkS c G Γ' mo Dn (.rt d) ds1 from q) v G1 H1 (g.base.trans e1.more) s1 (r1.wide fun _ z => g.base.free z)⟩
theorem gs_retN : GS X c Γ (.Return none pos) (S.ret (E.cst .non)) Γ' .fz :=
  ps_imp ps_retN fun Dn σ H ⟨G, env, ds, g, h⟩ => (show OkS c G Γ' .fz Dn (.rt .non) ds from h) .non G H g.base g.st (.of_fz (by simp only [Rep]))
/-- an own variable handed back -/
theorem gs_retV {i : Nat} {x : Str} (hi : Γ[i]? = some (.ow mo)) (h0 : i ≠ 0 ∨ c.lent = []) (hN : X.N[i]? = some x) (hv : Vis X.env.scope x) (hd : (x == ("__debug__" : Str)) = false := by decide) (hcd : (x == ("__classdict__" : Str)) = false := by decide) :
    GS X c Γ (.Return (some (.Name x pos)) pos') (S.ret (E.var i)) Γ' mo :=
  ps_imp (ps_ret (pe_var hN hv hd hcd)) fun Dn σ H ⟨G, env, ds, g, h⟩ => by
    obtain ⟨ass, s, o⟩ := g.slots
    obtain ⟨v, d, as, h1, h2, h3, h4⟩ := s.get hi
    unfold S.ret E.var at h
    simp only [h2] at h
    refine ⟨v, h1, (show OkS c G Γ' mo Dn (.rt d) ds from h) v G H g.base g.st ⟨as, h4, ?_, fun a ha => ⟨?_, (o.fr a (mem_flatten_of h3 ha)).1⟩⟩⟩
    · obtain ⟨hj, ej⟩ := List.getElem?_eq_some_iff.mp h3
      have hm : as ∈ ass := List.mem_of_getElem? h3
      exact List.Nodup.sublist (List.sublist_flatten_of_mem hm) o.nd
    · rcases o.en i as h3 a ha with z | ⟨z, z2⟩
      · exact z
      · rcases h0 with h0 | h0
        · exact absurd z h0
        · rw [h0] at z2; simp at z2
theorem gs_if {t : Expr} {A B : List Stmt} {tm : MB} (ht : GT X c Γ t tm) (hA : GSs X c Γ A m1 Γ' mo) (hB : GSs X c Γ B m2 Γ' mo) : GS X c Γ (.If t A B pos) (S.cond tm m1 m2) Γ' mo :=
  ps_imp (ps_if ht hA hB) fun Dn σ H ⟨G, env, ds, g, h⟩ => ⟨G, env, ds, g, h.bind.mono (fun k ds1 q G1 H1 e1 s1 => by
    cases k with
    | true => exact iteT ⟨G1, env, ds1, g.ext e1 s1, run_up e1.g q⟩
    | false => exact iteF ⟨G1, env, ds1, g.ext e1 s1, run_up e1.g q⟩) fun _ _ _ _ q => q.at g.base⟩
end
end Mir
end

set_option maxHeartbeats 200000
section
/-! Targets, what is walked, loops, comprehensions. -/
namespace Mir
open PySem L2
/-! ### targets -/
abbrev Bd := D → List Val → Option (List Val)
def bind1 (i : Nat) : Bd := fun d env => some (env.set i (.d d))
def setAll : List Nat → List D → List Val → Option (List Val)
  | [], [], env => some env
  | i :: is, d :: ds, env => setAll is ds (env.set i (.d d))
  | _, _, _ => none
def bindT (is : List Nat) : Bd := fun d env => match d with
  | .tup ds => setAll is ds env
  | .lst ds => setAll is ds env
  | _ => none
def setMd : List Nat → List Md → List Md
  | [], Γ => Γ
  | i :: is, Γ => setMd is (Γ.set i (.ow .fz))
/-- the slots but those at is are as they were -/
def Only' (is : List Nat) (σ σ' : L2.St) : Prop := σ'.length = σ.length ∧ ∀ j, j ∉ is → σ'[j]? = σ[j]?
/-- the reading of a target -/
def tGTg (c : Ct) (Γ : List Md) (bd : Bd) (is : List Nat) (Γ1 : List Md) : TG := fun x σ H Q => ∃ G env ds d env', Good c Γ G H σ env ds ∧ Rep c.cA G d x ∧ bd d env = some env' ∧ ∀ σ', Only' is σ σ' → Good c Γ1 G H σ' env' ds → Q σ' H
def GTg (X : Cx) (c : Ct) (Γ : List Md) (tg : Expr) (bd : Bd) (is : List Nat) (Γ1 : List Md) : Prop := PG X tg (tGTg c Γ bd is Γ1)
theorem pg_imp {X : Cx} {e : Expr} {t t' : TG} (h : PG X e t) (k : ∀ v σ H Q, t' v σ H Q → t v σ H Q) : PG X e t' := by
  obtain ⟨h⟩ := h
  exact ⟨fun pins s σ H v u Q I r hw => h pins s σ H v u Q I r (k v σ H Q hw)⟩
theorem pgs_imp {X : Cx} {e : List Expr} {t t' : TGs} (h : PGs X e t) (k : ∀ v σ H Q, t' v σ H Q → t v σ H Q) : PGs X e t' := by
  obtain ⟨h⟩ := h
  exact ⟨fun pins s σ H v u Q I r hw => h pins s σ H v u Q I r (k v σ H Q hw)⟩
theorem setAll_len : ∀ {is : List Nat} {dl : List D} {env env' : List Val}, setAll is dl env = some env' → dl.length = is.length
  | [], [], _, _, _ => rfl
  | [], _ :: _, _, _, h => by cases h
  | _ :: _, [], _, _, h => by cases h
  | i :: is, d :: dl, env, env', h => by
    simp only [setAll] at h
    rw [List.length_cons, List.length_cons, setAll_len h]
section
variable {X : Cx} {c : Ct} {Γ Γ1 : List Md} {G H : Hp} {σ : L2.St} {env : List Val} {ds : DS}
theorem Good.putF {i : Nat} {d : D} {v : V} (g : Good c Γ G H σ env ds) (hi : i < Γ.length) (r : Rep c.cA G d v) : Good c (Γ.set i (.ow .fz)) G H (σ.set i (some v)) (env.set i (.d d)) ds :=
  g.put (.refl g.sub) g.st hi (as := []) (by simp only [ResA, RepO]; exact ⟨⟨trivial, r⟩, List.nodup_nil, by simp⟩)
theorem gtg_name {i : Nat} {x : Str} {pos : Pos} (hi : i < Γ.length) (hN : X.N.Nodup) (hx : X.N[i]? = some x) (hl : Loc X.env.scope x) (hf : X.fn x = true ∨ X.env.scope.names.lookup x = some .local := by first | exact .inl rfl | exact .inr rfl | assumption) :
    GTg X c Γ (.Name x pos) (bind1 i) [i] (Γ.set i (.ow .fz)) :=
  pg_imp (pg_name hN hx hl hf) fun v σ H Q ⟨G, env, ds, d, env', g, r, hb, k⟩ => by
    cases hb
    refine k _ ⟨by simp, fun j hj => ?_⟩ (g.putF hi r)
    rw [List.getElem?_set_ne (by simpa using fun e => hj (by simp [e]))]
/-- names in a row -/
def tGTs (c : Ct) (Γ : List Md) (is : List Nat) (Γ1 : List Md) : TGs := fun xs σ H Q => ∃ G env ds dl env', Good c Γ G H σ env ds ∧ RepL c.cA G dl xs ∧ setAll is dl env = some env' ∧ ∀ σ', Only' is σ σ' → Good c Γ1 G H σ' env' ds → Q σ' H
def GTs (X : Cx) (c : Ct) (Γ : List Md) (es : List Expr) (is : List Nat) (Γ1 : List Md) : Prop := PGs X es (tGTs c Γ is Γ1)
theorem gts_nil : GTs X c Γ [] [] Γ := pgs_imp pgs_nil fun xs σ H Q ⟨G, env, ds, dl, env', g, r, hb, k⟩ => by
  cases dl with
  | nil =>
    simp only [RepL] at r
    cases hb
    exact ⟨r, k σ ⟨rfl, fun _ _ => rfl⟩ g⟩
  | cons d dl => cases hb
theorem gts_cons {i : Nat} {is : List Nat} {x : Str} {es : List Expr} {pos : Pos} (hi : i < Γ.length) (hN : X.N.Nodup) (hx : X.N[i]? = some x) (hl : Loc X.env.scope x) (hr : GTs X c (Γ.set i (.ow .fz)) es is Γ1)
    (hf : X.fn x = true ∨ X.env.scope.names.lookup x = some .local := by first | exact .inl rfl | exact .inr rfl | assumption) : GTs X c Γ (.Name x pos :: es) (i :: is) Γ1 := by
  refine pgs_imp (pgs_cons (pg_name hN hx hl hf) hr) fun xs σ H Q ⟨G, env, ds, dl, env', gd, r, hb, kq⟩ => ?_
  cases dl with
  | nil => cases hb
  | cons d dl =>
    simp only [RepL] at r
    obtain ⟨v, w, rfl, r1, r2⟩ := r
    refine ⟨v, w, rfl, G, _, ds, dl, env', gd.putF hi r1, r2, hb, fun σ' o g' => kq σ' ⟨by rw [o.1]; simp, fun j hj => ?_⟩ g'⟩
    rw [o.2 j (fun z => hj (List.mem_cons_of_mem _ z)), List.getElem?_set_ne (fun e => hj (by rw [e]; exact List.mem_cons_self ..))]
theorem pg_or {tg : Expr} {g1 g2 : TG} (h1 : PG X tg g1) (h2 : PG X tg g2) : PG X tg (fun v σ H Q => g1 v σ H Q ∨ g2 v σ H Q) := by
  obtain ⟨h1⟩ := h1
  obtain ⟨h2⟩ := h2
  exact ⟨fun pins s σ H v u Q I r hw => hw.elim (h1 pins s σ H v u Q I r) (h2 pins s σ H v u Q I r)⟩
theorem gtg_tup {es : List Expr} {k n : Nat} {is : List Nat} {pos : Pos} (hc : X.calm = true) (h : GTs X c Γ es is Γ1) (hn0 : n = is.length) (hn : (assignEach es X.env).length = n := by rfl) (hst : (assignEach es X.env).findIdx? (·.1) = none := by rfl) :
    GTg X c Γ (.Tuple es k pos) (bindT is) is Γ1 := by
  refine pg_imp (pg_or (pg_tup (n := n) hc h hn hst) (pg_lst (n := n) hc h hn hst)) fun v σ H Q ⟨G, env, ds, d, env', gd, r, hb, kq⟩ => ?_
  cases d <;> simp only [bindT] at hb <;> try (cases hb; done)
  · simp only [Rep] at r
    obtain ⟨a, vs, rfl, h1, h2⟩ := r
    exact .inr ⟨a, vs, rfl, SqL.of (gd.sub _ _ h1), by rw [h2.length, setAll_len hb, hn0], G, env, ds, _, env', gd, h2, hb, kq⟩
  · simp only [Rep] at r
    obtain ⟨a, vs, rfl, h1, h2⟩ := r
    exact .inl ⟨a, vs, rfl, SqT.of (gd.sub _ _ h1), by rw [h2.length, setAll_len hb, hn0], G, env, ds, _, env', gd, h2, hb, kq⟩
end
/-! ### what is walked -/
/-- lists are not too long -/
def LenOk (H : Hp) : Prop := (∀ a xs, H a = some (.lst xs) → xs.length ≤ sizeLine) ∧ ∀ a xs, H a = some (.tup xs) → xs.length ≤ sizeLine
theorem Inv.lenOk {X : Cx} {pins : List (Addr × Obj)} {σ : L2.St} {H : Hp} {s : Shared} (I : Inv X pins σ H s) : LenOk H :=
  ⟨fun a xs h => (I.hok a _ h).1, fun a xs h => (I.hok a _ h).1⟩
theorem pi_facts {X : Cx} {tg iter : Expr} {wi : TI} (h : PI X tg iter wi) : PI X tg iter (fun σ H R => wi σ H fun J H1 => LenOk H1 → R J H1) :=
  ⟨fun pins s σ H R I hw => wpAny_mono (h.run pins s σ H _ I hw) (fun v s1 q => wpAny_mono q (fun itv s2 ⟨it, fp, tn, J, H', e, I', T, t0, f, r⟩ => ⟨it, fp, tn, J, H', e, I', T, t0, f, r (Inv.lenOk I')⟩) fun _ _ z => z) fun _ _ z => z⟩
theorem pe_facts {X : Cx} {e : Expr} {t : TE} (h : PE X e t) : PE X e (fun σ H Q => t σ H fun v H1 => LenOk H1 → Q v H1) :=
  ⟨fun pins s σ H Q I hw => wpAny_mono (h.run pins s σ H _ I hw) (fun v s1 ⟨u, H', I', r, q⟩ => ⟨u, H', I', r, q (Inv.lenOk I')⟩) fun _ _ z => z⟩
theorem pi_or {X : Cx} {tg iter : Expr} {w1 w2 : TI} (h1 : PI X tg iter w1) (h2 : PI X tg iter w2) : PI X tg iter (fun σ H R => w1 σ H R ∨ w2 σ H R) :=
  ⟨fun pins s σ H R I hw => hw.elim (h1.run pins s σ H R I) (h2.run pins s σ H R I)⟩
/-- an item as it comes: some nodes may be new -/
def ItemOk (c : Ct) (G2 H2 H3 : Hp) (d : D) (x : V) : Prop := ∃ G3, Ext c.S G2 H2 G3 H3 ∧ (∀ ds, StOk c.S G2 H2 ds → StOk c.S G3 H3 ds) ∧ Rep c.cA G3 d x
/-- heaps in which a walk goes on: R G' H' G2 H2 -/
abbrev Rl := Option (Addr × Addr) → Hp → Hp → Hp → Hp → Prop
def RFz : Rl := fun _ G' _ G2 H2 => Same G' G2 ∧ Same G2 H2
def RVw : Rl := fun S G' H' G2 H2 => Ext S G' H' G2 H2
structure WalkOk (c : Ct) (R : Rl) (xs : List D) (G' H' : Hp) (J : It) (Gd : Hp → Prop) (Y : Nat → Hp → V → Hp → Prop) : Prop where
  w : Walk J xs.length Gd Y
  st : ∀ G2 H2, R c.S G' H' G2 H2 → Gd H2
  it : ∀ i G2 H2 x H3, Same G2 H2 → R c.S G' H' G2 H2 → Y i H2 x H3 → ∃ d, xs[i]? = some d ∧ ItemOk c G2 H2 H3 d x
  sz : xs.length ≤ sizeLine
def OkI (c : Ct) (R : Rl) (G H : Hp) (K : It → Hp → Prop) : List D → DS → Prop := fun xs ds' => ∀ G' H' J Gd Y, Ext c.S G H G' H' → StOk c.S G' H' ds' → WalkOk c R xs G' H' J Gd Y → K J H'
def tGI (c : Ct) (R : Rl) (Γ : List Md) (m : MI) : TI := fun σ H K => ∃ G env ds, Good c Γ G H σ env ds ∧ Run (m env ds) (OkI c R G H K) (ExcQ c G H)
def GI (X : Cx) (c : Ct) (R : Rl) (Γ : List Md) (tg iter : Expr) (m : MI) : Prop := PI X tg iter (tGI c R Γ m)
theorem pi_imp {X : Cx} {tg iter : Expr} {w w' : TI} (h : PI X tg iter w) (k : ∀ σ H K, w' σ H K → w σ H K) : PI X tg iter w' := ⟨fun pins s σ H K I hw => h.run pins s σ H K I (k σ H K hw)⟩
theorem gi_vw {X : Cx} {c : Ct} {Γ : List Md} {tg iter : Expr} {m : MI} (h : GI X c RFz Γ tg iter m) : GI X c RVw Γ tg iter m :=
  pi_imp h fun σ H K ⟨G, env, ds, g, r⟩ => ⟨G, env, ds, g, r.mono (fun xs ds' q G' H' J Gd Y e s w => q G' H' J Gd Y e s ⟨w.w, fun G2 H2 (z : Ext _ _ _ _ _) => w.st G2 H2 ⟨z.g, z.sub⟩, fun i G2 H2 x H3 z e => w.it i G2 H2 x H3 z ⟨(show Ext _ _ _ _ _ from e).g, z⟩, w.sz⟩) fun _ _ _ _ q => q⟩
end Mir
end

set_option maxHeartbeats 200000
section
/-! What is walked. -/
namespace Mir
open PySem L2
namespace D
def items : D → Option (List D)
  | .lst xs => some xs
  | .tup xs => some xs
  | _ => none
def rng (lo : Int) (n : Nat) : List D := (List.range n).map fun i => .int (lo + (i : Nat))
def smallI (j : Int) : Bool := decide (-(2 ^ 62) ≤ j) && decide (j < 2 ^ 62)
def range1 : D → Option (List D)
  | .int j => if smallI j && decide (j.toNat ≤ sizeLine) then some (rng 0 j.toNat) else none
  | _ => none
def range2 : D → D → Option (List D)
  | .int i, .int j => if smallI i && smallI j && decide ((j - i).toNat ≤ sizeLine) then some (rng i (j - i).toNat) else none
  | _, _ => none
def enum : D → Option (List D)
  | .lst xs => some (xs.mapIdx fun i x => .tup [.int (i : Nat), x])
  | _ => none
def zip : D → D → Option (List D)
  | .lst xs, .lst ys => some (List.zipWith (fun x y => .tup [x, y]) xs ys)
  | .tup xs, .tup ys => some (List.zipWith (fun x y => .tup [x, y]) xs ys)
  | _, _ => none
end D
namespace E
def it1 (f : D → Option (List D)) (a : ME) : MI := fun env => a env >>= fun x => M.lift (f x)
def it2 (f : D → D → Option (List D)) (a b : ME) : MI := fun env => a env >>= fun x => b env >>= fun y => M.lift (f x y)
end E
section
variable {X : Cx} {c : Ct} {Γ : List Md} {p pa pb : Pv} {ma mb : ME} {a b e e2 tg : Expr} {pos p1 : Pos} {R : Rl}
theorem runI {k : D → M (List D)} {G H : Hp} {σ : L2.St} {env : List Val} {ds : DS} {K : It → Hp → Prop} {r : VK} (g : Good c Γ G H σ env ds) (h : Run ((ma env >>= k) ds) (OkI c R G H K) (ExcQ c G H))
    (hk : ∀ dx ds1 x G1 H1, Ext c.S G H G1 H1 → StOk c.S G1 H1 ds1 → Good c Γ G1 H1 σ env ds1 → Res' c pa H G1 H1 dx x → Run (k dx ds1) (OkI c R G H K) (ExcQ c G H) → r x H1) : tGE c Γ ma pa σ H r :=
  ⟨G, env, ds, g, h.bind.mono (fun dx ds1 h1 x G1 H1 e1 s1 r1 => hk dx ds1 x G1 H1 e1 s1 (g.ext e1 s1) r1 h1) fun _ _ _ _ q => q⟩
theorem runIx {G H G1 H1 : Hp} {r : Res (List D)} {K : It → Hp → Prop} (e : Ext c.S G H G1 H1) (h : Run r (OkI c R G H K) (ExcQ c G H)) : Run r (OkI c R G1 H1 K) (ExcQ c G1 H1) :=
  h.mono (fun xs ds q G' H' J Gd Y e' s' w => q G' H' J Gd Y (e.trans e') s' w) fun _ _ _ _ q => q.ext e
theorem item_same {G H : Hp} {d : D} {x : V} (sub : Same G H) (r : Rep c.cA G d x) : ItemOk c G H H d x := ⟨G, .refl sub, fun _ s => s, r⟩
/-- a list walked -/
theorem walk_lst {G' H' : Hp} {l : Addr} {xs : List D} {vs : List V} (h : H' l = some (.lst vs)) (r : RepL c.cA G' xs vs) (sz : vs.length ≤ sizeLine) (hR : ∀ G2 H2, R c.S G' H' G2 H2 → H2 l = some (.lst vs) ∧ Same G' G2) : WalkOk c R xs G' H' (Itl X.K l) (fun H => SqL X.K H l vs) (YAt vs) := by
  have hl := r.length
  refine ⟨by rw [← hl]; exact walk_list, fun G2 H2 z => SqL.of (hR G2 H2 z).1, fun i G2 H2 x H3 sub z y => ?_, by rw [← hl]; exact sz⟩
  obtain ⟨e1, e2⟩ := y
  subst e1
  obtain ⟨d, q1, q2⟩ := r.getV e2
  exact ⟨d, q1, item_same sub (q2.mono (hR G2 _ z).2)⟩
theorem walk_tpl {G' H' : Hp} {l : Addr} {xs : List D} {vs : List V} (h : H' l = some (.tup vs)) (r : RepL c.cA G' xs vs) (sz : vs.length ≤ sizeLine) (hR : ∀ G2 H2, R c.S G' H' G2 H2 → H2 l = some (.tup vs) ∧ Same G' G2) : WalkOk c R xs G' H' (Itt X.K l) (fun H => SqT X.K H l vs) (YAt vs) := by
  have hl := r.length
  refine ⟨by rw [← hl]; exact walk_tup, fun G2 H2 z => SqT.of (hR G2 H2 z).1, fun i G2 H2 x H3 sub z y => ?_, by rw [← hl]; exact sz⟩
  obtain ⟨e1, e2⟩ := y
  subst e1
  obtain ⟨d, q1, q2⟩ := r.getV e2
  exact ⟨d, q1, item_same sub (q2.mono (hR G2 _ z).2)⟩
/-- a list or a tuple, frozen -/
theorem gi_of (ha : GE X c Γ e ma fz) : GI X c RFz Γ tg e (E.it1 D.items ma) := by
  refine pi_imp (pi_facts (pi_or (pi_list (tg := tg) ha) (pi_tup ha))) fun σ H K ⟨G, env, ds, g, h⟩ => ?_
  have hb := h.bind
  cases hm : ma env ds with
  | stuck => rw [hm] at hb; exact hb.elim
  | exc cn ns vs ds1 => exact .inl ⟨G, env, ds, g, by rw [hm] at hb ⊢; exact hb⟩
  | ok d ds1 =>
    rw [hm] at hb
    obtain ⟨xs, hx, q⟩ := Run.lift hb
    cases d <;> simp only [D.items] at hx <;> try (cases hx; done)
    · cases hx
      refine .inl ⟨G, env, ds, g, ?_⟩
      rw [hm]
      intro v G1 H1 e1 s1 r1
      have r1 := r1.fz
      simp only [Rep] at r1
      obtain ⟨l, vs, rfl, h1, h2⟩ := r1
      have hl := e1.sub _ _ h1
      refine ⟨l, rfl, ⟨vs, SqL.of hl⟩, fun lo => ?_⟩
      exact q G1 H1 _ _ _ e1 s1 (walk_lst hl h2 (lo.1 _ _ hl) fun G2 H2 z => ⟨z.2 _ _ (z.1 _ _ h1), z.1⟩)
    · cases hx
      refine .inr ⟨G, env, ds, g, ?_⟩
      rw [hm]
      intro v G1 H1 e1 s1 r1
      have r1 := r1.fz
      simp only [Rep] at r1
      obtain ⟨l, vs, rfl, h1, h2⟩ := r1
      have hl := e1.sub _ _ h1
      refine ⟨l, rfl, ⟨vs, SqT.of hl⟩, fun lo => ?_⟩
      exact q G1 H1 _ _ _ e1 s1 (walk_tpl hl h2 (lo.2 _ _ hl) fun G2 H2 z => ⟨z.2 _ _ (z.1 _ _ h1), z.1⟩)
/-- an own list of frozen parts, left as it is meanwhile -/
theorem gi_ofV (ha : GE X c Γ e ma (.vw (.lst .fz))) : GI X c RVw Γ tg e (E.it1 D.items ma) := by
  refine pi_imp (pi_facts (pi_list (tg := tg) ha)) fun σ H K ⟨G, env, ds, g, h⟩ => runI g h fun dx ds1 x G1 H1 e1 s1 g1 r1 h1 => ?_
  obtain ⟨xs, hx, q⟩ := Run.lift h1
  obtain ⟨as, r1, r2⟩ := r1
  simp only [RepO] at r1
  obtain ⟨l, ys, vs, r, rfl, rfl, rfl, k1, k2⟩ := r1
  simp only [D.items] at hx
  cases hx
  refine ⟨l, rfl, ⟨vs, SqL.of k1⟩, fun lo => q G1 H1 _ _ _ e1 s1 (walk_lst k1 (allO_fz' (H := H1) k2).2 (lo.1 _ _ k1) fun G2 H2 z => ⟨?_, (show Ext _ _ _ _ _ from z).g⟩)⟩
  exact (show Ext _ _ _ _ _ from z).h l _ (r2 l (by simp)).1 (by simp) k1
/-- a fresh list of frozen parts -/
theorem gi_ofO (ha : GE X c Γ e ma (.ow (.lst .fz))) : GI X c RFz Γ tg e (E.it1 D.items ma) := gi_of (ge_fz ha)
/-- ranges -/
theorem rng_get {lo : Int} {n i : Nat} (h : i < n) : (D.rng lo n)[i]? = some (.int (lo + (i : Nat))) := by simp [D.rng, h]
theorem rng_len {lo : Int} {n : Nat} : (D.rng lo n).length = n := by simp [D.rng]
theorem walk_rng {lo : Int} {n : Nat} {G' H' : Hp} (sz : n ≤ sizeLine) : WalkOk c R (D.rng lo n) G' H' (Itr lo n) (fun _ => True) (fun i H x H2 => i < n ∧ H2 = H ∧ x = .int (lo + (i : Nat))) :=
  ⟨by rw [rng_len]; exact ⟨fun i H hi _ => hi, fun H _ => Nat.le_refl _, fun i H x H' hi _ y => ⟨hi, y.1, y.2⟩⟩, fun _ _ _ => trivial, fun i G2 H2 x H3 sub z y => ⟨_, rng_get y.1, by
    obtain ⟨_, rfl, rfl⟩ := y
    exact item_same sub (by simp only [Rep])⟩, by rw [rng_len]; exact sz⟩
theorem gi_range1 (hg : Gl X "range") (hm : X.mg "range" = none) (ha : GE X c Γ a ma fz) (hs : starEach [a] X.env = [(false, eval a X.env)] := by rfl) : GI X c RFz Γ tg (.Call (.Name "range" p1) [a] [] pos) (E.it1 D.range1 ma) := by
  refine pi_imp (pi_range1 (tg := tg) hg hm (pa_cons ha pa_nil hs) hs) fun σ H K ⟨G, env, ds, g, h⟩ => runI g h fun dx ds1 x G1 H1 e1 s1 g1 r1 h1 => ?_
  obtain ⟨xs, hx, q⟩ := Run.lift h1
  cases dx <;> simp only [D.range1] at hx <;> try (cases hx; done)
  rename_i j
  split at hx
  · rename_i hc
    cases hx
    have r1 := r1.fz
    simp only [Rep] at r1
    simp only [D.smallI, Bool.and_eq_true, decide_eq_true_eq] at hc
    exact ⟨j, by rw [r1], hc.1.1, hc.1.2, q G1 H1 _ _ _ e1 s1 (walk_rng hc.2)⟩
  · cases hx
theorem runI2 {k : D → D → M (List D)} {G H : Hp} {σ : L2.St} {env : List Val} {ds : DS} {K : It → Hp → Prop} {r : V → V → Hp → Prop} (g : Good c Γ G H σ env ds) (h : Run ((ma env >>= fun x => mb env >>= fun y => k x y) ds) (OkI c R G H K) (ExcQ c G H))
    (hk : ∀ dx dy ds2 x y G2 H2, Ext c.S G H G2 H2 → StOk c.S G2 H2 ds2 → Good c Γ G2 H2 σ env ds2 → Rep c.cA G2 dx x → Rep c.cA G2 dy y → Run (k dx dy ds2) (OkI c R G H K) (ExcQ c G H) → r x y H2) :
    tGE c Γ ma fz σ H fun x H1 => tGE c Γ mb fz σ H1 fun y H2 => r x y H2 :=
  runI g h fun dx ds1 x G1 H1 e1 s1 g1 r1 h1 => ⟨G1, env, ds1, g1, h1.bind.mono (fun dy ds2 h2 y G2 H2 e2 s2 r2 => hk dx dy ds2 x y G2 H2 (e1.trans e2) s2 (g1.ext e2 s2) (r1.fz.mono e2.g) r2.fz h2) fun _ _ _ _ q => q.ext e1⟩
theorem gi_range2 (hg : Gl X "range") (hm : X.mg "range" = none) (ha : GE X c Γ a ma fz) (hb : GE X c Γ b mb fz) (hs : starEach [a, b] X.env = [(false, eval a X.env), (false, eval b X.env)] := by rfl) (hs2 : starEach [b] X.env = [(false, eval b X.env)] := by rfl)
    (hs3 : starEach [a, b] X.env = (false, eval a X.env) :: starEach [b] X.env := by rfl) (hs4 : starEach [b] X.env = (false, eval b X.env) :: starEach [] X.env := by rfl) :
    GI X c RFz Γ tg (.Call (.Name "range" p1) [a, b] [] pos) (E.it2 D.range2 ma mb) := by
  refine pi_imp (pi_range2 (tg := tg) hg hm (pa_cons ha (pa_cons hb pa_nil hs4) hs3) hs hs2) fun σ H K ⟨G, env, ds, g, h⟩ => runI2 g h fun dx dy ds2 x y G2 H2 e s g2 r1 r2 h2 => ?_
  obtain ⟨xs, hx, q⟩ := Run.lift h2
  cases dx <;> cases dy <;> simp only [D.range2] at hx <;> try (cases hx; done)
  rename_i i j
  split at hx
  · rename_i hc
    cases hx
    simp only [Rep] at r1 r2
    simp only [D.smallI, Bool.and_eq_true, decide_eq_true_eq] at hc
    exact ⟨i, j, by rw [r1, r2], ⟨hc.1.1.1, hc.1.1.2, hc.1.2.1, hc.1.2.2⟩, q G2 H2 _ _ _ e s (walk_rng hc.2)⟩
  · cases hx
/-- a new pair -/
theorem item_pair {G H : Hp} {T : Addr} {d1 d2 : D} {x y : V} (sub : Same G H) (hT : H T = none) (r1 : Rep c.cA G d1 x) (r2 : Rep c.cA G d2 y) : ItemOk c G H (upd H T (.tup [x, y])) (.tup [d1, d2]) (.ref T) := by
  have e0 := Ext.laid (S := c.S) sub hT (.tup [x, y])
  have sm : Same G (frz G (upd H T (.tup [x, y])) [T]) := frz_same e0.sub
  refine ⟨frz G (upd H T (.tup [x, y])) [T], ⟨sm, e0.h, e0.s, fun a o q => ?_, frz_sub e0.sub⟩, fun ds st => ?_, ?_⟩
  · by_cases ha : a ∈ [T]
    · simp only [List.mem_singleton] at ha
      rw [ha]
      exact .inr hT
    · rw [frz_out ha] at q
      exact .inl q
  · have st' := st.laid hT (.tup [x, y])
    refine st'.at (fun a ha => frz_out fun z => ?_) fun _ _ => rfl
    simp only [List.mem_singleton] at z
    obtain ⟨o, q⟩ := st.there ha
    rw [z, hT] at q
    cases q
  · simp only [Rep]
    refine ⟨T, [x, y], rfl, by rw [frz_in (by simp), upd_same], ?_⟩
    exact .cons (r1.mono sm) (.cons (r2.mono sm) RepL.nil)
theorem gi_enum {elts : List Expr} {kk : Nat} {tpos : Pos} (hg : Gl X "enumerate") (hm : X.mg "enumerate" = none) (ha : GE X c Γ e ma fz) (hs : starEach [e] X.env = [(false, eval e X.env)] := by rfl) :
    GI X c RFz Γ (.Tuple elts kk tpos) (.Call (.Name "enumerate" p1) [e] [] pos) (E.it1 D.enum ma) := by
  refine pi_imp (pi_facts (pi_enum (elts := elts) (kk := kk) (tpos := tpos) hg hm (pa_cons ha pa_nil hs) hs)) fun σ H K ⟨G, env, ds, g, h⟩ => runI g h fun dx ds1 x G1 H1 e1 s1 g1 r1 h1 => ?_
  obtain ⟨xs, hx, q⟩ := Run.lift h1
  cases dx <;> simp only [D.enum] at hx <;> try (cases hx; done)
  rename_i ys
  cases hx
  have r1 := r1.fz
  simp only [Rep] at r1
  obtain ⟨l, vs, rfl, k1, k2⟩ := r1
  have hl := e1.sub _ _ k1
  have ll := k2.length
  refine ⟨l, vs, rfl, SqL.of hl, fun lo => q G1 H1 _ _ _ e1 s1 ⟨(by rw [List.length_mapIdx, ← ll]; exact walk_enum : Walk (Ite X.K l) _ (fun H => SqL X.K H l vs) _), fun G2 H2 z => SqL.of (z.2 _ _ (z.1 _ _ k1)), fun i G2 H2 x H3 sub z y => ?_, by rw [List.length_mapIdx, ← ll]; exact lo.1 _ _ hl⟩⟩
  obtain ⟨T, x1, x2, rfl, hT, rfl, f1, f2⟩ := y
  obtain ⟨d, q1, q2⟩ := k2.getV f2
  cases f1
  exact ⟨_, by rw [List.getElem?_mapIdx, q1]; rfl, item_pair sub hT (by simp only [Rep]) (q2.mono z.1)⟩
theorem walk_zipT {K : PySem.W.Frag} {a b : Addr} {xs ys : List V} {n : Nat} (hn : n = min xs.length ys.length) : Walk (RZ.ItzT K a b) n (fun H => SqT K H a xs ∧ SqT K H b ys) (YPair (fun i => xs[i]?) (fun i => ys[i]?)) where
  goes i _ lt r := ⟨xs, ys, xs[i]'(by omega), ys[i]'(by omega), r.1, r.2, List.getElem?_eq_getElem _, List.getElem?_eq_getElem _⟩
  stops _ r := ⟨xs, ys, r.1, r.2, by omega⟩
  yields i H v H' _ r y := by
    obtain ⟨p, u1, u2, w1, w2, w3, w4, w5⟩ := y
    exact ⟨p, u1, u2, w1, w2, w3, w4 xs r.1, w5 ys r.2⟩
theorem gi_zip {elts : List Expr} {kk : Nat} {tpos : Pos} (hg : Gl X "zip") (hm : X.mg "zip" = none) (ha : GE X c Γ e ma fz) (hb : GE X c Γ e2 mb fz) (hs : starEach [e, e2] X.env = (false, eval e X.env) :: starEach [e2] X.env := by rfl)
    (hs4 : starEach [e2] X.env = (false, eval e2 X.env) :: starEach [] X.env := by rfl) (hpl : (backTo pos (starEach [e2] X.env)).any (·.1) = false := by rfl) :
    GI X c RFz Γ (.Tuple elts kk tpos) (.Call (.Name "zip" p1) [e, e2] [] pos) (E.it2 D.zip ma mb) := by
  refine pi_imp (pi_facts (RZ.pi_zipA (elts := elts) (kk := kk) (tpos := tpos) hg hm (pa_cons ha (pa_cons hb pa_nil hs4) hs) hs hpl)) fun σ H K ⟨G, env, ds, g, h⟩ => runI2 g h fun dx dy ds2 x y G2 H2 e s g2 r1 r2 h2 => ?_
  obtain ⟨zs, hx, q⟩ := Run.lift h2
  cases dx <;> cases dy <;> simp only [D.zip] at hx <;> try (cases hx; done)
  · rename_i xs ys
    cases hx
    simp only [Rep] at r1 r2
    obtain ⟨l, vs, rfl, k1, k2⟩ := r1
    obtain ⟨m, ws, rfl, n1, n2⟩ := r2
    have hl := e.sub _ _ k1
    have hn := e.sub _ _ n1
    have ll := k2.length
    have ln := n2.length
    refine ⟨l, m, vs, ws, rfl, .inl ⟨SqL.of hl, SqL.of hn, fun lo => q G2 H2 _ _ _ e s ⟨(walk_zip (by rw [List.length_zipWith, ll, ln]) : Walk (Itz X.K l m) _ (fun H => SqL X.K H l vs ∧ SqL X.K H m ws) _), fun G3 H3 z => ⟨SqL.of (z.2 _ _ (z.1 _ _ k1)), SqL.of (z.2 _ _ (z.1 _ _ n1))⟩, fun i G3 H3 x H4 sub z y => ?_, ?_⟩⟩⟩
    · obtain ⟨T, x1, x2, rfl, hT, rfl, f1, f2⟩ := y
      obtain ⟨d1, q1, q2⟩ := k2.getV f1
      obtain ⟨d2, q3, q4⟩ := n2.getV f2
      exact ⟨_, by rw [List.getElem?_zipWith, q1, q3], item_pair sub hT (q2.mono z.1) (q4.mono z.1)⟩
    · have := lo.1 _ _ hl
      rw [List.length_zipWith, ← ll]
      omega
  · rename_i xs ys
    cases hx
    simp only [Rep] at r1 r2
    obtain ⟨l, vs, rfl, k1, k2⟩ := r1
    obtain ⟨m, ws, rfl, n1, n2⟩ := r2
    have hl := e.sub _ _ k1
    have hn := e.sub _ _ n1
    have ll := k2.length
    have ln := n2.length
    refine ⟨l, m, vs, ws, rfl, .inr ⟨SqT.of hl, SqT.of hn, fun lo => q G2 H2 _ _ _ e s ⟨(walk_zipT (by rw [List.length_zipWith, ll, ln]) : Walk (RZ.ItzT X.K l m) _ (fun H => SqT X.K H l vs ∧ SqT X.K H m ws) _), fun G3 H3 z => ⟨SqT.of (z.2 _ _ (z.1 _ _ k1)), SqT.of (z.2 _ _ (z.1 _ _ n1))⟩, fun i G3 H3 x H4 sub z y => ?_, ?_⟩⟩⟩
    · obtain ⟨T, x1, x2, rfl, hT, rfl, f1, f2⟩ := y
      obtain ⟨d1, q1, q2⟩ := k2.getV f1
      obtain ⟨d2, q3, q4⟩ := n2.getV f2
      exact ⟨_, by rw [List.getElem?_zipWith, q1, q3], item_pair sub hT (q2.mono z.1) (q4.mono z.1)⟩
    · have := lo.2 _ _ hl
      rw [List.length_zipWith, ← ll]
      omega
end
end Mir
end

set_option maxHeartbeats 200000
section
/-! Loops and comprehensions. -/
namespace Mir
open PySem L2
namespace S
def forL (bd : Bd) (body : MS) : List D → MS
  | [], env => pure (.nx env)
  | x :: xs, env => M.lift (bd x env) >>= fun env1 => body env1 >>= fun r => match r with
    | .nx env2 => forL bd body xs env2
    | .rt d => pure (.rt d)
def for_ (it : MI) (bd : Bd) (body : MS) : MS := fun env => it env >>= fun xs => forL bd body xs env
def whileN (t : MB) (b : MS) : Nat → MS
  | 0, _ => M.stuck
  | n + 1, env => t env >>= fun k => if k then b env >>= fun r => match r with
    | .nx env2 => whileN t b n env2
    | .rt d => pure (.rt d)
    else pure (.nx env)
open Classical in
/-- a while, if it ends -/
noncomputable def while_ (t : MB) (b : MS) : MS := fun env ds => if h : ∃ n, whileN t b n env ds ≠ .stuck then whileN t b (Classical.choose h) env ds else .stuck
end S
namespace E
def compL (bd : Bd) (t : MB) (e : ME) : List D → List Val → M (List D)
  | [], _ => pure []
  | x :: xs, env => M.lift (bd x env) >>= fun env1 => M.nox (t env1) >>= fun k => if k then M.nox (e env1) >>= fun y => compL bd t e xs env >>= fun ys => pure (y :: ys) else compL bd t e xs env
def comp (it : MI) (bd : Bd) (t : MB) (e : ME) : ME := fun env => it env >>= fun xs => compL bd t e xs env >>= fun ys => pure (.lst ys)
def yes : MB := fun _ => pure true
end E
section
variable {X : Cx} {c : Ct} {Γ Γ1 : List Md} {tg iter : Expr} {body : List Stmt} {mi : MI} {bd : Bd} {is : List Nat} {mb : MS} {mo : Ow} {pos : Pos}
theorem gs_for (hp : PassesOwn (model X.prog X.w) X.A X.env X.xe) (hc : X.calm = true) (hi : GI X c RFz Γ tg iter mi) (hg : GTg X c Γ tg bd is Γ1) (hb : GSs X c Γ1 body mb Γ mo)
    (hs : ∀ x, foldedSetIterable iter X.env x = pure x := by intro _; rfl) : GS X c Γ (.For tg iter body [] pos) (S.for_ mi bd mb) Γ mo := by
  refine ps_imp (ps_for hp hc hi hg hb hs) fun Dn σ H ⟨G, env, ds, gd, h⟩ => ?_
  refine ⟨G, env, ds, gd, h.bind.mono (fun xs ds1 h1 G1 H1 J Gd Y e1 s1 w => ?_) fun _ _ _ _ q => q.at gd.base⟩
  refine for_it w.w (fun i σ' H' => ∃ G' env' ds', Same G1 G' ∧ Good c Γ G' H' σ' env' ds' ∧ Run (S.forL bd mb (xs.drop i) env' ds') (OkS c G1 Γ mo Dn) (ExcS c))
    ⟨G1, env, ds1, Same.refl _, gd.ext e1 s1, by simpa using run_up e1.g h1⟩ (fun i σ' H' _ ⟨G', env', ds', sm, g', _⟩ => w.st G' H' ⟨sm, g'.sub⟩) (fun i x σ' H2 H3 hi ⟨G', env', ds', sm, g', h'⟩ y => ?_) (fun σ' H' ⟨G', env', ds', sm, g', h'⟩ => ?_)
  · obtain ⟨d, hd, G3, e3, s3, r3⟩ := w.it i G' H2 x H3 g'.sub ⟨sm, g'.sub⟩ y
    rw [List.drop_eq_getElem_cons hi] at h'
    have ed : xs[i] = d := by
      rw [List.getElem?_eq_getElem hi] at hd
      exact Option.some.inj hd
    rw [ed] at h'
    obtain ⟨env1, hb1, h2⟩ := Run.lift h'.bind
    have g3 := g'.ext e3 (s3 ds' g'.st)
    refine ⟨G3, env', ds', d, env1, g3, r3, hb1, fun σ2 _ g4 => ?_⟩
    refine ⟨G3, env1, ds', g4, h2.bind.mono (fun r ds2 q => ?_) fun _ _ _ _ q => q⟩
    cases r with
    | nx env2 => exact fun σ5 G5 H5 sm5 g5 => ⟨G5, env2, ds2, sm.trans (e3.g.trans sm5), g5, q⟩
    | rt d => exact fun v G5 H5 e5 s5 r5 => (show OkS c G1 Γ mo Dn (.rt d) ds2 from q) v G5 H5 e5 s5 r5
  · rw [List.drop_length] at h'
    exact (show OkS c G1 Γ mo Dn (.nx env') ds' from h') σ' G' H' sm g'
theorem while_run {t : MB} {b : MS} {env : List Val} {ds : DS} {Q : Fl → DS → Prop} {E : Str → List Str → List D → DS → Prop} (h : Run (S.while_ t b env ds) Q E) : ∃ n, Run (S.whileN t b n env ds) Q E := by
  unfold S.while_ at h
  split at h
  · rename_i hn
    exact ⟨_, h⟩
  · exact h.elim
theorem gs_while {cnd : Expr} {t : MB} (hp : PassesOwn (model X.prog X.w) X.A X.env X.xe) (ht : GT X c Γ cnd t) (hb : GSs X c Γ body mb Γ mo) : GS X c Γ (.While cnd body [] pos) (S.while_ t mb) Γ mo := by
  refine ps_imp (ps_while hp ht hb) fun Dn σ H ⟨G, env, ds, gd, h⟩ => ?_
  obtain ⟨n, h⟩ := while_run h
  refine ⟨fun m σ' H' => ∃ G' env' ds', Same G G' ∧ Good c Γ G' H' σ' env' ds' ∧ Run (S.whileN t mb m env' ds') (OkS c G Γ mo Dn) (ExcS c), ⟨n, G, env, ds, Same.refl _, gd, h⟩, fun m σ' H' ⟨G', env', ds', sm, g', h'⟩ => ?_⟩
  cases m with
  | zero => exact h'.elim
  | succ m =>
    refine ⟨G', env', ds', g', h'.bind.mono (fun k ds1 q G1 H1 e1 s1 => ?_) fun _ _ _ _ q => q.at g'.base⟩
    cases k with
    | true =>
      refine iteT ⟨fun σ2 H2 => ∃ G2 env2 ds2, Same G G2 ∧ Good c Γ G2 H2 σ2 env2 ds2 ∧ Run (S.whileN t mb m env2 ds2) (OkS c G Γ mo Dn) (ExcS c), fun σ2 H2 z => ⟨m, Nat.lt_succ_self _, z⟩, ?_⟩
      refine ⟨G1, env', ds1, g'.ext e1 s1, (Run.bind q).mono (fun r ds2 q2 => ?_) fun _ _ _ _ q => q⟩
      cases r with
      | nx env2 => exact fun σ5 G5 H5 sm5 g5 => ⟨G5, env2, ds2, sm.trans (e1.g.trans sm5), g5, q2⟩
      | rt d => exact fun v G5 H5 e5 s5 r5 => (show OkS c G Γ mo Dn (.rt d) ds2 from q2) v G5 H5 e5 s5 r5
    | false => exact iteF ((show OkS c G Γ mo Dn (.nx env') ds1 from q) σ' G1 H1 (sm.trans e1.g) (g'.ext e1 s1))
/-! ### comprehensions -/
/-- the same where no exception is awaited -/
abbrev Ct.nox (c : Ct) : Ct := { c with E := fun _ _ _ => False }
theorem Slots.nox {Γ : List Md} {G H : Hp} {σ : L2.St} {env : List Val} {ass : List (List Addr)} (s : Slots c G H Γ σ env ass) : Slots c.nox G H Γ σ env ass := by
  induction s with
  | nil => exact .nil
  | un x e s ih => exact .un x e ih
  | ow r s ih => exact .ow r ih
  | fn f s ih => exact .fn f ih
  | st f s ih => exact .st f ih
theorem Good.nox {Γ : List Md} {G H : Hp} {σ : L2.St} {env : List Val} {ds : DS} (g : Good c Γ G H σ env ds) : Good c.nox Γ G H σ env ds := by
  obtain ⟨ass, s, o⟩ := g.slots
  exact ⟨g.sub, g.st, g.base, ass, s.nox, o.nd, o.fr, o.en⟩
def killMd : List Nat → List Md → List Md
  | [], Γ => Γ
  | v :: vs, Γ => (killMd vs Γ).set v .un
theorem Good.wipe {Γ : List Md} {G H : Hp} {σ : L2.St} {env : List Val} {ds : DS} (g : Good c Γ G H σ env ds) : ∀ vs : List Nat, Good c (killMd vs Γ) G H (L2.wipe σ vs) env ds
  | [] => g
  | v :: vs => by
    have g' := g.wipe vs
    by_cases hv : v < env.length
    · have e2 : env.set v env[v] = env := by simp
      have := g'.kill v none env[v]
      rw [e2] at this
      exact this
    · have e2 : env.set v .un = env := List.set_eq_of_length_le (by omega)
      have := g'.kill v none .un
      rw [e2] at this
      exact this
theorem wipe_at_in {j : Nat} {τ : L2.St} : ∀ {vs : List Nat}, j ∈ vs → (L2.wipe τ vs)[j]? = if j < τ.length then some none else none
  | [], h => by simp at h
  | v :: vs, h => by
    show ((L2.wipe τ vs).set v none)[j]? = _
    by_cases e : v = j
    · subst e
      by_cases hv : v < τ.length
      · rw [List.getElem?_set_self (by rw [wipe_length]; exact hv), if_pos hv]
      · rw [List.getElem?_eq_none (by rw [List.length_set, wipe_length]; omega), if_neg hv]
    · rw [List.getElem?_set_ne e]
      rcases List.mem_cons.mp h with z | z
      · exact absurd z.symm e
      · exact wipe_at_in z
theorem wipe_at_out {j : Nat} {τ : L2.St} : ∀ {vs : List Nat}, j ∉ vs → (L2.wipe τ vs)[j]? = τ[j]?
  | [], h => rfl
  | v :: vs, h => by
    show ((L2.wipe τ vs).set v none)[j]? = _
    rw [List.getElem?_set_ne (fun e => h (by simp [e]))]
    exact wipe_at_out fun z => h (List.mem_cons_of_mem _ z)
theorem wipe_get {vs : List Nat} {σ σ' : L2.St} (hl : σ'.length = σ.length) (h : ∀ j, j ∉ vs → σ'[j]? = σ[j]?) : L2.wipe σ' vs = L2.wipe σ vs := by
  apply List.ext_getElem?
  intro j
  by_cases hj : j ∈ vs
  · rw [wipe_at_in hj, wipe_at_in hj, hl]
  · rw [wipe_at_out hj, wipe_at_out hj, h j hj]
theorem wipe_twice {vs : List Nat} {σ σ2 : L2.St} {is : List Nat} (o : Only' is (L2.wipe σ vs) σ2) (hs : ∀ i ∈ is, i ∈ vs) : L2.wipe σ2 vs = L2.wipe σ vs :=
  wipe_get (by rw [o.1, wipe_length]) fun j hj => by rw [o.2 j fun z => hj (hs j z), wipe_at_out hj]
theorem Ext.updNew {S : Option (Addr × Addr)} {G H G' H' : Hp} (e : Ext S G H G' H') {a : Addr} (h1 : H a = none) (h2 : G' a = none) (o : HO) : Ext S G H G' (upd H' a o) :=
  ⟨e.g, fun b x hs hl q => by rw [upd_ne (ne_of_none q h1)]; exact e.h b x hs hl q, fun b x q => by rw [upd_ne (ne_of_none q h1)]; exact e.s b x q, e.new, fun b x q => by rw [upd_ne (ne_of_none q h2)]; exact e.sub _ _ q⟩
/-- a block: the context where a comprehension's parts are run -/
abbrev Blk (X : Cx) (scope : Scope) (P : Cx → Prop) : Prop := ∀ (s : Shared) (H : Hp) (C : Addr) (cl : List (Str × Addr)) (fp : List Addr), P (X.blk s H scope (compEnvC scope cl C X.env) fp)
theorem lc_read {own : List (Str × Nat)} {tm : MB} {me : ME} {m : Ow} {wi : TI} {σ : L2.St} {H0 : Hp} {Q : VK} (hwi : ∀ K, tGI c RVw Γ mi σ H0 K → wi σ H0 K) (his : ∀ i ∈ is, i ∈ own.map (·.2)) (hr : tGE c Γ (E.comp mi bd tm me) (.ow (.lst m)) σ H0 Q) :
    tLc wi (tGTg c.nox (killMd (own.map (·.2)) Γ) bd is Γ1) (tGT c.nox Γ1 tm) (tGE c.nox Γ1 me (.ow m)) (own.map (·.2)) σ H0 Q := by
  obtain ⟨G0, env, ds0, gd, h⟩ := hr
  refine hwi _ ?_
  refine ⟨G0, env, ds0, gd, h.bind.mono (fun xs ds1 h1 G1 H1 J Gd Y e1 s1 w => ?_) fun _ _ _ _ q => q⟩
  intro L hL
  have g1 := gd.ext e1 s1
  have GL : G1 L = none := free_of e1.sub hL
  have nL : L ∉ stN c.S := fun z => by
    obtain ⟨o, q⟩ := s1.there z
    rw [hL] at q
    cases q
  refine lc_it w.w (fun i H => ∃ Gi dsi acc accV as, Ext c.S G1 H1 Gi H ∧ StOk c.S Gi H dsi ∧ H L = some (.lst accV) ∧ AllO (RepO c.cA Gi H m) acc accV as ∧ as.Nodup ∧ (∀ a ∈ as, H1 a = none ∧ Gi a = none ∧ a ≠ L) ∧ Gi L = none ∧ acc.length ≤ i ∧
      Run (E.compL bd tm me (xs.drop i) env dsi) (fun ys ds' => OkQ c G0 H0 (.ow (.lst m)) Q (.lst (acc ++ ys)) ds') (ExcQ c G0 H0)) ?_ (fun i H _ ⟨Gi, dsi, acc, accV, as, e, _⟩ => w.st Gi H e) (fun i x H H' hi ⟨Gi, dsi, acc, accV, as, e, st, hLi, al, nd, fr, gL, hlen, run⟩ y => ?_) (fun H ⟨Gi, dsi, acc, accV, as, e, st, hLi, al, nd, fr, gL, hlen, run⟩ => ?_)
  · refine ⟨G1, ds1, [], [], [], Ext.laid e1.sub hL _, s1.laid hL _, upd_same, ⟨rfl, rfl⟩, List.nodup_nil, by simp, GL, Nat.le_refl _, ?_⟩
    rw [List.drop_zero]
    exact h1.bind.mono (fun ys ds' q => q) fun _ _ _ _ q => q
  · obtain ⟨d, hd, G3, e3, s3, r3⟩ := w.it i Gi H x H' e.sub e y
    rw [List.drop_eq_getElem_cons hi] at run
    have ed : xs[i] = d := by
      rw [List.getElem?_eq_getElem hi] at hd
      exact Option.some.inj hd
    rw [ed] at run
    obtain ⟨env1, hb1, run⟩ := Run.lift run.bind
    have e13 : Ext c.S G1 H1 G3 H' := e.trans e3
    have st3 := s3 dsi st
    have gw : Good c.nox (killMd (own.map (·.2)) Γ) G3 H' (L2.wipe σ (own.map (·.2))) env dsi := ((g1.ext e13 st3).wipe _).nox
    have hL3 : H' L = some (.lst accV) := e3.h L _ nL (by simp) hLi
    refine ⟨G3, env, dsi, d, env1, gw, r3, hb1, fun σ2 o2 g2 => ⟨wipe_twice o2 his, ?_⟩⟩
    refine ⟨G3, env1, dsi, g2, (Run.nox run.bind).mono (fun k ds2 run G4 H4 e4 s4 => ?_) fun _ _ _ _ q => q.elim⟩
    have e14 : Ext c.S G1 H1 G4 H4 := e13.trans e4
    have eH4 : Ext c.S Gi H G4 H4 := e3.trans e4
    have hL4 : H4 L = some (.lst accV) := eH4.h L _ nL (by simp) hLi
    have fresh : ∀ {G5 H5 : Hp}, Ext c.S Gi H G5 H5 → (∀ a ∈ as, H1 a = none ∧ G5 a = none ∧ a ≠ L) ∧ AllO (RepO c.cA G5 H5 m) acc accV as ∧ G5 L = none := fun {G5 H5} e5 => by
      have th : ∀ a ∈ as, ∃ o, H a = some o := AllO.there (H := H) (P := RepO c.cA Gi H m) (fun d v as q => q.there) al
      have ns : ∀ a ∈ as, a ∉ stN c.S := fun a ha z => by
        obtain ⟨o, q⟩ := s1.there z
        rw [(fr a ha).1] at q
        cases q
      refine ⟨fun a ha => ⟨(fr a ha).1, ?_, (fr a ha).2.2⟩, AllO.imp (as0 := as) (fun d v as' hs q => q.agree e5.g fun a ha => (by
          obtain ⟨o, q⟩ := th a (hs a ha)
          rw [q, e5.h a o (ns a (hs a ha)) (by simp) q])) (fun _ z => z) al, ?_⟩
      · cases q : G5 a with
        | none => rfl
        | some o =>
          obtain ⟨o', q'⟩ := th a ha
          rcases e5.new a o q with z | z
          · rw [(fr a ha).2.1] at z; cases z
          · rw [q'] at z; cases z
      · cases q : G5 L with
        | none => rfl
        | some o =>
          rcases e5.new L o q with z | z
          · rw [gL] at z; cases z
          · rw [hLi] at z; cases z
    cases k with
    | false =>
      refine iteF ?_
      obtain ⟨f1, f2, f3⟩ := fresh eH4
      exact ⟨G4, ds2, acc, accV, as, e14, s4, hL4, f2, nd, f1, f3, by omega, run⟩
    | true =>
      refine iteT ⟨G4, env1, ds2, g2.ext e4 s4, (Run.nox (Run.bind run)).mono (fun yd ds3 run v G5 H5 e5 s5 r5 => ?_) fun _ _ _ _ q => q.elim⟩
      have eH5 : Ext c.S Gi H G5 H5 := eH4.trans e5
      have e15 : Ext c.S G1 H1 G5 H5 := e14.trans e5
      obtain ⟨f1, f2, f3⟩ := fresh eH5
      obtain ⟨bs, r5, nb, fb⟩ := r5
      have hl : accV.length = acc.length := f2.length
      have hL5 : H5 L = some (.lst accV) := eH5.h L _ nL (by simp) hLi
      have nLb : ∀ a ∈ bs, a ≠ L := fun a ha z => by
        rw [z] at ha
        rw [(fb L ha).1] at hL4
        cases hL4
      have ag : ∀ a, a ≠ L → upd H5 L (.lst (accV ++ [v])) a = H5 a := fun a ha => upd_ne ha
      refine ⟨accV, hL5, by rw [hl]; have := w.sz; omega, G5, ds3, acc ++ [yd], accV ++ [v], as ++ bs, e15.updNew hL f3 _, s5.at (fun _ _ => rfl) (fun a ha => ag a fun z => nL (z ▸ ha)), upd_same, ?_, ?_, ?_, f3, by simp; omega, ?_⟩
      · refine AllO.append (AllO.imp (as0 := as) (fun d v as' hs q => q.agree (Same.refl _) fun a ha => ag a (f1 a (hs a ha)).2.2) (fun _ z => z) f2) ⟨v, [], bs, [], rfl, by simp, r5.agree (Same.refl _) fun a ha => ag a (nLb a ha), rfl, rfl⟩
      · refine List.nodup_append.mpr ⟨nd, nb, fun a ha b hb e => ?_⟩
        subst e
        obtain ⟨o, q⟩ := AllO.there (H := H) (P := RepO c.cA Gi H m) (fun d v as q => q.there) al a ha
        obtain ⟨o', q'⟩ := eH4.s a o q
        rw [(fb a hb).1] at q'
        cases q'
      · intro a ha
        rcases List.mem_append.mp ha with z | z
        · exact f1 a z
        · exact ⟨e14.free (fb a z).1, (fb a z).2, nLb a z⟩
      · refine (Run.bind run).mono (fun ys ds' q => ?_) fun _ _ _ _ q => q
        rw [List.append_assoc]
        exact q
  · rw [List.drop_length] at run
    have run : OkQ c G0 H0 (.ow (.lst m)) Q (.lst (acc ++ [])) dsi := run
    rw [List.append_nil] at run
    refine run (.ref L) Gi H (e1.trans e) st ⟨L :: as, ?_, ?_, fun a ha => ?_⟩
    · simp only [RepO]
      exact ⟨L, acc, accV, as, rfl, rfl, rfl, hLi, al⟩
    · exact List.nodup_cons.mpr ⟨fun z => (fr L z).2.2 rfl, nd⟩
    · rcases List.mem_cons.mp ha with rfl | z
      · exact ⟨e1.free hL, gL⟩
      · exact ⟨e1.free (fr a z).1, (fr a z).2.1⟩
theorem ge_comp {elt : Expr} {ifs : List Expr} {scope : Scope} {own : List (Str × Nat)} {tm : MB} {me : ME} {m : Ow} (hc : X.calm = true) (hN : X.N.Nodup) (hi : GI X c RVw Γ tg iter mi) (ok : BlkOk X.N X.env.scope scope own) (his : ∀ i ∈ is, i ∈ own.map (·.2))
    (hg : Blk X scope fun Y => GTg Y c.nox (killMd (own.map (·.2)) Γ) tg bd is Γ1) (ht : Blk X scope fun Y => PTs Y ifs (tGT c.nox Γ1 tm)) (he : Blk X scope fun Y => GE Y c.nox Γ1 elt me (.ow m)) (hs : ∀ x, foldedSetIterable iter X.env x = pure x := by intro _; rfl) :
    GE X c Γ (.ListComp elt [⟨tg, iter, ifs, 0⟩] scope pos) (E.comp mi bd tm me) (.ow (.lst m)) :=
  pe_imp (pe_lc hc hN hi ok hg ht he hs) fun σ H0 Q h => lc_read (fun _ z => z) his h
/-- name = [..] on one line -/
theorem gs_asgLc {elt : Expr} {ifs : List Expr} {scope : Scope} {own : List (Str × Nat)} {tm : MB} {me : ME} {m : Ow} {i : Nat} {x : Str} {px spos : Pos} {mo : Ow} (hc : X.calm = true) (hN : X.N.Nodup) (hx : X.N[i]? = some x) (li : i < Γ.length) (hxl : X.env.scope.names.lookup x = some .local)
    (hsw : swapsWith (.ListComp elt [⟨tg, iter, ifs, 0⟩] scope pos) (some (.Name x px)) spos.line X.env = pure true) (hi : GI X c RVw Γ tg iter mi) (ok : BlkOk X.N X.env.scope scope own) (his : ∀ i ∈ is, i ∈ own.map (·.2))
    (hg : Blk X scope fun Y => GTg Y c.nox (killMd (own.map (·.2)) Γ) tg bd is Γ1) (ht : Blk X scope fun Y => PTs Y ifs (tGT c.nox Γ1 tm)) (he : Blk X scope fun Y => GE Y c.nox Γ1 elt me (.ow m)) (hs : ∀ x, foldedSetIterable iter X.env x = pure x := by intro _; rfl) :
    GS X c Γ (.Assign [.Name x px] (.ListComp elt [⟨tg, iter, ifs, 0⟩] scope pos) spos) (S.asg i (E.comp mi bd tm me)) (Γ.set i (.ow (.lst m))) mo :=
  ps_imp (ps_setLc hc hN hx hxl hsw hi ok hg ht he hs) fun Dn σ H ⟨G, env, ds, g, h⟩ => lc_read (fun _ z => z) his ⟨G, env, ds, g, run_at g h fun d ds1 q v G1 H1 e1 s1 r1 => by
    obtain ⟨as, r1⟩ := r1
    exact (show OkS c G (Γ.set i (.ow (.lst m))) mo Dn (.nx (env.set i (.d d))) ds1 from q) _ G1 H1 e1.g (g.put e1 s1 li r1)⟩
theorem gts_yes {Y : Cx} {c : Ct} {Γ : List Md} : PTs Y [] (tGT c Γ E.yes) := ⟨fun pins s σ H Q I ⟨G, env, ds, g, h⟩ => pts_nil.run pins s σ H Q I ((show OkT c G H Q true ds from h) G H (.refl g.sub) g.st)⟩
theorem gts_if {Y : Cx} {c : Ct} {Γ : List Md} {e : Expr} {t : MB} (h : GT Y c Γ e t) : PTs Y [e] (tGT c Γ t) := pts_one h
end
end Mir
end

set_option maxHeartbeats 200000
section
/-! Subscripts, slices, built-ins. -/
namespace Mir
open PySem L2
section
variable {X : Cx} {c : Ct} {Γ : List Md} {p pa pb : Pv} {ma mb : ME} {a b e : Expr} {pos : Pos}
theorem rep_of_flat {H0 G H : Hp} {p : Pv} {d : D} {v : V} (hp : p.flat = true) (hl : (∀ xs, d ≠ .lst xs) ∧ (∀ t ks vs, d ≠ .dct t ks vs)) (r : Res' c p H0 G H d v) : Rep c.cA G d v := by
  have key : ∀ (m : Ow) as, (m = .fz ∨ m = .lst .fz ∨ m = .dct .fz) → RepO c.cA G H m d v as → Rep c.cA G d v := by
    intro m as hm r
    rcases hm with rfl | rfl | rfl
    · simp only [RepO] at r
      exact r.2
    · simp only [RepO] at r
      obtain ⟨a, ds, vs, r, h1, _⟩ := r
      exact absurd h1 (hl.1 _)
    · simp only [RepO] at r
      obtain ⟨a, t, ks, ds, vs, r, h1, h2⟩ := r
      exact absurd h1 (hl.2 _ _ _)
  cases p with
  | ow m =>
    obtain ⟨as, r, _⟩ := r
    refine key m as ?_ r
    cases m with
    | fz => exact .inl rfl
    | lst m => cases m <;> first | exact .inr (.inl rfl) | cases hp
    | dct m => cases m <;> first | exact .inr (.inr rfl) | cases hp
    | tup ms => cases hp
    | obj ms => cases hp
    | mx => cases hp
  | vw m =>
    obtain ⟨as, r, _⟩ := r
    refine key m as ?_ r
    cases m with
    | fz => exact .inl rfl
    | lst m => cases m <;> first | exact .inr (.inl rfl) | cases hp
    | dct m => cases m <;> first | exact .inr (.inr rfl) | cases hp
    | tup ms => cases hp
    | obj ms => cases hp
    | mx => cases hp
theorem kidsD {H0 G H : Hp} {p : Pv} {t : Bool} {ks : List DK} {ds : List D} {v : V} (sub : Same G H) (hp : p.flat = true) (r : Res' c p H0 G H (.dct t ks ds) v) : ∃ a vs, v = .ref a ∧ DictAt H t a ks vs ∧ RepL c.cA G ds vs := by
  have key : ∀ (m : Ow) as, (m = .fz ∨ m = .lst .fz ∨ m = .dct .fz) → RepO c.cA G H m (.dct t ks ds) v as → ∃ a vs, v = .ref a ∧ DictAt H t a ks vs ∧ RepL c.cA G ds vs := by
    intro m as hm r
    rcases hm with rfl | rfl | rfl
    · simp only [RepO, Rep] at r
      obtain ⟨_, a, vs, h1, h2, h3⟩ := r
      exact ⟨a, vs, h1, h2.of (sub a), h3⟩
    · simp only [RepO] at r
      obtain ⟨a, ds, vs, r, h1, _⟩ := r
      cases h1
    · simp only [RepO] at r
      obtain ⟨a, t, ks, ds, vs, r, h1, h2, h3, h4, h5⟩ := r
      cases h1
      exact ⟨a, vs, h2, h4.at, (allO_fz' (H := H) h5).2⟩
  cases p with
  | ow m =>
    obtain ⟨as, r, _⟩ := r
    refine key m as ?_ r
    cases m with
    | fz => exact .inl rfl
    | lst m => cases m <;> first | exact .inr (.inl rfl) | cases hp
    | dct m => cases m <;> first | exact .inr (.inr rfl) | cases hp
    | tup ms => cases hp
    | obj ms => cases hp
    | mx => cases hp
  | vw m =>
    obtain ⟨as, r, _⟩ := r
    refine key m as ?_ r
    cases m with
    | fz => exact .inl rfl
    | lst m => cases m <;> first | exact .inr (.inl rfl) | cases hp
    | dct m => cases m <;> first | exact .inr (.inr rfl) | cases hp
    | tup ms => cases hp
    | obj ms => cases hp
    | mx => cases hp
/-! ### subscripts -/
def rIxD : R2 := fun x y H Q => ∃ a v, x = .ref a ∧ DGet H a y (some v) ∧ Q v H
theorem ix_dict (hu : X.A.units + 1 < cLine) : IxR X rIxD := by
  intro value slice pins s σ H x y v u Q I rx ry h hs
  obtain ⟨a, w, rfl, g, q⟩ := h
  obtain rfl : v = Value.ref a := rx
  exact PyProof.Rows.tail_any (dict_typeIs I g) PySem.F.slot_dict_getitem.lookup (d_getItem hu I g ry fun w' s' I' r' => ⟨w, H, I', r', q⟩) hs
theorem atI_rep {G : Hp} {xs : List D} {vs : List V} {i : Int} {d : D} (r : RepL c.cA G xs vs) (h : atI xs i = some d) : ∃ v, atI vs i = some v ∧ Rep c.cA G d v := by
  unfold atI at h ⊢
  obtain ⟨j, h1, h2⟩ := Option.bind_eq_some_iff.mp h
  obtain ⟨v, h3, h4⟩ := r.get h2
  rw [r.length, h1]
  exact ⟨v, h3, h4⟩
theorem ge_idx (hu : X.A.units + 1 < cLine) (hp : pa.flat = true) (ha : GE X c Γ a ma pa) (hb : GE X c Γ b mb pb) (hs : PlainIx b) : GE X c Γ (.Subscript a b pos) (E.bin D.idx ma mb) fz := by
  refine pe_imp (pe_ix (ix_seq.or (ix_dict hu)) ha hb hs) fun σ H Q ⟨G, env, ds, g, h⟩ => ?_
  refine read2 (p := fz) (Q := Q) g h fun dx dy ds2 x y G1 H1 G2 H2 e1 e2 e s2 g2 r1 r2 h2 => ?_
  obtain ⟨d, hd, q⟩ := Run.lift h2
  have a2 := r2.rep e.sub
  cases dx with
  | lst xs =>
    cases dy <;> simp only [D.idx] at hd <;> try (cases hd; done)
    simp only [Rep] at a2
    obtain ⟨l, vs, rfl, k1, k2⟩ := kids e.sub hp r1
    obtain ⟨v, k3, k4⟩ := atI_rep k2 hd
    exact .inl (.inl ⟨l, vs, _, v, rfl, a2, SqL.of k1, k3, ok_at q e s2 k4⟩)
  | tup xs =>
    cases dy <;> simp only [D.idx] at hd <;> try (cases hd; done)
    simp only [Rep] at a2
    have r1 := rep_of_flat hp ⟨(by intro _ z; cases z), (by intro _ _ _ z; cases z)⟩ r1
    simp only [Rep] at r1
    obtain ⟨l, vs, rfl, k1, k2⟩ := r1
    obtain ⟨v, k3, k4⟩ := atI_rep k2 hd
    exact .inl (.inr (.inl ⟨l, vs, _, v, rfl, a2, SqT.of (e.sub _ _ k1), k3, ok_at q e s2 k4⟩))
  | str z =>
    cases dy <;> simp only [D.idx] at hd <;> try (cases hd; done)
    simp only [Rep] at a2
    have r1 := rep_of_flat hp ⟨(by intro _ z; cases z), (by intro _ _ _ z; cases z)⟩ r1
    simp only [Rep] at r1
    split at hd
    · rename_i hz
      obtain ⟨k, k1, k2⟩ := Option.map_eq_some_iff.mp hd
      subst k2
      exact .inl (.inr (.inr ⟨z, _, k, r1, a2, hz, k1, ok_str q e s2⟩))
    · cases hd
  | dct t ks vs =>
    have hd : (dy.key.bind fun k => if D.kind t k then D.look k ks vs else none) = some d := by
      cases dy <;> exact hd
    obtain ⟨k, k1, k2⟩ := Option.bind_eq_some_iff.mp hd
    split at k2
    · rename_i kd
      obtain ⟨l, ws, rfl, k3, k4⟩ := kidsD e.sub hp r1
      obtain ⟨o, g1, l1, _⟩ := dget (c := c) k3 k4 k1 a2 kd
      obtain ⟨v, l3, l4⟩ := l1 d k2
      subst l3
      exact .inr ⟨l, v, rfl, g1, ok_at q e s2 l4⟩
    · cases k2
  | non => cases dy <;> cases hd
  | bl b => cases dy <;> cases hd
  | int i => cases dy <;> cases hd
  | obj cn ns vs => cases dy <;> cases hd
  | xc cn ns vs => cases dy <;> cases hd
  | raw w => cases dy <;> cases hd
/-- a place of an own list of lists: a view of what stands there -/
theorem allO_get {P : D → V → List Addr → Prop} : ∀ {ds : List D} {vs : List V} {as : List Addr} {i : Nat} {d : D}, AllO P ds vs as → ds[i]? = some d → ∃ v bs, vs[i]? = some v ∧ P d v bs ∧ ∀ a ∈ bs, a ∈ as
  | [], vs, as, i, d, h, e => by simp at e
  | d0 :: ds, vs, as, 0, d, h, e => by
    obtain ⟨v, r, a1, a2, rfl, rfl, q1, q2⟩ := h
    simp at e
    subst e
    exact ⟨v, a1, rfl, q1, fun a ha => List.mem_append_left _ ha⟩
  | d0 :: ds, vs, as, i + 1, d, h, e => by
    obtain ⟨v, r, a1, a2, rfl, rfl, q1, q2⟩ := h
    obtain ⟨v', bs, k1, k2, k3⟩ := allO_get (i := i) q2 (by simpa using e)
    exact ⟨v', bs, by simpa using k1, k2, fun a ha => List.mem_append_right _ (k3 a ha)⟩
theorem ge_idxV {m : Ow} (ha : GE X c Γ a ma (.vw (.lst m))) (hb : GE X c Γ b mb fz) (hs : PlainIx b) : GE X c Γ (.Subscript a b pos) (E.bin D.idx ma mb) (.vw m) := by
  refine pe_imp (pe_ix ix_list ha hb hs) fun σ H Q ⟨G, env, ds, g, h⟩ => ?_
  refine read2 (p := .vw m) (Q := Q) g h fun dx dy ds2 x y G1 H1 G2 H2 e1 e2 e s2 g2 r1 r2 h2 => ?_
  obtain ⟨d, hd, q⟩ := Run.lift h2
  obtain ⟨as, r1, r3⟩ := r1
  simp only [RepO] at r1
  obtain ⟨l, xs, vs, r, rfl, rfl, rfl, k1, k2⟩ := r1
  have a2 := r2.rep e.sub
  cases dy <;> simp only [D.idx] at hd <;> try (cases hd; done)
  simp only [Rep] at a2
  unfold atI at hd
  obtain ⟨j, j1, j2⟩ := Option.bind_eq_some_iff.mp hd
  obtain ⟨v, bs, j3, j4, j5⟩ := allO_get k2 j2
  refine ⟨l, vs, _, v, rfl, a2, SqL.of k1, ?_, q v G2 H2 e s2 ⟨bs, j4, fun a ha => r3 a (List.mem_cons_of_mem _ (j5 a ha))⟩⟩
  unfold atI
  rw [k2.length, j1]
  exact j3
end
/-! ### slices -/
namespace E
def pnone : List Val → M (Option Int) := fun _ => pure none
def psome (a : ME) : List Val → M (Option Int) := fun env => a env >>= fun x => match x with | .int i => pure (some i) | _ => M.stuck
def slice (a : ME) (lo hi : List Val → M (Option Int)) : ME := fun env => a env >>= fun x => lo env >>= fun i => hi env >>= fun j => match x with
  | .lst xs => pure (.lst (D.cut xs i j))
  | _ => M.stuck
end E
def OkP (c : Ct) (G H : Hp) (Q : Option Int → Hp → Prop) : Option Int → DS → Prop := fun k ds' => ∀ G' H', Ext c.S G H G' H' → StOk c.S G' H' ds' → Q k H'
def tGP (c : Ct) (Γ : List Md) (m : List Val → M (Option Int)) : TO := fun σ H Q => ∃ G env ds, Good c Γ G H σ env ds ∧ Run (m env ds) (OkP c G H Q) (ExcQ c G H)
def GP (X : Cx) (c : Ct) (Γ : List Md) (e : Option Expr) (m : List Val → M (Option Int)) : Prop := PO X e (tGP c Γ m)
theorem po_imp {X : Cx} {e : Option Expr} {t t' : TO} (h : PO X e t) (k : ∀ σ H Q, t' σ H Q → t σ H Q) : PO X e t' := ⟨fun pins s σ H Q I hw => h.run pins s σ H Q I (k σ H Q hw)⟩
section
variable {X : Cx} {c : Ct} {Γ : List Md} {p pa pb : Pv} {ma mb : ME} {a b e : Expr} {pos p2 : Pos} {lo hi : Option Expr} {ml mh : List Val → M (Option Int)}
theorem gp_none : GP X c Γ none E.pnone := po_imp po_none fun σ H Q ⟨G, env, ds, g, h⟩ => (show OkP c G H Q none ds from h) G H (.refl g.sub) g.st
theorem gp_some (ha : GE X c Γ e ma fz) : GP X c Γ (some e) (E.psome ma) := po_imp (po_some ha) fun σ H Q ⟨G, env, ds, g, h⟩ => ⟨G, env, ds, g, h.bind.mono (fun d ds1 q v G1 H1 e1 s1 r1 => by
  have r1 := r1.fz
  cases d <;> first | exact q.elim | skip
  simp only [Rep] at r1
  exact ⟨_, r1, (show OkP c G H Q (some _) ds1 from q) G1 H1 e1 s1⟩) fun _ _ _ _ q => q⟩
theorem RepL.cut {G : Hp} {xs : List D} {vs : List V} (r : RepL c.cA G xs vs) (i j : Option Int) : RepL c.cA G (D.cut xs i j) (cutV vs i j) := by
  unfold D.cut cutV
  rw [r.length]
  exact (r.drop _).take _
theorem ge_slice (hp : pa.flat = true) (ha : GE X c Γ a ma pa) (hl : GP X c Γ lo ml) (hh : GP X c Γ hi mh) : GE X c Γ (.Subscript a (.Slice lo hi none p2) pos) (E.slice ma ml mh) (.ow (.lst .fz)) := by
  refine pe_imp (pe_slice sl_list ha hl hh) fun σ H Q ⟨G, env, ds, g, h⟩ => ?_
  refine read1 (p := .ow (.lst .fz)) (Q := Q) g h fun dx ds1 x G1 H1 e1 s1 g1 r1 h1 => ?_
  refine ⟨G1, env, ds1, g1, h1.bind.mono (fun i ds2 h2 G2 H2 e2 s2 => ?_) fun _ _ _ _ q => q.ext e1⟩
  refine ⟨G2, env, ds2, g1.ext e2 s2, h2.bind.mono (fun j ds3 h3 G3 H3 e3 s3 => ?_) fun _ _ _ _ q => q.ext (e1.trans e2)⟩
  have r3 := (r1.ext s1 (fun a ha => g.st.there ha) e2).ext s2 (fun a ha => g.st.there ha) e3
  cases dx <;> first | exact h3.elim | skip
  obtain ⟨l, vs, rfl, k1, k2⟩ := kids e3.sub hp r3
  exact ⟨l, vs, rfl, SqL.of k1, fun q hq => ok_lst (show OkQ c G H (.ow (.lst .fz)) Q (.lst _) ds3 from h3) ((e1.trans e2).trans e3) s3 (k2.cut i j) hq⟩
end
end Mir
end

set_option maxHeartbeats 200000
section
/-! Built-in functions. -/
namespace Mir
open PySem L2
namespace D
def int1 : D → Option Int
  | .int i => some i
  | _ => none
def bl1 : D → Option Bool
  | .bl b => some b
  | _ => none
/-- all of one kind -/
def allOf {α : Type} (f : D → Option α) : List D → Option (List α)
  | [] => some []
  | x :: xs => (f x).bind fun y => (allOf f xs).map fun ys => y :: ys
def nums : List D → Option (List Int) := allOf int1
def bls : List D → Option (List Bool) := allOf bl1
def lenD (d : D) : Option D := (len d).map .int
def listD : D → Option D
  | .lst xs => some (.lst xs)
  | .tup xs => some (.lst xs)
  | .dct t ks _ => if t then none else some (.lst (ks.map ofKey))
  | _ => none
def tupleD : D → Option D
  | .lst xs => some (.tup xs)
  | .tup xs => some (.tup xs)
  | _ => none
def sumD : D → Option D
  | .lst xs => (nums xs).map fun ns => .int ns.sum
  | _ => none
def maxD : D → Option D
  | .lst xs => (nums xs).bind fun ns => ns.max?.map .int
  | _ => none
def minD : D → Option D
  | .lst xs => (nums xs).bind fun ns => ns.min?.map .int
  | _ => none
def anyD : D → Option D
  | .lst xs => (bls xs).map fun bs => .bl (bs.any id)
  | _ => none
def allD : D → Option D
  | .lst xs => (bls xs).map fun bs => .bl (bs.all id)
  | _ => none
def sortedD : D → Option D
  | .lst xs => (nums xs).map fun ns => .lst ((ns.mergeSort (fun a b => decide (a ≤ b))).map .int)
  | _ => none
def intD : D → Option D
  | .int i => some (.int i)
  | .bl b => some (.int (if b then 1 else 0))
  | _ => none
def absD : D → Option D
  | .int i => some (.int (if i < 0 then -i else i))
  | _ => none
def strD : D → Option D
  | .int i => if i.natAbs.log2 < 1920 then some (.str (toString i)) else none
  | _ => none
def max2 : D → D → Option D
  | .int i, .int j => some (.int (if j > i then j else i))
  | _, _ => none
def min2 : D → D → Option D
  | .int i, .int j => some (.int (if j < i then j else i))
  | _, _ => none
end D
/-- a call of one argument by values does what op says -/
def OpC1 (X : Cx) (c : Ct) (f : Value) (op : D → Option D) (pa p : Pv) : Prop :=
  ∃ r, CallR X f r ∧ ∀ (G H G1 H1 : Hp) (dx d : D) (x : V) (ds1 : DS) (Q : VK), (∀ a ∈ stN c.S, ∃ o, H a = some o) → Ext c.S G H G1 H1 → StOk c.S G1 H1 ds1 → Res' c pa H G1 H1 dx x → op dx = some d → OkQ c G H p Q d ds1 → r [x] H1 Q
def OpC2 (X : Cx) (c : Ct) (f : Value) (op : D → D → Option D) (pa pb p : Pv) : Prop :=
  ∃ r, CallR X f r ∧ ∀ (G H G1 H1 G2 H2 : Hp) (dx dy d : D) (x y : V) (ds2 : DS) (Q : VK), (∀ a ∈ stN c.S, ∃ o, H a = some o) → Ext c.S G H G1 H1 → Ext c.S G1 H1 G2 H2 → Ext c.S G H G2 H2 → StOk c.S G2 H2 ds2 →
    Res' c pa H G2 H2 dx x → Res' c pb H1 G2 H2 dy y → op dx dy = some d → OkQ c G H p Q d ds2 → r [x, y] H2 Q
section
variable {X : Cx} {c : Ct} {Γ : List Md} {p pa pb : Pv} {ma mb : ME} {a b e : Expr} {pos p1 : Pos} {x : Str}
theorem ge_b1 {id : String} {op : D → Option D} (ho : OpC1 X c (.builtin id) op pa p) (hg : Gl X x) (hm : X.mg x = none) (hv : bootBuiltins x = some (.builtin id)) (ha : GE X c Γ a ma pa) (hn : x ≠ "__name__" := by decide) (hdb : (x == ("__debug__" : Str)) = false := by decide)
    (he : starEach [a] X.env = (false, eval a X.env) :: starEach [] X.env := by rfl) (hpl : (backTo pos (starEach [] X.env)).any (·.1) = false := by rfl) : GE X c Γ (.Call (.Name x p1) [a] [] pos) (E.un op ma) p := by
  obtain ⟨r, hr, hk⟩ := ho
  refine pe_imp (pe_callB hr hg hm hv (pa_cons ha pa_nil he) hn hdb he hpl) fun σ H Q ⟨G, env, ds, g, h⟩ => ?_
  refine read1 (p := p) (Q := Q) g h fun dx ds1 x G1 H1 e1 s1 g1 r1 h1 => ?_
  obtain ⟨d, hd, q⟩ := Run.lift h1
  exact hk G H G1 H1 dx d x ds1 Q (fun a ha => g.st.there ha) e1 s1 r1 hd q
theorem ge_t1 {id : String} {op : D → Option D} (ho : OpC1 X c (.type id) op pa p) (hg : Gl X x) (hm : X.mg x = none) (hv : bootBuiltins x = some (.type id)) (ha : GE X c Γ a ma pa) (hn : x ≠ "__name__" := by decide) (hdb : (x == ("__debug__" : Str)) = false := by decide)
    (he : starEach [a] X.env = (false, eval a X.env) :: starEach [] X.env := by rfl) (hpl : (backTo pos (starEach [] X.env)).any (·.1) = false := by rfl) : GE X c Γ (.Call (.Name x p1) [a] [] pos) (E.un op ma) p := by
  obtain ⟨r, hr, hk⟩ := ho
  refine pe_imp (pe_callTy hr hg hm hv (pa_cons ha pa_nil he) hn hdb he hpl) fun σ H Q ⟨G, env, ds, g, h⟩ => ?_
  refine read1 (p := p) (Q := Q) g h fun dx ds1 x G1 H1 e1 s1 g1 r1 h1 => ?_
  obtain ⟨d, hd, q⟩ := Run.lift h1
  exact hk G H G1 H1 dx d x ds1 Q (fun a ha => g.st.there ha) e1 s1 r1 hd q
theorem ge_b2 {id : String} {op : D → D → Option D} (ho : OpC2 X c (.builtin id) op pa pb p) (hg : Gl X x) (hm : X.mg x = none) (hv : bootBuiltins x = some (.builtin id)) (ha : GE X c Γ a ma pa) (hb : GE X c Γ b mb pb) (hn : x ≠ "__name__" := by decide) (hdb : (x == ("__debug__" : Str)) = false := by decide)
    (he : starEach [a, b] X.env = (false, eval a X.env) :: starEach [b] X.env := by rfl) (he2 : starEach [b] X.env = (false, eval b X.env) :: starEach [] X.env := by rfl) (hpl : (backTo pos (starEach [b] X.env)).any (·.1) = false := by rfl) : GE X c Γ (.Call (.Name x p1) [a, b] [] pos) (E.bin op ma mb) p := by
  obtain ⟨r, hr, hk⟩ := ho
  refine pe_imp (pe_callB hr hg hm hv (pa_cons ha (pa_cons hb pa_nil he2) he) hn hdb he hpl) fun σ H Q ⟨G, env, ds, g, h⟩ => ?_
  refine read2 (p := p) (Q := Q) g h fun dx dy ds2 x y G1 H1 G2 H2 e1 e2 e s2 g2 r1 r2 h2 => ?_
  obtain ⟨d, hd, q⟩ := Run.lift h2
  exact hk G H G1 H1 G2 H2 dx dy d x y ds2 Q (fun a ha => g.st.there ha) e1 e2 e s2 r1 r2 hd q
theorem allOf_rep {α : Type} {f : D → Option α} {g : α → V} {H : Hp} (hf : ∀ d y v, f d = some y → Rep c.cA H d v → v = g y) : ∀ {xs : List D} {ys : List α} {vs : List V}, D.allOf f xs = some ys → RepL c.cA H xs vs → vs = ys.map g
  | [], ys, vs, h, r => by
    simp only [D.allOf] at h
    simp only [RepL] at r
    cases h
    rw [r]; rfl
  | d :: xs, ys, vs, h, r => by
    simp only [D.allOf] at h
    simp only [RepL] at r
    obtain ⟨v, w, rfl, r1, r2⟩ := r
    obtain ⟨y, e1, h⟩ := Option.bind_eq_some_iff.mp h
    obtain ⟨zs, e2, rfl⟩ := Option.map_eq_some_iff.mp h
    rw [hf d y v e1 r1, allOf_rep hf e2 r2]; rfl
theorem nums_rep {H : Hp} {xs : List D} {ns : List Int} {vs : List V} (h : D.nums xs = some ns) (r : RepL c.cA H xs vs) : vs = ns.map V.int :=
  allOf_rep (c := c) (g := V.int) (H := H) (fun d y v h r => by
    cases d <;> simp only [D.int1] at h <;> try (cases h; done)
    cases h
    simpa only [Rep] using r) h r
theorem bls_rep {H : Hp} {xs : List D} {ns : List Bool} {vs : List V} (h : D.bls xs = some ns) (r : RepL c.cA H xs vs) : vs = ns.map V.bl :=
  allOf_rep (c := c) (g := V.bl) (H := H) (fun d y v h r => by
    cases d <;> simp only [D.bl1] at h <;> try (cases h; done)
    cases h
    simpa only [Rep] using r) h r
theorem rep_nums {G : Hp} : ∀ ns : List Int, RepL c.cA G (ns.map D.int) (ns.map V.int)
  | [] => RepL.nil
  | n :: ns => .cons (by simp only [Rep]) (rep_nums ns)
/-- a list or a tuple, of any mode -/
theorem lst_of {H0 G H : Hp} {xs : List D} {v : V} (sub : Same G H) (r : Res' c p H0 G H (.lst xs) v) : ∃ a vs, v = .ref a ∧ H a = some (.lst vs) ∧ RepL c.cA H xs vs := by
  have r := r.rep sub
  simpa only [Rep] using r
theorem tup_of {H0 G H : Hp} {xs : List D} {v : V} (sub : Same G H) (r : Res' c p H0 G H (.tup xs) v) : ∃ a vs, v = .ref a ∧ H a = some (.tup vs) ∧ RepL c.cA H xs vs := by
  have r := r.rep sub
  simpa only [Rep] using r
theorem call_lenRK {X : Cx} : CallR X (.builtin "len") (fun xs H Q => ∃ a kvs, xs = [V.ref a] ∧ Rd H a (.dK kvs) ∧ Q (.int kvs.length) H) := by
  rintro pins s σ H xs us Q J r ⟨a, kvs, rfl, rd, z⟩
  obtain ⟨w, rfl, e⟩ := vals1 r
  cases e
  exact d_len J rd fun tk s2 J2 => ⟨.int kvs.length, H, J2, ⟨tk, rfl⟩, z⟩
theorem call_lenRT {X : Cx} : CallR X (.builtin "len") (fun xs H Q => ∃ (a : Addr) (kvs : List (List L2.Key × V)), xs = [V.ref a] ∧ Rd H a (.dT kvs) ∧ Q (.int ((kvs.length : Nat) : Int)) H) := by
  rintro pins s σ H xs us Q J r ⟨a, kvs, rfl, rd, z⟩
  obtain ⟨w, rfl, e⟩ := vals1 r
  cases e
  obtain ⟨few, at', ys, rel, more⟩ := dt_rd J.hok rd
  have same := Paired.length rel
  refine call_len_dictH at' more (by rw [sizeLine_eq] at few; omega) ?_
  exact ⟨.int kvs.length, H, J.tok _, ⟨_, by rw [← same]⟩, z⟩
theorem oc_len : OpC1 X c (.builtin "len") D.lenD pa fz := by
  refine ⟨_, CallR.or call_len (CallR.or call_lenRK call_lenRT), fun G H G1 H1 dx d x ds1 Q st0 e s r1 hop q => ?_⟩
  obtain ⟨n, hn, rfl⟩ := Option.map_eq_some_iff.mp hop
  have a1 := r1.rep e.sub
  cases dx <;> simp only [D.len] at hn <;> try (cases hn; done)
  · split at hn
    · rename_i hz
      cases hn
      simp only [Rep] at a1
      exact .inl ⟨x, _, rfl, by rw [a1]; exact ⟨hz, rfl⟩, ok_int q e s⟩
    · cases hn
  · cases hn
    obtain ⟨l, vs, rfl, k1, k2⟩ := lst_of e.sub r1
    exact .inl ⟨_, _, rfl, .inl ⟨vs, SqL.of k1, rfl⟩, by rw [k2.length]; exact ok_int q e s⟩
  · cases hn
    obtain ⟨l, vs, rfl, k1, k2⟩ := tup_of e.sub r1
    exact .inl ⟨_, _, rfl, .inr ⟨vs, SqT.of k1, rfl⟩, by rw [k2.length]; exact ok_int q e s⟩
  · cases hn
    rename_i t ks vs
    simp only [Rep] at a1
    obtain ⟨l, ws, rfl, k1, k2⟩ := a1
    cases t with
    | false =>
      obtain ⟨kvs, k3, rfl, rfl⟩ := k1
      refine .inr (.inl ⟨l, kvs, rfl, k3, ?_⟩)
      rw [List.length_map] at q
      exact ok_int q e s
    | true =>
      obtain ⟨kvs, k3, rfl, rfl⟩ := k1
      refine .inr (.inr ⟨l, kvs, rfl, k3, ?_⟩)
      rw [List.length_map] at q
      exact ok_int q e s
theorem rep_key {cA : Str → Addr} {G : Hp} : ∀ k : L2.Key, Rep cA G (D.ofKey (.k k)) (kV k)
  | .inl i => by
    show Rep cA G (.int i) (.int i)
    simp only [Rep]
  | .inr z => by
    show Rep cA G (.str z) (.str z)
    simp only [Rep]
theorem rep_keys {cA : Str → Addr} {G : Hp} : ∀ kvs : List (L2.Key × V), RepL cA G ((kvs.map (fun p => DK.k p.1)).map D.ofKey) (kvs.map fun kv => kV kv.1)
  | [] => .nil
  | p :: kvs => .cons (rep_key p.1) (rep_keys kvs)
theorem oc_list (hc : X.calm = true) (hp : pa.flat = true) : OpC1 X c (.type "list") D.listD pa (.ow (.lst .fz)) := by
  refine ⟨_, CallR.or call_list_of (call_listD hc), fun G H G1 H1 dx d x ds1 Q st0 e s r1 hop q => ?_⟩
  cases dx <;> simp only [D.listD] at hop <;> try (cases hop; done)
  · cases hop
    obtain ⟨l, vs, rfl, k1, k2⟩ := kids e.sub hp r1
    exact .inl ⟨l, vs, rfl, .inl (SqL.of k1), fun a ha => ok_lst q e s k2 ha⟩
  · cases hop
    have r1 := rep_of_flat hp ⟨(by intro _ z; cases z), (by intro _ _ _ z; cases z)⟩ r1
    simp only [Rep] at r1
    obtain ⟨l, vs, rfl, k1, k2⟩ := r1
    exact .inl ⟨l, vs, rfl, .inr (SqT.of (e.sub _ _ k1)), fun a ha => ok_lst q e s k2 ha⟩
  · rename_i t ks vs
    have a1 := r1.rep e.sub
    simp only [Rep] at a1
    obtain ⟨l, ws, rfl, k1, k2⟩ := a1
    cases t with
    | true => cases hop
    | false =>
      cases hop
      obtain ⟨kvs, k3, rfl, rfl⟩ := k1
      exact .inr ⟨l, kvs, rfl, k3, fun p hp => ok_lst q e s (rep_keys kvs) hp⟩
theorem repOT_fz {G H : Hp} : ∀ {xs : List D} {vs : List V}, RepL c.cA G xs vs → RepOT c.cA G H (List.replicate xs.length .fz) xs vs []
  | [], vs, r => by
    simp only [RepL] at r
    simp only [List.length_nil, List.replicate_zero, RepOT]
    exact ⟨trivial, r, trivial⟩
  | d :: xs, vs, r => by
    simp only [RepL] at r
    obtain ⟨v, w, rfl, r1, r2⟩ := r
    simp only [List.length_cons, List.replicate_succ, RepOT]
    exact ⟨d, xs, v, w, [], [], rfl, rfl, rfl, by simp only [RepO]; exact ⟨trivial, r1⟩, repOT_fz r2⟩
theorem ok_tupF {G H G' H' : Hp} {Q : VK} {ds' : DS} {xs : List D} {vs : List V} (st0 : ∀ a ∈ stN c.S, ∃ o, H a = some o) (h : OkQ c G H fz Q (.tup xs) ds') (e : Ext c.S G H G' H') (st : StOk c.S G' H' ds') (r : RepL c.cA G' xs vs) {a : Addr} (ha : H' a = none) : Q (.ref a) (upd H' a (.tup vs)) := by
  refine ok_node (mo := .tup (List.replicate xs.length .fz)) (as := []) st0 (h.freeze st0) e st ha List.nodup_nil (by simp) (by simp) ?_
  simp only [RepO]
  exact ⟨a, xs, vs, [], rfl, rfl, rfl, upd_same, repOT_fz r⟩
theorem ok_lstF {G H G' H' : Hp} {Q : VK} {ds' : DS} {xs : List D} {vs : List V} (st0 : ∀ a ∈ stN c.S, ∃ o, H a = some o) (h : OkQ c G H fz Q (.lst xs) ds') (e : Ext c.S G H G' H') (st : StOk c.S G' H' ds') (r : RepL c.cA G' xs vs) {a : Addr} (ha : H' a = none) : Q (.ref a) (upd H' a (.lst vs)) :=
  ok_lst (h.freeze st0) e st r ha
theorem oc_tuple (hp : pa.flat = true) : OpC1 X c (.type "tuple") D.tupleD pa fz := by
  refine ⟨_, call_tuple_of, fun G H G1 H1 dx d x ds1 Q st0 e s r1 hop q => ?_⟩
  cases dx <;> simp only [D.tupleD] at hop <;> try (cases hop; done)
  · cases hop
    obtain ⟨l, vs, rfl, k1, k2⟩ := kids e.sub hp r1
    exact ⟨l, vs, rfl, .inl ⟨SqL.of k1, fun a ha => ok_tupF st0 q e s k2 ha⟩⟩
  · cases hop
    have r1 := rep_of_flat hp ⟨(by intro _ z; cases z), (by intro _ _ _ z; cases z)⟩ r1
    have r1' := r1
    simp only [Rep] at r1
    obtain ⟨l, vs, rfl, k1, k2⟩ := r1
    exact ⟨l, vs, rfl, .inr ⟨SqT.of (e.sub _ _ k1), ok_at q e s r1'⟩⟩
theorem oc_sum (hc : X.calm = true) : OpC1 X c (.builtin "sum") D.sumD pa fz := by
  refine ⟨_, cr_sum hc, fun G H G1 H1 dx d x ds1 Q st0 e s r1 hop q => ?_⟩
  cases dx <;> simp only [D.sumD] at hop <;> try (cases hop; done)
  obtain ⟨ns, hn, rfl⟩ := Option.map_eq_some_iff.mp hop
  obtain ⟨l, vs, rfl, k1, k2⟩ := lst_of e.sub r1
  rw [nums_rep hn k2] at k1
  exact ⟨l, ns, rfl, SqL.of k1, ok_int q e s⟩
theorem oc_max (hc : X.calm = true) : OpC1 X c (.builtin "max") D.maxD pa fz := by
  refine ⟨_, cr_max hc, fun G H G1 H1 dx d x ds1 Q st0 e s r1 hop q => ?_⟩
  cases dx <;> simp only [D.maxD] at hop <;> try (cases hop; done)
  obtain ⟨ns, hn, hop⟩ := Option.bind_eq_some_iff.mp hop
  obtain ⟨m, hm, rfl⟩ := Option.map_eq_some_iff.mp hop
  obtain ⟨l, vs, rfl, k1, k2⟩ := lst_of e.sub r1
  rw [nums_rep hn k2] at k1
  obtain ⟨m1, m2⟩ := List.max?_eq_some_iff.mp hm
  refine ⟨l, ns, rfl, SqL.of k1, List.length_pos_of_mem m1, fun m' h1 h2 => ?_⟩
  have e' : m' = m := Int.le_antisymm (m2 m' h1) (h2 m m1)
  rw [e']
  exact ok_int q e s
theorem oc_min (hc : X.calm = true) : OpC1 X c (.builtin "min") D.minD pa fz := by
  refine ⟨_, cr_min hc, fun G H G1 H1 dx d x ds1 Q st0 e s r1 hop q => ?_⟩
  cases dx <;> simp only [D.minD] at hop <;> try (cases hop; done)
  obtain ⟨ns, hn, hop⟩ := Option.bind_eq_some_iff.mp hop
  obtain ⟨m, hm, rfl⟩ := Option.map_eq_some_iff.mp hop
  obtain ⟨l, vs, rfl, k1, k2⟩ := lst_of e.sub r1
  rw [nums_rep hn k2] at k1
  obtain ⟨m1, m2⟩ := List.min?_eq_some_iff.mp hm
  refine ⟨l, ns, rfl, SqL.of k1, List.length_pos_of_mem m1, fun m' h1 h2 => ?_⟩
  have e' : m' = m := Int.le_antisymm (h2 m m1) (m2 m' h1)
  rw [e']
  exact ok_int q e s
theorem oc_any (hc : X.calm = true) : OpC1 X c (.builtin "any") D.anyD pa fz := by
  refine ⟨_, cr_any hc, fun G H G1 H1 dx d x ds1 Q st0 e s r1 hop q => ?_⟩
  cases dx <;> simp only [D.anyD] at hop <;> try (cases hop; done)
  obtain ⟨ns, hn, rfl⟩ := Option.map_eq_some_iff.mp hop
  obtain ⟨l, vs, rfl, k1, k2⟩ := lst_of e.sub r1
  rw [bls_rep hn k2] at k1
  exact ⟨l, ns, rfl, SqL.of k1, ok_bl q e s⟩
theorem oc_all (hc : X.calm = true) : OpC1 X c (.builtin "all") D.allD pa fz := by
  refine ⟨_, cr_all hc, fun G H G1 H1 dx d x ds1 Q st0 e s r1 hop q => ?_⟩
  cases dx <;> simp only [D.allD] at hop <;> try (cases hop; done)
  obtain ⟨ns, hn, rfl⟩ := Option.map_eq_some_iff.mp hop
  obtain ⟨l, vs, rfl, k1, k2⟩ := lst_of e.sub r1
  rw [bls_rep hn k2] at k1
  exact ⟨l, ns, rfl, SqL.of k1, ok_bl q e s⟩
theorem sorted_one {ns ms : List Int} (h1 : ns.Perm ms) (h2 : ns.Pairwise (· ≤ ·)) : ns = ms.mergeSort (fun a b => decide (a ≤ b)) := by
  have h3 : (ms.mergeSort (fun a b => decide (a ≤ b))).Pairwise (· ≤ ·) := by
    have := List.pairwise_mergeSort (le := fun a b : Int => decide (a ≤ b)) (by simp; omega) (by simp; omega) ms
    simpa using this
  exact List.Perm.eq_of_pairwise (le := (· ≤ ·)) (fun a b _ _ => Int.le_antisymm) h2 h3 (h1.trans (List.mergeSort_perm ms _).symm)
theorem oc_sorted : OpC1 X c (.builtin "sorted") D.sortedD pa (.ow (.lst .fz)) := by
  refine ⟨_, cr_sortedI, fun G H G1 H1 dx d x ds1 Q st0 e s r1 hop q => ?_⟩
  cases dx <;> simp only [D.sortedD] at hop <;> try (cases hop; done)
  obtain ⟨ns, hn, rfl⟩ := Option.map_eq_some_iff.mp hop
  obtain ⟨l, vs, rfl, k1, k2⟩ := lst_of e.sub r1
  rw [nums_rep hn k2] at k1
  refine ⟨l, ns, rfl, SqL.of k1, fun ns' a h1 h2 ha => ?_⟩
  rw [sorted_one h1 h2]
  exact ok_lst q e s (rep_nums _) ha
theorem oc_int : OpC1 X c (.type "int") D.intD pa fz := by
  refine ⟨_, call_int1, fun G H G1 H1 dx d x ds1 Q st0 e s r1 hop q => ?_⟩
  have a1 := r1.rep e.sub
  cases dx <;> simp only [D.intD] at hop <;> try (cases hop; done)
  · cases hop
    simp only [Rep] at a1
    exact .inr ⟨_, by rw [a1], ok_int q e s⟩
  · cases hop
    simp only [Rep] at a1
    exact .inl ⟨_, by rw [a1], ok_int q e s⟩
theorem oc_abs : OpC1 X c (.builtin "abs") D.absD pa fz := by
  refine ⟨_, call_abs, fun G H G1 H1 dx d x ds1 Q st0 e s r1 hop q => ?_⟩
  have a1 := r1.rep e.sub
  cases dx <;> simp only [D.absD] at hop <;> try (cases hop; done)
  cases hop
  simp only [Rep] at a1
  exact ⟨_, by rw [a1], ok_int q e s⟩
theorem oc_str : OpC1 X c (.type "str") D.strD pa fz := by
  refine ⟨_, call_str_int, fun G H G1 H1 dx d x ds1 Q st0 e s r1 hop q => ?_⟩
  have a1 := r1.rep e.sub
  cases dx <;> simp only [D.strD] at hop <;> try (cases hop; done)
  split at hop
  · rename_i hz
    cases hop
    simp only [Rep] at a1
    exact ⟨_, by rw [a1], hz, ok_str q e s⟩
  · cases hop
theorem oc_max2 (hc : X.calm = true) : OpC2 X c (.builtin "max") D.max2 pa pb fz := by
  refine ⟨_, call_max2 hc, fun G H G1 H1 G2 H2 dx dy d x y ds2 Q st0 e1 e2 e s2 r1 r2 hop q => ?_⟩
  have a1 := r1.rep e.sub
  have a2 := r2.rep e.sub
  cases dx <;> cases dy <;> simp only [D.max2] at hop <;> try (cases hop; done)
  cases hop
  simp only [Rep] at a1 a2
  exact ⟨_, _, by rw [a1, a2], ok_int q e s2⟩
theorem oc_min2 (hc : X.calm = true) : OpC2 X c (.builtin "min") D.min2 pa pb fz := by
  refine ⟨_, call_min2 hc, fun G H G1 H1 G2 H2 dx dy d x y ds2 Q st0 e1 e2 e s2 r1 r2 hop q => ?_⟩
  have a1 := r1.rep e.sub
  have a2 := r2.rep e.sub
  cases dx <;> cases dy <;> simp only [D.min2] at hop <;> try (cases hop; done)
  cases hop
  simp only [Rep] at a1 a2
  exact ⟨_, _, by rw [a1, a2], ok_int q e s2⟩
end
end Mir
end

set_option maxHeartbeats 4000000
section
/-! An own exception class called with keywords, as a value. -/
namespace PySem
namespace MirX
open PySem.Calls PySem.W PyProof.Rows PySem.HandSPX
/-- C is an own class of exceptions: its object, and that its bases are the built-in one's, as far as types go -/
def IsX (hp : Heap) (C : Addr) (mk : String) (ups : List Value) : Prop :=
  ∃ (a1 a2 : Str) (a3 : Addr) (a4 a5 : List Value) (a6 : Bool) (a7 : List Str) (a8 : List Value) (a9 : Bool) (b1 : Option Bool) (b2 : Option Addr) (c0 c1 c2 c3 c5 : Option Value),
    hp.get? C = some (excClassObj a1 a2 C a3 a4 a5 a6 a7 a8 a9 b1 b2 c0 c1 c2 c3 c5 mk) ∧ ∀ Y : String, a5.contains (.type Y) = ups.contains (.type Y)
/-- the heap behind the making: the arguments' tuple, the exception -/
abbrev made (hp : Heap) (C : Addr) (us : List Value) : Heap := (hp.push (W.kdv_tup us)).push (excO C hp.objs.size)
section
variable {Md : Model} {Ar : Around} {Ex : Value → Shared → Prop} {hp : Heap} {gs : Array GenState} {dr : Drawn} {tk : Nat} {sys : OsState} {ks : List (Str × Value)} {us ups : List Value} {C fI : Addr} {b0 mk ini : String}
theorem chk_kw (base : ExcBaseFacts b0 mk ini ups) (o : IsX hp C mk ups) {Q : Unit → Shared → Prop} (fin : Q () ⟨hp, gs, dr, tk, sys⟩) :
    wpAny Md Ar (checkBuiltinCall mk ⟨.ref C :: us, ks⟩) Q Ex ⟨hp, gs, dr, tk, sys⟩ := by
  obtain ⟨_, _, _, _, l, _, _, _, _, _, _, _, _, _, _, _, at', same⟩ := o
  have own : (Value.ref C :: l).contains (.type b0) = true := by
    have h1 := (same b0).trans base.hasB
    rw [List.contains_cons, h1]
    exact Bool.or_true _
  have st := base.noStar
  simp only [checkBuiltinCall, base.newKind, base.newSplit, base.newRow]
  repeat (first
    | refine wpAny_loadPart_at at' ?_
    | (refine wpAny_isSubtype_exc at' ?_; rw [own])
    | refine wpAny_staticBase_exc at' ?_
    | refine wpAny_madeBy_exc at' ?_
    | simp only [bne_self_eq_false, Bool.false_eq_true, if_false]
    | wp_step)
  exact fin
end
section
variable {pg : Program} {wd : World} {Ar : Around} {Ex : Value → Shared → Prop} {Rs : Result → Shared → Prop} {hp : Heap} {gs : Array GenState} {dr : Drawn} {tk : Nat} {sys : OsState} {ks : List (Str × Value)} {us ups : List Value} {C fI : Addr} {b0 mk ini : String}
theorem new_kw (base : ExcBaseFacts b0 mk ini ups) (o : IsX hp C mk ups) (fin : Rs (.ok (.ret (.ref (hp.objs.size + 1)))) ⟨made hp C us, gs, dr, tk, sys⟩) (few : us.length ≤ sizeLine) :
    codeAny (model pg wd) Ar (.builtin mk ⟨.ref C :: us, ks⟩) Rs ⟨hp, gs, dr, tk, sys⟩ := by
  obtain ⟨_, _, _, _, l, _, _, _, _, _, _, _, _, _, _, _, at', same⟩ := o
  have en := base.ends
  have has : ∀ Y : String, (Value.ref C :: l).contains (.type Y) = ups.contains (.type Y) := fun Y => by
    rw [List.contains_cons, same]
    rfl
  have y1 := (has b0).trans base.hasB
  have y2 := (has "AttributeError").trans base.noAttr
  have y3 := (has "NameError").trans base.noName
  refine codeAny_builtinAt base.entry (wpAt_bind ?_)
  show wpAt _ _ _ (stack >>= _) _ _ _
  refine wpAt_bind (wpAt_stack fun _ _ => wpAt_of_wpAny ?_)
  wp_walk
  refine wpAt_of_wpAny ?_
  rw [base.owner]
  repeat (first
    | with_reducible refine wpAny_madeHere_exc base.canon at' ?_
    | with_reducible refine wpAny_loadPart_at at' ?_
    | (with_reducible refine wpAny_isSubtype_exc at' ?_; first | rw [y1] | rw [y2] | rw [y3])
    | wp_step)
  show Rs _ _
  rw [Heap.size_push]
  exact fin
theorem type_kw (base : ExcBaseFacts b0 mk ini ups) (o : IsX hp C mk ups) {Q : Fin → Shared → Prop} (look : W.Looks (model pg wd) hp (typeLookup (.ref C) "__init__") (some (.ref fI)))
    (bnd : ∀ self, W.Looks (model pg wd) hp (bindSpecial (.ref fI) self) (.ref fI, [self])) (few : us.length ≤ sizeLine)
    (fin : codeAny (model pg wd) Ar (.call (.ref fI) ⟨.ref (hp.objs.size + 1) :: us, ks⟩) (fun r s2 => match r with
      | .ok (.ret v) => v = .none ∧ Q (.done (.ret (.ref (hp.objs.size + 1)))) s2
      | .ok _ => False
      | .error e => Ex e s2) ⟨made hp C us, gs, dr, tk, sys⟩) : wpAny (model pg wd) Ar (Builtin.«type.__call__» ⟨.ref C :: us, ks⟩) Q Ex ⟨hp, gs, dr, tk, sys⟩ := by
  have o2 := o
  obtain ⟨_, _, _, _, l, _, _, _, _, _, _, _, _, _, _, _, at', same⟩ := o
  repeat (first
    | with_reducible refine wpAny_loadPart_at at' ?_
    | with_reducible refine wpAny_madeBy_exc at' ?_
    | wp_step)
  refine codeAny_call_builtin_code (Code.quiet_builtin _ base.quiet) (chk_kw base o2 (new_kw base o2 ?_ few))
  show wpAny _ _ _ _ _ _
  have up : ∀ b x, hp.get? b = some x → (made hp C us).get? b = some x := fun _ _ e => Heap.get?_push_of_some _ (Heap.get?_push_of_some _ e)
  have at2 := up _ _ at'
  have it : (made hp C us).get? (hp.objs.size + 1) = some (excO C hp.objs.size) := by heap_get
  have own : (Value.ref C :: l).contains (.ref C) = true := by simp
  have l1 := look.keeps up
  have l2 := (bnd (.ref (hp.objs.size + 1))).keeps up
  unfold isInstance
  repeat (first
    | with_reducible refine wpAny_loadPart_at it ?_
    | (with_reducible refine wpAny_isSubtype_exc at2 ?_; rw [own])
    | wp_step)
  show wpAny _ _ (typeLookup (.ref C) _) _ _ _
  refine l1.at (wpAny_holding (wpAny_bind (l2.at (wpAny_bind (wpAny_call (codeAny_mono fin fun r s2 z => ?_))))))
  cases r with
  | error e => exact z
  | ok f =>
    cases f with
    | ret v =>
      obtain ⟨rfl, z⟩ := z
      first
        | exact wpAny_pure (wpAny_pure z)
        | (wp_walk; exact z)
    | _ => exact z.elim
theorem call_kw (base : ExcBaseFacts b0 mk ini ups) (o : IsX hp C mk ups) (look : W.Looks (model pg wd) hp (typeLookup (.ref C) "__init__") (some (.ref fI)))
    (bnd : ∀ self, W.Looks (model pg wd) hp (bindSpecial (.ref fI) self) (.ref fI, [self])) (few : us.length ≤ sizeLine)
    (fin : codeAny (model pg wd) (Ar.under (.builtin "type.__call__" ⟨.ref C :: us, ks⟩)) (.call (.ref fI) ⟨.ref (hp.objs.size + 1) :: us, ks⟩) (W.InitBack (hp.objs.size + 1) Rs) ⟨made hp C us, gs, dr, tk, sys⟩) :
    codeAny (model pg wd) Ar (.call (.ref C) ⟨us, ks⟩) Rs ⟨hp, gs, dr, tk, sys⟩ := by
  have o2 := o
  obtain ⟨_, _, _, _, _, _, _, _, _, _, _, _, _, _, _, _, at', _⟩ := o
  have x1 := tc_lookup
  have x2 := tc_bind (.ref C)
  have x3 : (⟨hp, gs, dr, tk, sys⟩ : Shared).TypeIs (.ref C) "type" := ⟨_, at', rfl⟩
  refine codeAny_of_tree ?_
  show wpAny _ _ (callAny (.ref C) _) _ _ _
  repeat (any_goals (first
    | assumption
    | with_reducible refine wpAny_loadPart_at at' ?_
    | wp_step))
  refine ⟨rfl, codeAny_call_builtin_at (Code.quiet_builtin _ (by decide +kernel)) entry_typeCall (wpAny_check_type_call_sub at' (type_kw base o2 look bnd few (codeAny_mono fin fun r s2 z => ?_)))⟩
  cases r with
  | error e => exact z
  | ok f => cases f <;> exact z
end
end MirX
end PySem
end

set_option maxHeartbeats 200000
section
/-! isinstance. -/
namespace Mir
open PySem L2
/-- an own class: its name, whether it is one of exceptions, the names of the classes that its instances are of -/
structure Kin where
  name : Str
  x : Bool
  ks : List Str
  deriving DecidableEq
/-- the classes that a value is of; L: the text's own classes -/
def kinOf (x : Bool) (c : Str) : List Kin → Option (List Str)
  | [] => none
  | k :: r => if k.name = c ∧ k.x = x then some k.ks else kinOf x c r
theorem kinOf_mem {x : Bool} {c : Str} {ks : List Str} : ∀ {L : List Kin}, kinOf x c L = some ks → ⟨c, x, ks⟩ ∈ L
  | [], h => by cases h
  | k :: r, h => by
    unfold kinOf at h
    split at h
    · rename_i e
      cases h
      obtain ⟨rfl, rfl⟩ := e
      exact List.mem_cons_self ..
    · exact List.mem_cons_of_mem _ (kinOf_mem h)
def D.kinds (L : List Kin) : D → Option (List Str)
  | .non => some ["NoneType"]
  | .bl _ => some ["bool", "int"]
  | .int _ => some ["int"]
  | .str _ => some ["str"]
  | .lst _ => some ["list"]
  | .tup _ => some ["tuple"]
  | .dct _ _ _ => some ["dict"]
  | .obj c _ _ => kinOf false c L
  | .xc c _ _ => kinOf true c L
  | .raw _ => none
def D.isaD (L : List Kin) (ts : List Str) (d : D) : Option D := (D.kinds L d).map fun ks => .bl (ts.any fun t => ks.contains t)
/-- an instance asked for its class -/
def AsksCls (K : PySem.W.Frag) (C : Addr) : Prop := (PySem.W.findIn K (.ref C) "__class__" = some (some (.builtin "object.__class__")) ∧ PySem.W.specialIn K (.builtin "object.__class__") "__get__" = some (some (.builtin "getset_descriptor.__get__"))) ∧ PySem.W.takesIn K (.builtin "object.__class__") = some true ∧ PySem.W.mroIn K C (.type "object") = some true
/-- what is known of an own class whose instances are data -/
structure ObF (K : PySem.W.Frag) (C : Addr) : Prop where
  cls : Cls K C
  kc : AsksCls K C
/-- what is known of an own class of exceptions -/
structure XcF (K : PySem.W.Frag) (C : Addr) : Prop where
  hcl : (PySem.W.clsIn K C).isSome = true
  xf : XfC K C
  kc : AsksCls K C
def ClF (K : PySem.W.Frag) (x : Bool) (C : Addr) : Prop := match x with
  | false => ObF K C
  | true => XcF K C
def kindsTy : List (String × List Str) := [("NoneType", ["NoneType"]), ("bool", ["bool", "int"]), ("int", ["int"]), ("str", ["str"]), ("list", ["list"]), ("tuple", ["tuple"]), ("dict", ["dict"])]
/-- what isinstance says of the class u, called t -/
structure KitF (K : PySem.W.Frag) (cA : Str → Addr) (L : List Kin) (u : Value) (t : Str) : Prop where
  ty : ∀ n ∈ kindsTy, PySem.W.kitOne K (.type n.1) u = some (n.2.contains t)
  ob : ∀ k ∈ L, PySem.W.kitOne K (.ref (cA k.name)) u = some (k.ks.contains t)
/-- a value's class, as isinstance sees it -/
inductive KIn (K : PySem.W.Frag) (H : Hp) : V → Value → Prop where
  | ty {x : V} {t : Value} (h : TyX K H x t) : KIn K H x t
  | xc {a C : Addr} {d : Option Addr} (h : H a = some (exo a C d)) (hd : ∀ dx, d = some dx → ∃ fs, H dx = some (exd dx fs)) (f : XcF K C) : KIn K H (.ref a) (.ref C)
  | frzT {a : Addr} {o : Obj} {kvs : List (List L2.Key × V)} (e : H a = some (.frz o (.dT kvs))) : KIn K H (.ref a) (.type "dict")
section
variable {X : Cx} {pins : List (Addr × Obj)} {σ : L2.St} {H : Hp} {s : Shared}
theorem exo_inst {a C : Addr} {d : Option Addr} (I : Inv X pins σ H s) (h : H a = some (exo a C d)) (hd : ∀ dx, d = some dx → ∃ fs, H dx = some (exd dx fs)) :
    ∃ oe od, PySem.W.InstAt s.heap a oe C od ∧ ∀ dx, d = some dx → ∃ o, od = some o ∧ s.heap.get? dx = some o := by
  obtain ⟨t1, ho⟩ := exo_at I.hok h
  cases d with
  | none => exact ⟨_, none, ⟨ho, rfl, rfl, trivial⟩, fun dx e => by cases e⟩
  | some dx =>
    obtain ⟨fs, q⟩ := hd dx rfl
    obtain ⟨mA, hn, _⟩ := exd_at I.hok q
    obtain ⟨o, es, ep, e1, e2⟩ := hn
    exact ⟨_, some o, ⟨ho, rfl, rfl, e1⟩, fun dx' e => by cases e; exact ⟨o, rfl, e1⟩⟩
theorem kit_in {x : V} {u t : Value} (I : Inv X pins σ H s) (rx : RelV x u) (ty : KIn X.K H x t) : ∃ P : Heap → Prop, PySem.W.KitX X.K u t P ∧ P s.heap ∧ u ≠ .builtin "__main__.__loader__#opaque" := by
  cases ty with
  | ty h => exact kit_of I rx h
  | xc h hd f =>
    cases rx
    obtain ⟨oe, od, J, _⟩ := exo_inst I h hd
    exact ⟨_, PySem.W.kitx_exc f.hcl f.xf.ga f.xf.gg f.xf.exC f.kc.1.1 f.kc.1.2 f.kc.2.1 f.kc.2.2, J, fun z => nomatch z⟩
  | @frzT a o kvs e =>
    cases (show u = Value.ref a from rx)
    obtain ⟨_, hg, hx, _⟩ := I.frzT e
    exact ⟨_, PySem.W.kitx_dict, ⟨o, hg, hx.1⟩, fun z => nomatch z⟩
/-- isinstance of one class -/
def rIk (K : PySem.W.Frag) : List V → Hp → VK → Prop := fun xs H Q => ∃ (x c : V) (t u : Value) (b : Bool), xs = [x, c] ∧ ClsV c u ∧ KIn K H x t ∧ PySem.W.kitOne K t u = some b ∧ Q (.bl b) H
/-- isinstance(x, (c1, c2, ..)) -/
def rIkT (K : PySem.W.Frag) : List V → Hp → VK → Prop := fun xs H Q => ∃ (x : V) (tp : Addr) (cs : List V) (t : Value) (us : List Value) (b : Bool), xs = [x, .ref tp] ∧ H tp = some (.tup cs) ∧ Paired ClsV cs us ∧ KIn K H x t ∧ PySem.W.kitAny K t us = some b ∧ Q (.bl b) H
theorem call_ik : CallR X (.builtin "isinstance") (rIk X.K) := by
  rintro pins s σ H xs us Q J r ⟨x, cl, t, u, yes, rfl, kv, ty, said, z⟩
  obtain ⟨v1, v2, rfl, p1, p2⟩ := vals2 r
  cases kv.eq p2
  obtain ⟨_, K1, K2, K3⟩ := kit_in J p1 ty
  exact PySem.W.kia_one K1 J.kIn K2 said K3 fun tk => ⟨.bl yes, H, J.tok tk, rfl, z⟩
theorem call_ikT : CallR X (.builtin "isinstance") (rIkT X.K) := by
  rintro pins s σ H xs us Q J r ⟨x, at', cs, t, ws, yes, rfl, tup, kv, ty, said, z⟩
  obtain ⟨v1, v2, rfl, p1, p2⟩ := vals2 r
  cases p2
  obtain ⟨_, K1, K2, K3⟩ := kit_in J p1 ty
  have lay : ObjOk X.prog X.w H s.heap at' (.tup cs) := J.hok at' _ tup
  obtain ⟨_, _, items, o, g1, g2, ep, g3⟩ := lay
  cases ClsV.all kv items
  obtain ⟨q1, q2, q3, q4⟩ := o
  simp only at g2 g3
  subst g2 g3
  exact PySem.W.kia_tup K1 J.kIn K2 g1 said K3 fun tk => ⟨.bl yes, H, J.tok tk, rfl, z⟩
end
section
variable {X : Cx} {c : Ct} {Γ : List Md} {pa : Pv} {ma : ME} {a ce : Expr} {pos p1 : Pos} {L : List Kin}
theorem kind_ty {H : Hp} {d : D} {x : V} {ks : List Str} (r : Rep c.cA H d x) (hk : D.kinds L d = some ks) (ob : ∀ k ∈ L, ClF X.K k.x (c.cA k.name)) :
    ∃ tv : Value, KIn X.K H x tv ∧ ∀ u t, KitF X.K c.cA L u t → PySem.W.kitOne X.K tv u = some (ks.contains t) := by
  cases d <;> simp only [D.kinds] at hk
  · cases hk
    simp only [Rep] at r
    subst r
    exact ⟨_, .ty (.base .non), fun u t k => k.ty ("NoneType", _) (by simp [kindsTy])⟩
  · cases hk
    simp only [Rep] at r
    subst r
    exact ⟨_, .ty (.base (.bl _)), fun u t k => k.ty ("bool", _) (by simp [kindsTy])⟩
  · cases hk
    simp only [Rep] at r
    subst r
    exact ⟨_, .ty (.base (.int _)), fun u t k => k.ty ("int", _) (by simp [kindsTy])⟩
  · cases hk
    simp only [Rep] at r
    subst r
    exact ⟨_, .ty (.base (.str _)), fun u t k => k.ty ("str", _) (by simp [kindsTy])⟩
  · cases hk
    simp only [Rep] at r
    obtain ⟨l, vs, rfl, h1, _⟩ := r
    exact ⟨_, .ty (.base (.lst h1)), fun u t k => k.ty ("list", _) (by simp [kindsTy])⟩
  · cases hk
    simp only [Rep] at r
    obtain ⟨l, vs, rfl, h1, _⟩ := r
    exact ⟨_, .ty (.base (.tup h1)), fun u t k => k.ty ("tuple", _) (by simp [kindsTy])⟩
  · cases hk
    rename_i t ks vs
    simp only [Rep] at r
    obtain ⟨l, vs, rfl, h1, _⟩ := r
    cases t with
    | false =>
      obtain ⟨kvs, h1 | ⟨o, h1⟩, _⟩ := h1
      · exact ⟨_, .ty (.base (.dK h1)), fun u t k => k.ty ("dict", _) (by simp [kindsTy])⟩
      · exact ⟨_, .ty (.fDict h1), fun u t k => k.ty ("dict", _) (by simp [kindsTy])⟩
    | true =>
      obtain ⟨kvs, h1 | ⟨o, h1⟩, _⟩ := h1
      · exact ⟨_, .ty (.base (.dT h1)), fun u t k => k.ty ("dict", _) (by simp [kindsTy])⟩
      · exact ⟨_, .frzT h1, fun u t k => k.ty ("dict", _) (by simp [kindsTy])⟩
  · have hm := kinOf_mem hk
    simp only [Rep] at r
    obtain ⟨l, dx, fs, rfl, h1, _⟩ := r
    have o : ObF X.K _ := ob _ hm
    exact ⟨_, .ty (.base (.ins h1 o.cls o.kc.1.1 o.kc.1.2 o.kc.2.1 o.kc.2.2)), fun u t k => k.ob _ hm⟩
  · have hm := kinOf_mem hk
    simp only [Rep] at r
    have o : XcF X.K _ := ob _ hm
    obtain ⟨l, rfl, ⟨_, _, h1⟩ | ⟨dx, fs, h1, h2, _⟩⟩ := r
    · exact ⟨_, .xc h1 (fun dx e => by cases e) o, fun u t k => k.ob _ hm⟩
    · exact ⟨_, .xc h1 (fun dx e => by cases e; exact ⟨_, h2⟩) o, fun u t k => k.ob _ hm⟩
  · cases hk
/-- isinstance(e, T), one class -/
theorem ge_isa1 {cv : V} {u : Value} {t : Str} (hce : PE X ce (tC cv)) (hcv : ClsV cv u) (kit : KitF X.K c.cA L u t) (ob : ∀ k ∈ L, ClF X.K k.x (c.cA k.name)) (hg : Gl X "isinstance") (hm : X.mg "isinstance" = none) (ha : GE X c Γ a ma pa)
    (he : starEach [a, ce] X.env = (false, eval a X.env) :: starEach [ce] X.env := by rfl) (he2 : starEach [ce] X.env = (false, eval ce X.env) :: starEach [] X.env := by rfl) (hpl : (backTo pos (starEach [ce] X.env)).any (·.1) = false := by rfl) :
    GE X c Γ (.Call (.Name "isinstance" p1) [a, ce] [] pos) (E.un (D.isaD L [t]) ma) fz := by
  refine pe_imp (pe_callB call_ik hg hm (by decide +kernel) (pa_cons ha (pa_cons hce pa_nil he2) he) (by decide) (by decide) he hpl) fun σ H Q ⟨G, env, ds, g, h⟩ => ?_
  refine read1 (p := fz) (Q := Q) g h fun dx ds1 x G1 H1 e1 s1 g1 r1 h1 => ?_
  obtain ⟨d, hd, q⟩ := Run.lift h1
  obtain ⟨ks, hk, rfl⟩ := Option.map_eq_some_iff.mp hd
  obtain ⟨tv, ty, ki⟩ := kind_ty (X := X) (r1.rep e1.sub) hk ob
  refine ⟨x, cv, tv, u, _, rfl, hcv, ty, ki u t kit, ?_⟩
  simp only [List.any_cons, List.any_nil, Bool.or_false] at q
  exact ok_bl q e1 s1
theorem any_kit {tv : Value} {ks : List Str} (hL : ∀ u t, KitF X.K c.cA L u t → PySem.W.kitOne X.K tv u = some (ks.contains t)) : ∀ {us : List Value} {ts : List Str}, Paired (KitF X.K c.cA L) us ts → PySem.W.kitAny X.K tv us = some (ts.any fun t => ks.contains t)
  | _, _, .nil => rfl
  | _, _, .cons (a := u) (b := t) k r => by
    have h1 := hL _ _ k
    have h2 := any_kit hL r
    unfold PySem.W.kitAny
    rw [h1, List.any_cons]
    cases ks.contains t with
    | true => rfl
    | false => exact h2
/-- isinstance(e, (T1, T2)) -/
theorem ge_isaT {ces : List Expr} {k : Nat} {p2 : Pos} {cvs : List V} {us : List Value} {ts : List Str} (hces : PA X ces (fun _ H Q => Q cvs H)) (hcv : Paired ClsV cvs us) (kit : Paired (KitF X.K c.cA L) us ts) (ob : ∀ k ∈ L, ClF X.K k.x (c.cA k.name)) (hn : cvs.length ≤ sizeLine)
    (hg : Gl X "isinstance") (hm : X.mg "isinstance" = none) (ha : GE X c Γ a ma pa)
    (he : starEach [a, .Tuple ces k p2] X.env = (false, eval a X.env) :: starEach [.Tuple ces k p2] X.env := by rfl) (he2 : starEach [.Tuple ces k p2] X.env = (false, eval (.Tuple ces k p2) X.env) :: starEach [] X.env := by rfl) (hpl : (backTo pos (starEach [.Tuple ces k p2] X.env)).any (·.1) = false := by rfl) :
    GE X c Γ (.Call (.Name "isinstance" p1) [a, .Tuple ces k p2] [] pos) (E.un (D.isaD L ts) ma) fz := by
  refine pe_imp (pe_callB call_ikT hg hm (by decide +kernel) (pa_cons ha (pa_cons (pe_tup hces) pa_nil he2) he) (by decide) (by decide) he hpl) fun σ H Q ⟨G, env, ds, g, h⟩ => ?_
  refine read1 (p := fz) (Q := Q) g h fun dx ds1 x G1 H1 e1 s1 g1 r1 h1 => ?_
  obtain ⟨d, hd, q⟩ := Run.lift h1
  obtain ⟨ks, hk, rfl⟩ := Option.map_eq_some_iff.mp hd
  refine ⟨hn, fun P hP => ?_⟩
  have r1' := (r1.rep e1.sub).mono (G' := upd H1 P (.tup cvs)) fun b o q => by rw [upd_ne (ne_of_none q hP)]; exact q
  obtain ⟨tv, ty, ki⟩ := kind_ty (X := X) r1' hk ob
  exact ⟨x, P, cvs, tv, us, _, rfl, upd_same, hcv, ty, any_kit ki kit, ok_bl q (e1.trans (Ext.laid e1.sub hP _)) (s1.laid hP _)⟩
/-- T in isinstance(e, T): a built-in type, an own class -/
theorem pe_clsT {x : Str} {n : String} {t : Pos} (h : PE X (.Name x t) (tC (.ty n))) : PE X (.Name x t) (tC (.ty n)) := h
theorem pa_cls {cv : V} {cvs : List V} {ces : List Expr} (h : PE X ce (tC cv)) (hr : PA X ces (fun _ H Q => Q cvs H)) (hs : starEach (ce :: ces) X.env = (false, eval ce X.env) :: starEach ces X.env := by rfl) : PA X (ce :: ces) (fun _ H Q => Q (cv :: cvs) H) :=
  pa_imp (pa_cons h hr hs) fun σ H Q q => q
theorem pa_cls0 : PA X [] (fun _ H Q => Q [] H) := pa_imp pa_nil fun σ H Q q => q
end
end Mir
end

set_option maxHeartbeats 200000
section
/-! What changes an own value. -/
namespace Mir
open PySem L2
section
variable {X : Cx} {c : Ct} {Γ : List Md} {G H G' H' : Hp} {σ : L2.St} {env : List Val} {ds : DS} {ass : List (List Addr)}
/-- the own nodes of slot i are rewritten; new nodes may come in -/
theorem write_slots {i : Nat} {m : Ow} {d : D} {v : V} {as as' : List Addr} (sub : Same G H) (st : StOk c.S G H ds) (base : ExtA c.lent c.S c.G0 c.H0 G H) (s : Slots c G H Γ σ env ass) (o : OwnOk c G ass)
    (hi : ass[i]? = some as) (hσ : σ[i]? = some (some v)) (ch : ∀ b, b ∉ as → H' b = H b) (th : ∀ b ∈ as, ∃ x, H' b = some x) (r : RepO c.cA G H' m d v as') (nd : as'.Nodup)
    (fr : ∀ a ∈ as', a ∈ as ∨ (a ∉ ass.flatten ∧ G a = none ∧ a ∉ stN c.S ∧ c.H0 a = none)) : Good c (Γ.set i (.ow m)) G H' σ (env.set i (.d d)) ds := by
  have hl : i < Γ.length := by
    rw [← s.len.2.2]
    exact (List.getElem?_eq_some_iff.mp hi).1
  have own : ∀ a ∈ as, G a = none ∧ a ∉ stN c.S := fun a ha => o.fr a (mem_flatten_of hi ha)
  have e1 : σ.set i (some v) = σ := by
    apply List.ext_getElem?
    intro j
    by_cases hj : i = j
    · subst hj
      rw [List.getElem?_set_self (List.getElem?_eq_some_iff.mp hσ).1, hσ]
    · rw [List.getElem?_set_ne hj]
  refine ⟨fun b x q => ?_, st.at (fun _ _ => rfl) (fun a ha => ch a fun z => (own a z).2 ha), ⟨base.g, fun b x hs hL q => ?_, fun b x q => ?_, base.new, fun b x q => ?_⟩, ass.set i as', ?_, ?_⟩
  · rw [ch b fun z => by rw [(own b z).1] at q; cases q]
    exact sub _ _ q
  · by_cases hb : b ∈ as
    · rcases o.en i as hi b hb with z | z
      · rw [z] at q; cases q
      · exact absurd z.2 hL
    · rw [ch b hb]
      exact base.h b x hs hL q
  · by_cases hb : b ∈ as
    · exact th b hb
    · rw [ch b hb]
      exact base.s b x q
  · rw [ch b fun z => by rw [(own b z).1] at q; cases q]
    exact sub _ _ q
  · -- the slots
    have key : ∀ (j : Nat) {Γ : List Md} {σ : L2.St} {env : List Val} {ass : List (List Addr)}, (∀ (k : Nat) bs, k ≠ j → ass[k]? = some bs → ∀ a ∈ bs, a ∉ as) → j < Γ.length → Slots c G H Γ σ env ass → Slots c G H' (Γ.set j (.ow m)) (σ.set j (some v)) (env.set j (.d d)) (ass.set j as') := by
      intro j Γ σ env ass dj hj s
      induction s generalizing j with
      | nil => simp at hj
      | un x e s ih =>
        cases j with
        | zero => exact .ow r (s.agree (Same.refl _) fun a ha => by
            obtain ⟨l, hl1, hl2⟩ := List.mem_flatten.mp ha
            obtain ⟨k, hk, ek⟩ := List.mem_iff_getElem.mp hl1
            exact ch a (dj (k + 1) l (by omega) (by simp [hk, ek]) a hl2))
        | succ j => exact .un x e (ih j (fun k bs hk hb => dj (k + 1) bs (by omega) (by simpa using hb)) (by simpa using hj))
      | @ow _ _ _ _ m' d' v' as0 r' s ih =>
        cases j with
        | zero => exact .ow r (s.agree (Same.refl _) fun a ha => by
            obtain ⟨l, hl1, hl2⟩ := List.mem_flatten.mp ha
            obtain ⟨k, hk, ek⟩ := List.mem_iff_getElem.mp hl1
            exact ch a (dj (k + 1) l (by omega) (by simp [hk, ek]) a hl2))
        | succ j => exact .ow (r'.agree (Same.refl _) fun a ha => ch a (dj 0 as0 (by omega) rfl a ha)) (ih j (fun k bs hk hb => dj (k + 1) bs (by omega) (by simpa using hb)) (by simpa using hj))
      | fn f s ih =>
        cases j with
        | zero => exact .ow r (s.agree (Same.refl _) fun a ha => by
            obtain ⟨l, hl1, hl2⟩ := List.mem_flatten.mp ha
            obtain ⟨k, hk, ek⟩ := List.mem_iff_getElem.mp hl1
            exact ch a (dj (k + 1) l (by omega) (by simp [hk, ek]) a hl2))
        | succ j => exact .fn f (ih j (fun k bs hk hb => dj (k + 1) bs (by omega) (by simpa using hb)) (by simpa using hj))
      | st f s ih =>
        cases j with
        | zero => exact .ow r (s.agree (Same.refl _) fun a ha => by
            obtain ⟨l, hl1, hl2⟩ := List.mem_flatten.mp ha
            obtain ⟨k, hk, ek⟩ := List.mem_iff_getElem.mp hl1
            exact ch a (dj (k + 1) l (by omega) (by simp [hk, ek]) a hl2))
        | succ j => exact .st f (ih j (fun k bs hk hb => dj (k + 1) bs (by omega) (by simpa using hb)) (by simpa using hj))
    have := key i (fun k bs hk hb a ha z => nodup_flatten_apart o.nd hk hb hi ha z) hl s
    rw [e1] at this
    exact this
  · refine o.set nd (fun j bs hj hb a ha hab => ?_) (fun a ha => ?_) (fun a ha => ?_)
    · rcases fr a ha with z | z
      · exact nodup_flatten_apart o.nd hj hb hi hab z
      · exact z.1 (mem_flatten_of hb hab)
    · rcases fr a ha with z | z
      · exact own a z
      · exact ⟨z.2.1, z.2.2.1⟩
    · rcases fr a ha with z | z
      · exact o.en i as hi a z
      · exact .inl z.2.2.2
/-- the slot at i, an own list -/
theorem slot_at {i : Nat} {mi : Ow} (g : Good c Γ G H σ env ds) (hi : Γ[i]? = some (.ow mi)) : ∃ ass v d as, Slots c G H Γ σ env ass ∧ OwnOk c G ass ∧ σ[i]? = some (some v) ∧ env[i]? = some (.d d) ∧ ass[i]? = some as ∧ RepO c.cA G H mi d v as := by
  obtain ⟨ass, s, o⟩ := g.slots
  obtain ⟨v, d, as, h1, h2, h3, h4⟩ := s.get hi
  exact ⟨ass, v, d, as, s, o, h1, h2, h3, h4⟩
end
namespace S
/-- x.append(e) -/
def append (i : Nat) (e : ME) : MS := fun env => e env >>= fun d => match env[i]? with
  | some (.d (.lst xs)) => if xs.length < sizeLine then pure (.nx (env.set i (.d (.lst (xs ++ [d]))))) else M.stuck
  | _ => M.stuck
def extend (i : Nat) (e : ME) : MS := fun env => e env >>= fun d => match env[i]?, d with
  | some (.d (.lst xs)), .lst ys => if xs.length + ys.length ≤ sizeLine then pure (.nx (env.set i (.d (.lst (xs ++ ys))))) else M.stuck
  | _, _ => M.stuck
end S
section
variable {X : Cx} {c : Ct} {Γ : List Md} {ma mb : ME} {a b e : Expr} {mo : Ow} {pos p1 p2 p3 : Pos} {x : Str} {i : Nat}
theorem gs_append {m : Ow} (hi : Γ[i]? = some (.ow (.lst m))) (he : GE X c Γ e ma (.ow m)) (hN : X.N[i]? = some x) (hv : Vis X.env.scope x)
    (hpe : PE X (.Call (.Attribute (.Name x p1) "append" p2) [e] [] pos) (tBM X.K "list" rAppend (tVar i) (tCons (tGE c Γ ma (.ow m)) tNil))) (hs : swapsWith (.Call (.Attribute (.Name x p1) "append" p2) [e] [] pos) none p3.line X.env = pure false := by rfl) :
    GS X c Γ (.Expr (.Call (.Attribute (.Name x p1) "append" p2) [e] [] pos) p3) (S.append i ma) (Γ.set i (.ow (.lst m))) mo := by
  refine ps_imp (ps_expr hpe hs) fun Dn σ H ⟨G, env, ds, g, h⟩ => ?_
  obtain ⟨ass, v, d, as, s, o, h1, h2, h3, h4⟩ := slot_at g hi
  simp only [RepO] at h4
  obtain ⟨l, xs, vs, r, rfl, rfl, rfl, k1, k2⟩ := h4
  refine ⟨.ref l, h1, .inl ⟨rfl, vs, SqL.of k1⟩, G, env, ds, g, run_at g h fun dd ds1 q y G1 H1 e1 s1 r1 => ?_⟩
  simp only [h2] at q
  split at q
  · rename_i hz
    obtain ⟨s', o'⟩ := slots_ext g.sub e1 s o
    have hown := o.fr l (mem_flatten_of h3 (by simp))
    have k1' : H1 l = some (.lst vs) := e1.h l _ hown.2 (by simp) k1
    obtain ⟨bs, r1, nb, fb⟩ := r1
    have hlen : vs.length = xs.length := k2.length
    have ns : ∀ a ∈ bs, a ∉ stN c.S := fun a ha z => by
      obtain ⟨o, q⟩ := g.st.there z
      rw [(fb a ha).1] at q
      cases q
    have nl : l ∉ bs := fun z => by
      rw [(fb l z).1] at k1
      cases k1
    have nr : ∀ a ∈ r, a ≠ l := fun a ha z => by
      have nd := List.Nodup.sublist (List.sublist_flatten_of_mem (List.mem_of_getElem? h3)) o.nd
      rw [z] at ha
      exact (List.nodup_cons.mp nd).1 ha
    have al : AllO (RepO c.cA G1 (upd H1 l (.lst (vs ++ [y]))) m) xs vs r := by
      have ag : ∀ a ∈ r, upd H1 l (.lst (vs ++ [y])) a = H a := fun a ha => by
        rw [upd_ne (nr a ha)]
        obtain ⟨o1, q1⟩ := s.there a (mem_flatten_of h3 (List.mem_cons_of_mem _ ha))
        rw [q1, e1.h a o1 (o.fr a (mem_flatten_of h3 (List.mem_cons_of_mem _ ha))).2 (by simp) q1]
      exact AllO.imp (as0 := r) (fun d v as hs q => q.agree e1.g fun a ha => ag a (hs a ha)) (fun _ z => z) k2
    refine ⟨l, vs, y, rfl, rfl, k1', by omega, ?_⟩
    refine (show OkS c G (Γ.set i (.ow (.lst m))) mo Dn (.nx (env.set i (.d (.lst (xs ++ [dd]))))) ds1 from q) σ G1 _ e1.g ?_
    refine write_slots (as := l :: r) (as' := l :: (r ++ bs)) e1.sub s1 (g.base.trans e1.more) s' o' h3 h1 (fun b hb => upd_ne (fun z => hb (by simp [z]))) (fun b hb => ?_) ?_ ?_ (fun a ha => ?_)
    · by_cases e : b = l
      · exact ⟨_, by rw [e]; exact upd_same⟩
      · rw [upd_ne e]
        exact s'.there b (mem_flatten_of h3 hb)
    · simp only [RepO]
      exact ⟨l, xs ++ [dd], vs ++ [y], r ++ bs, rfl, rfl, rfl, upd_same, AllO.append al ⟨y, [], bs, [], rfl, by simp, r1.agree (Same.refl _) fun a ha => upd_ne (fun z => nl (z ▸ ha)), rfl, rfl⟩⟩
    · have nd := List.Nodup.sublist (List.sublist_flatten_of_mem (List.mem_of_getElem? h3)) o.nd
      refine List.nodup_cons.mpr ⟨fun z => ?_, List.nodup_append.mpr ⟨(List.nodup_cons.mp nd).2, nb, fun a ha b hb e => ?_⟩⟩
      · rcases List.mem_append.mp z with z | z
        · exact (List.nodup_cons.mp nd).1 z
        · exact nl z
      · subst e
        obtain ⟨o1, q1⟩ := s.there a (mem_flatten_of h3 (List.mem_cons_of_mem _ ha))
        rw [(fb a hb).1] at q1
        cases q1
    · rcases List.mem_cons.mp ha with z | z
      · exact .inl (by simp [z])
      · rcases List.mem_append.mp z with z | z
        · exact .inl (List.mem_cons_of_mem _ z)
        · refine .inr ⟨fun w => ?_, (fb a z).2, ns a z, g.base.free (fb a z).1⟩
          obtain ⟨o1, q1⟩ := s.there a w
          rw [(fb a z).1] at q1
          cases q1
  · exact q.elim
/-- an own list of frozen parts, as it stands behind an expression -/
theorem flat_lst {G H : Hp} {σ : L2.St} {env : List Val} {ds : DS} (g : Good c Γ G H σ env ds) (hi : Γ[i]? = some (.ow (.lst .fz))) :
    ∃ l xs vs, σ[i]? = some (some (.ref l)) ∧ env[i]? = some (.d (.lst xs)) ∧ H l = some (.lst vs) ∧ RepL c.cA G xs vs ∧ ∀ G1 H1 ds1, Ext c.S G H G1 H1 → StOk c.S G1 H1 ds1 → H1 l = some (.lst vs) ∧
      ∀ xs' vs', RepL c.cA G1 xs' vs' → Good c Γ G1 (upd H1 l (.lst vs')) σ (env.set i (.d (.lst xs'))) ds1 := by
  obtain ⟨ass, v, d, as, s, o, h1, h2, h3, h4⟩ := slot_at g hi
  simp only [RepO] at h4
  obtain ⟨l, xs, vs, r, rfl, rfl, rfl, k1, k2⟩ := h4
  obtain ⟨er, k2'⟩ := allO_fz' (H := H) k2
  subst er
  have hown := o.fr l (mem_flatten_of h3 (by simp))
  refine ⟨l, xs, vs, h1, h2, k1, k2', fun G1 H1 ds1 e1 s1 => ⟨e1.h l _ hown.2 (by simp) k1, fun xs' vs' r' => ?_⟩⟩
  obtain ⟨s', o'⟩ := slots_ext g.sub e1 s o
  have eΓ : Γ.set i (.ow (.lst .fz)) = Γ := by
    apply List.ext_getElem?
    intro j
    by_cases hj : i = j
    · subst hj
      rw [List.getElem?_set_self (List.getElem?_eq_some_iff.mp hi).1, hi]
    · rw [List.getElem?_set_ne hj]
  rw [← eΓ]
  refine write_slots (as := [l]) (as' := [l]) e1.sub s1 (g.base.trans e1.more) s' o' h3 h1 (fun b hb => upd_ne (by simpa using hb)) (fun b hb => ?_) ?_ (by simp) (fun a ha => .inl ha)
  · simp only [List.mem_singleton] at hb
    exact ⟨_, by rw [hb]; exact upd_same⟩
  · simp only [RepO]
    exact ⟨l, xs', vs', [], rfl, rfl, rfl, upd_same, allO_fz (H := upd H1 l (.lst vs')) r'⟩
theorem gs_extend {pa : Pv} (hp : pa.flat = true) (hi : Γ[i]? = some (.ow (.lst .fz))) (he : GE X c Γ e ma pa) (hN : X.N[i]? = some x) (hv : Vis X.env.scope x)
    (hpe : PE X (.Call (.Attribute (.Name x p1) "extend" p2) [e] [] pos) (tBM X.K "list" rExtend (tVar i) (tCons (tGE c Γ ma pa) tNil))) (hs : swapsWith (.Call (.Attribute (.Name x p1) "extend" p2) [e] [] pos) none p3.line X.env = pure false := by rfl) :
    GS X c Γ (.Expr (.Call (.Attribute (.Name x p1) "extend" p2) [e] [] pos) p3) (S.extend i ma) Γ mo := by
  refine ps_imp (ps_expr hpe hs) fun Dn σ H ⟨G, env, ds, g, h⟩ => ?_
  obtain ⟨l, xs, vs, h1, h2, k1, k2, k3⟩ := flat_lst g hi
  refine ⟨.ref l, h1, .inl ⟨rfl, vs, SqL.of k1⟩, G, env, ds, g, run_at g h fun dd ds1 q y G1 H1 e1 s1 r1 => ?_⟩
  simp only [h2] at q
  cases dd <;> first | exact q.elim | skip
  rename_i ys
  simp only at q
  split at q
  · rename_i hz
    obtain ⟨k4, k5⟩ := k3 G1 H1 ds1 e1 s1
    obtain ⟨b, ws, rfl, n1, n2⟩ := kids e1.sub hp r1
    exact ⟨l, b, vs, ws, rfl, rfl, k4, n1, by rw [k2.length, n2.length]; exact hz, (show OkS c G Γ mo Dn (.nx _) ds1 from q) σ G1 _ e1.g (k5 _ _ ((k2.mono e1.g).append n2))⟩
  · exact q.elim
end
namespace S
/-- y = x.pop(e) -/
def popA (j i : Nat) (e : ME) : MS := fun env => e env >>= fun d => match env[i]?, d with
  | some (.d (.lst xs)), .int k => (match L2.ixN xs.length k with
    | some n => M.lift xs[n]? >>= fun y => pure (.nx ((env.set i (.d (.lst (xs.eraseIdx n)))).set j (.d y)))
    | none => M.stuck)
  | _, _ => M.stuck
/-- a.append(b.pop(e)) -/
def appPop (j i : Nat) (e : ME) : MS := fun env => e env >>= fun d => match env[i]?, env[j]?, d with
  | some (.d (.lst xs)), some (.d (.lst ys)), .int k => (match L2.ixN xs.length k with
    | some n => if ys.length < sizeLine then M.lift xs[n]? >>= fun y => pure (.nx ((env.set i (.d (.lst (xs.eraseIdx n)))).set j (.d (.lst (ys ++ [y]))))) else M.stuck
    | none => M.stuck)
  | _, _, _ => M.stuck
/-- x.insert(i, e) -/
def insert (i : Nat) (k e : ME) : MS := fun env => k env >>= fun dk => e env >>= fun d => match env[i]?, dk with
  | some (.d (.lst xs)), .int n => if xs.length < sizeLine ∧ 0 ≤ n ∧ n < 2 ^ 63 then pure (.nx (env.set i (.d (.lst (xs.take n.toNat ++ d :: xs.drop n.toNat))))) else M.stuck
  | _, _ => M.stuck
/-- x[k] = e -/
def setI (i : Nat) (k e : ME) : MS := fun env => e env >>= fun d => k env >>= fun dk => match env[i]?, dk with
  | some (.d (.lst xs)), .int n => (match L2.ixN xs.length n with
    | some j => pure (.nx (env.set i (.d (.lst (xs.set j d)))))
    | none => M.stuck)
  | _, _ => M.stuck
end S
section
variable {X : Cx} {c : Ct} {Γ : List Md} {ma mb : ME} {a b e : Expr} {mo : Ow} {pos p1 p2 p3 : Pos} {x y : Str} {i j : Nat}
theorem ixN_seq {n : Nat} {k : Int} {m : Nat} (h : L2.ixN n k = some m) (h63 : n < 2 ^ 63) : -(2 ^ 63) ≤ k ∧ k < 2 ^ 63 ∧ seqIndex? k n = some m ∧ m < n := by
  unfold L2.ixN at h
  split at h
  · rename_i h0
    split at h
    · rename_i h1
      have e : k.toNat = m := Option.some.inj h
      refine ⟨by omega, by omega, ?_, by omega⟩
      rw [seqIndex_of h0 (by omega), e]
    · cases h
  · rename_i h0
    split at h
    · rename_i h1
      have e : (k + n).toNat = m := Option.some.inj h
      refine ⟨by omega, by omega, ?_, by omega⟩
      rw [seqIndex_neg (by omega) (by omega), e]
    · cases h
theorem gs_setI {m : Ow} (hi : Γ[i]? = some (.ow (.lst .fz))) (he : GE X c Γ e ma fz) (hk : GE X c Γ b mb fz) (hN : X.N[i]? = some x) (hv : Vis X.env.scope x)
    (hps : PS X (.Assign [.Subscript (.Name x p1) b p2] e pos) (tAsg (tGE c Γ ma fz) (gSub (tVar i) (tGE c Γ mb fz) rSetL))) :
    GS X c Γ (.Assign [.Subscript (.Name x p1) b p2] e pos) (S.setI i mb ma) Γ mo := by
  refine ps_imp hps fun Dn σ H ⟨G, env, ds, g, h⟩ => ⟨G, env, ds, g, run_at g h fun dd ds1 q v G1 H1 e1 s1 r1 => ?_⟩
  have g1 := g.ext e1 s1
  obtain ⟨l, xs, vs, h1, h2, k1, k2, k3⟩ := flat_lst g1 hi
  refine ⟨.ref l, h1, G1, env, ds1, g1, (Run.bind q).mono (fun dk ds2 q2 iv G2 H2 e2 s2 r2 => ?_) fun _ _ _ _ q => q.at g1.base⟩
  simp only [h2] at q2
  have r2 := r2.fz
  cases dk <;> first | exact q2.elim | skip
  simp only [Rep] at r2
  simp only at q2
  obtain ⟨k4, k5⟩ := k3 G2 H2 ds2 e2 s2
  cases hx : L2.ixN xs.length _ with
  | none => rw [hx] at q2; exact q2.elim
  | some n =>
    rw [hx] at q2
    exact ⟨l, vs, _, n, rfl, r2, k4, by rw [k2.length]; exact hx, (show OkS c G Γ mo Dn (.nx _) ds2 from q2) σ G2 _ (e1.g.trans e2.g) (k5 _ _ ((k2.mono e2.g).set (r1.fz.mono e2.g) n))⟩
end
end Mir
end

set_option maxHeartbeats 200000
section
/-! Exceptions held as values: C(e), C(f=e), C(); e.f. -/
namespace Mir
open PySem L2
/-- two new nodes, frozen -/
theorem Ext.add2 {S : Option (Addr × Addr)} {G H G1 H1 : Hp} {a b : Addr} {o1 o2 : HO} (e : Ext S G H G1 H1) (ha : H1 a = none) (hb : H1 b = none) : Ext S G H (upd (upd G1 b o2) a o1) (upd (upd H1 b o2) a o1) := by
  have ga : G1 a = none := free_of e.sub ha
  have gb : G1 b = none := free_of e.sub hb
  have key : ∀ {F : Hp}, F a = none → F b = none → ∀ x o, F x = some o → upd (upd F b o2) a o1 x = some o := fun fa fb x o q => by
    rw [upd_ne (ne_of_none q fa), upd_ne (ne_of_none q fb)]
    exact q
  refine ⟨fun x o q => key ga gb x o (e.g x o q), fun x o hs hl q => key ha hb x o (e.h x o hs hl q), fun x o q => ?_, fun x o q => ?_, fun x o q => ?_⟩
  · obtain ⟨o', q'⟩ := e.s x o q
    exact ⟨o', key ha hb x o' q'⟩
  · by_cases h1 : x = a
    · exact .inr (by rw [h1]; exact e.free ha)
    · rw [upd_ne h1] at q
      by_cases h2 : x = b
      · exact .inr (by rw [h2]; exact e.free hb)
      · rw [upd_ne h2] at q
        exact e.new x o q
  · by_cases h1 : x = a
    · rw [h1, upd_same] at q ⊢
      exact q
    · rw [upd_ne h1] at q ⊢
      by_cases h2 : x = b
      · rw [h2, upd_same] at q ⊢
        exact q
      · rw [upd_ne h2] at q ⊢
        exact e.sub x o q
theorem StOk.add2 {S : Option (Addr × Addr)} {G1 H1 : Hp} {ds : DS} {a b : Addr} {o1 o2 : HO} (h : StOk S G1 H1 ds) (ha : H1 a = none) (hb : H1 b = none) : StOk S (upd (upd G1 b o2) a o1) (upd (upd H1 b o2) a o1) ds := by
  have n : ∀ x ∈ stN S, x ≠ a ∧ x ≠ b := fun x hx => by
    obtain ⟨o, q⟩ := h.there hx
    exact ⟨ne_of_none q ha, ne_of_none q hb⟩
  exact h.at (fun x hx => by rw [upd_ne (n x hx).1, upd_ne (n x hx).2]) fun x hx => by rw [upd_ne (n x hx).1, upd_ne (n x hx).2]
/-- what is known of an own class of exceptions with an __init__ of its own, of one field -/
structure XmF (K : PySem.W.Frag) (C fI : Addr) (f : Str) : Prop where
  o : OexC K C
  iC : PySem.W.findIn K (.ref C) "__init__" = some (some (.ref fI))
  tI : PySem.W.typeIn K (.ref fI) = some (.type "function")
  nf : PySem.W.findIn K (.ref C) f = some none
/-- def __init__(self, p): self.f = p -/
def spXi (K : PySem.W.Frag) (f : Str) : Sp := fun vs H Q _ => ∃ (a C : Addr) (y : V), vs = [.ref a, y] ∧ OexC K C ∧ PySem.W.findIn K (.ref C) f = some none ∧ H a = some (exo a C none) ∧ ∀ dx, H dx = none → dx ≠ a → Q .non (upd (upd H dx (exd dx [(f, y)])) a (exo a C (some dx)))
section
variable {X : Cx} {k : Nat} {CX : CXT} {x : Str} {C fI : Addr} {fd : FuncData} {ps : List Str} {f : Str} {e : Expr} {ta : TA} {p pos : Pos}
theorem upd3 {H : Hp} {a dx : Addr} {o o1 o2 : HO} (h : dx ≠ a) : upd (upd (upd H a o) dx o2) a o1 = upd (upd H dx o2) a o1 := by
  funext b
  by_cases e1 : b = a
  · rw [e1, upd_same, upd_same]
  · rw [upd_ne e1, upd_ne e1]
    by_cases e2 : b = dx
    · rw [e2, upd_same, upd_same]
    · rw [upd_ne e2, upd_ne e2, upd_ne e1]
/-- C(e) as a value -/
def tXv (C : Addr) (f : Str) (ta : TA) : TE := fun σ H Q => ta σ H fun vs H1 => ∃ y, vs = [y] ∧ ∀ a dx, H1 a = none → H1 dx = none → dx ≠ a → Q (.ref a) (upd (upd H1 dx (exd dx [(f, y)])) a (exo a C (some dx)))
theorem xv_core {pins : List (Addr × Obj)} {σ : L2.St} {H1 : Hp} {s1 : Shared} {Q : VK} {us : List Value} {kw : List (Str × Value)} {u : Value} {y : V} (M : XmF X.K C fI f) (F1 : FnOk X.prog X.w X.K X.mg X.base CX k fI fd ps (spXi X.K f)) (hr : Room (k + 1) X.A)
    (hb : ∀ (s : Shared) (self : Value), X.K.In s.heap → BindsTo s fd ⟨self :: us, kw⟩ (ps.zip [self, u])) (hx : Passes CX X (fun _ _ _ => False)) (I1 : Inv X pins σ H1 s1) (hl : us.length ≤ sizeLine) (ru : RelV y u)
    (q : ∀ a dx, H1 a = none → H1 dx = none → dx ≠ a → Q (.ref a) (upd (upd H1 dx (exd dx [(f, y)])) a (exo a C (some dx)))) : codeAny (model X.prog X.w) X.A (.call (.ref C) ⟨us, kw⟩) (fun r s' => match r with | .ok (.ret v) => EP X pins σ Q v s' | .ok _ => False | .error er => X.xe er s') s1 := by
  obtain ⟨n1, n2, n3, n4, n5, n6, n7, n8, n9, m1, m2, m3, m4, m5, m6, at', tl⟩ := M.o.cls
  obtain ⟨hp0, gs, dr, tk, sys⟩ := s1
  have le : hp0.objs.size ≤ hp0.objs.size + 1 := by omega
  have gone : H1 (hp0.objs.size + 1) = none := I1.hok.fresh le
  have up : ∀ b x, hp0.get? b = some x → (PySem.MirX.made hp0 C us).get? b = some x := fun _ _ z => Heap.get?_push_of_some _ (Heap.get?_push_of_some _ z)
  have it : (PySem.MirX.made hp0 C us).get? (hp0.objs.size + 1) = some (PySem.HandSPX.excO C hp0.objs.size) := by heap_get
  have J := I1.laid (t' := tk) (h' := PySem.MirX.made hp0 C us) up le (exo_ok it)
  have two : Vals [V.ref (hp0.objs.size + 1), y] [Value.ref (hp0.objs.size + 1), u] := .cons rfl (.cons ru .nil)
  have say : spXi X.K f [V.ref (hp0.objs.size + 1), y] (upd H1 (hp0.objs.size + 1) (exo (hp0.objs.size + 1) C none)) (fun v H2 => v = .non ∧ Q (.ref (hp0.objs.size + 1)) H2) (fun _ _ _ => False) := by
    refine ⟨_, C, y, rfl, M.o, M.nf, upd_same, fun dx hd ne => ⟨rfl, ?_⟩⟩
    rw [upd_ne ne] at hd
    rw [upd3 ne]
    exact q _ dx gone hd ne
  refine PySem.MirX.call_kw F.excBase_ValueError ⟨_, _, _, _, _, _, _, _, _, _, _, _, _, _, _, _, I1.kIn _ _ at', fun Y => PySem.HandSPX.refsVE_contains Y _ tl⟩ (PySem.W.looks_findIn I1.kIn M.iC) (fun self => PySem.W.bind_fn I1.kIn self M.tI) hl
    (codeAny_mono (F1.run _ X.stack _ _ ⟨Value.ref (hp0.objs.size + 1) :: us, kw⟩ [Value.ref (hp0.objs.size + 1), u] _ _ (fun _ _ _ => False) (hr.make C us kw) (J.env0.make C us kw) (hb _ _ J.kIn) two say) fun r s2 hq => ?_)
  cases r with
  | error er => exact hx pins σ _ _ er s2 J hq
  | ok fl =>
    cases fl with
    | ret w =>
      obtain ⟨v, H2, J2, rv, ev, z⟩ := J.after hq
      subst ev
      exact ⟨rv, ⟨V.ref (hp0.objs.size + 1), H2, J2, rfl, z⟩⟩
    | _ => exact False.elim hq
theorem pe_xv (M : XmF X.K C fI f) (F1 : FnOk X.prog X.w X.K X.mg X.base CX k fI fd ps (spXi X.K f)) (hr : Room (k + 1) X.A) (hb : Binds X.K fd ps []) (hp2 : ps.length = 2) (hx : Passes CX X (fun _ _ _ => False)) (hg : Gl X x) (hm : X.mg x = some (.ref C)) (ha : PA X [e] ta)
    (hdb : (x == ("__debug__" : Str)) = false := by decide) (he : starEach [e] X.env = (false, eval e X.env) :: starEach [] X.env := by rfl) (hpl : (backTo pos (starEach [] X.env)).any (·.1) = false := by rfl) :
    PE X (.Call (.Name x p) [e] [] pos) (tXv C f ta) := by
  refine ⟨fun pins s σ H Q I h => ?_⟩
  refine wpAny_Call_Name_kw (ld_glob I hg hm ?_ hdb)
  refine PySem.W.callWith_K (h₀ := X.base) I.ok.mod.kin M.o.kC (thn (ha.run pos pins s σ H _ I h) fun us s1 ⟨vs, H1, I1, r1, y, ev, q1⟩ => ⟨I1.kIn, ?_⟩) he hpl
  subst ev
  show wpAny _ _ (call (.ref C) us) _ _ _
  cases r1 with
  | @cons _ u0 _ ur ra rr =>
    cases rr
    refine wpAny_call (codeAny_mono (xv_core M F1 hr (fun s self hk => ?_) hx I1 (by rw [sizeLine_eq]; simp) ra q1) fun r s' z => ?_)
    · have := hb s [self, u0] hk (by simp [hp2])
      simpa using this
    · cases r with
      | error er => exact z
      | ok fl => cases fl <;> exact z
/-- C(f=e) as a value -/
theorem pe_xvK {nm : Str} {kpos : Pos} {te : TE} (M : XmF X.K C fI f) (F1 : FnOk X.prog X.w X.K X.mg X.base CX k fI fd ps (spXi X.K f)) (hr : Room (k + 1) X.A)
    (hb : ∀ (s : Shared) (self u : Value), X.K.In s.heap → BindsTo s fd ⟨[self], [(nm, u)]⟩ (ps.zip [self, u])) (hx : Passes CX X (fun _ _ _ => False)) (hg : Gl X x) (hm : X.mg x = some (.ref C)) (ha : PE X e te)
    (hall : (backToKw pos (keywordEach [⟨some nm, e, kpos⟩] X.env)).all (·.1.isSome) = true := by rfl) (hks : (backToKw pos (keywordEach [⟨some nm, e, kpos⟩] X.env)).filterMap (·.1) = [nm] := by rfl) (hdb : (x == ("__debug__" : Str)) = false := by decide)
    (hpl : ((backTo pos (starEach [] X.env)).any (·.1) || (backToKw pos (keywordEach [⟨some nm, e, kpos⟩] X.env)).any (·.1.isNone)) = false := by rfl) :
    PE X (.Call (.Name x p) [] [⟨some nm, e, kpos⟩] pos) (tXv C f (tCons te tNil)) := by
  refine ⟨fun pins s σ H Q I h => ?_⟩
  refine wpAny_Call_Name_kw (ld_glob I hg hm ?_ hdb)
  refine PySem.W.callWith_KW0 (h₀ := X.base) I.ok.mod.kin M.o.kC hall ?_ hpl
  refine thn ((pk_cons ha pk_nil).run pos pins s σ H _ I h) fun ws s2 ⟨zs, H2, I2, rz, y, ev, q1⟩ => ⟨I2.kIn, ?_⟩
  rw [hks]
  subst ev
  show wpAny _ _ (call (.ref C) [] _) _ _ _
  cases rz with
  | @cons _ u0 _ ur ra rr =>
    cases rr
    refine wpAny_call (codeAny_mono (xv_core M F1 hr (fun s self hk => hb s self u0 hk) hx I2 (by rw [sizeLine_eq]; simp) ra q1) fun r s' z => ?_)
    cases r with
    | error er => exact z
    | ok fl => cases fl <;> exact z
/-- C() as a value, C without an __init__ of its own -/
theorem pe_xv0 {bmB : List Value} {B newId initId : String} (F : ExcBaseFacts B newId initId bmB) (q : PySem.W.excIn X.K C bmB newId = true) (kC : PySem.W.keepIn X.K (.ref C) = true) (hg : Gl X x) (gC : X.mg x = some (.ref C)) (hdb : (x == ("__debug__" : Str)) = false := by decide) :
    PE X (.Call (.Name x p) [] [] pos) (fun σ H Q => ∀ a, H a = none → Q (.ref a) (upd H a (exo a C none))) := by
  refine ⟨fun pins s σ H Q I h => ?_⟩
  refine wpAny_Call_Name_kw (ld_glob I hg gC ?_ hdb)
  refine PySem.W.callWith_K0 I.kIn kC ?_
  show wpAny _ _ (call (.ref C) []) _ _ _
  obtain ⟨bm, N, nm, qn, bs, hdct, sn, sub, ab, col, dd, k0, k1, k2, k3, k5, mN, hC, hN, hni, T⟩ := exc_obj I.kIn q
  refine wpAny_call_exc_subT F T hC hN hni (fun h' a hm => ?_) (by rw [sizeLine_eq]; simp)
  have hn : H a = none := I.hok.gone hm.new
  obtain ⟨t, ht, _, _⟩ := hm.there
  exact ⟨.ref a, upd H a (exo a C none), I.laidN hm.keeps hm.new hn (exo_ok ht), rfl, h a hn⟩
/-- e.f of an exception -/
def rXa (K : PySem.W.Frag) (f : Str) : V → Hp → VK → Prop := fun x H Q => ∃ (a C dx : Addr) (fs : List (Str × V)) (v : V), x = .ref a ∧ H a = some (exo a C (some dx)) ∧ H dx = some (exd dx fs) ∧ XfC K C ∧ PySem.W.findIn K (.ref C) f = some none ∧ fs.lookup f = some v ∧ Q v H
theorem pe_xa {te : TE} {n : Str} (he : PE X e te) (hb : attributeBase e n X.env (eval e X.env) = eval e X.env := by rfl) : PE X (.Attribute e n pos) (fun σ H Q => te σ H fun x H1 => rXa X.K n x H1 Q) := by
  refine ⟨fun pins s σ H Q I h => ?_⟩
  refine attr_of hb (thn (he.run pins s σ H _ I h) fun u s1 hh => ?_)
  obtain ⟨x, H1, I1, rx, a, C, dx, fs, v, ex, ea, ed, T, hno, l, q⟩ := hh
  subst ex
  obtain rfl : u = Value.ref a := rx
  obtain ⟨mA, hns, hr⟩ := exd_at I1.hok ed
  obtain ⟨od, ho, hl⟩ := lookIn_ns hns
  obtain ⟨u, hu, ru⟩ := RelO.some_of (v := v) (o := mA n) (by rw [← l]; exact hr n)
  obtain ⟨t1, hoe⟩ := exo_at I1.hok ea
  have J : PySem.W.InstAt s1.heap a _ C (some od) := ⟨hoe, rfl, rfl, ho⟩
  exact PySem.HandSPX.exc_get I1.kIn J T.ga T.gg T.exC (PySem.W.findObj_own T.hdC hno rfl (by rw [hl, hu])) (handed_of ru) ⟨v, H1, I1.tok _, ru, q⟩
end
/-! ### by the mirror -/
def D.mkX (c f : Str) (d : D) : Option D := some (.xc c [f] [d])
def D.fld (f : Str) : List Str → List D → Option D
  | n :: ns, v :: vs => if n = f then some v else D.fld f ns vs
  | _, _ => none
def D.xat (L : List Str) (f : Str) : D → Option D
  | .xc c ns vs => if c ∈ L then D.fld f ns vs else none
  | _ => none
theorem fld_ok {cA : Str → Addr} {G : Hp} {f : Str} {d : D} : ∀ {fs : List (Str × V)} {vs : List D}, D.fld f (fs.map (fun p => p.1)) vs = some d → RepL cA G vs (fs.map (fun p => p.2)) → ∃ v, fs.lookup f = some v ∧ Rep cA G d v
  | [], vs, h, r => by simp [D.fld] at h
  | (n, w) :: fs, [], h, r => by simp [D.fld] at h
  | (n, w) :: fs, v :: vs, h, r => by
    simp only [List.map_cons, D.fld] at h
    simp only [List.map_cons, RepL] at r
    obtain ⟨v', r', e, r1, r2⟩ := r
    obtain ⟨rfl, rfl⟩ := List.cons.inj e
    by_cases hn : n = f
    · subst hn
      rw [if_pos rfl] at h
      cases h
      exact ⟨w, by simp [List.lookup], r1⟩
    · rw [if_neg hn] at h
      obtain ⟨v2, h1, h2⟩ := fld_ok h r2
      have e2 : (f == n) = false := by simpa using fun z => hn z.symm
      exact ⟨v2, by simp [List.lookup, e2, h1], h2⟩
section
variable {X : Cx} {c : Ct} {Γ : List Md} {pa : Pv} {ma : ME} {a e : Expr} {pos p : Pos} {k : Nat} {x nm : Str} {C fI : Addr} {fd : FuncData} {ps : List Str} {f : Str} {CX : CXT}
theorem ok_xv {G H G1 H1 : Hp} {Q : VK} {d : D} {ds1 : DS} {y : V} {a dx : Addr} (h : OkQ c G H Mir.fz Q (.xc x [f] [d]) ds1) (hC : c.cA x = C) (e1 : Ext c.S G H G1 H1) (s1 : StOk c.S G1 H1 ds1) (r : Rep c.cA G1 d y) (ha : H1 a = none) (hd : H1 dx = none) (ne : dx ≠ a) :
    Q (.ref a) (upd (upd H1 dx (exd dx [(f, y)])) a (exo a C (some dx))) := by
  subst hC
  have e2 := Ext.add2 (o1 := exo a (c.cA x) (some dx)) (o2 := exd dx [(f, y)]) (ExtA.refl (L := []) (S := c.S) e1.sub) ha hd
  refine ok_at h (e1.trans e2) (s1.add2 ha hd) ?_
  simp only [Rep]
  refine ⟨a, rfl, .inr ⟨dx, [(f, y)], upd_same, by rw [upd_ne ne, upd_same], rfl, ?_⟩⟩
  exact .cons (r.mono e2.g) .nil
theorem ge_xv (hC : c.cA x = C) (M : XmF X.K C fI f) (F1 : FnOk X.prog X.w X.K X.mg X.base CX k fI fd ps (spXi X.K f)) (hr : Room (k + 1) X.A) (hb : Binds X.K fd ps []) (hp2 : ps.length = 2) (hx : Passes CX X (fun _ _ _ => False)) (hg : Gl X x) (hm : X.mg x = some (.ref C)) (ha : GE X c Γ e ma fz)
    (hdb : (x == ("__debug__" : Str)) = false := by decide) (he : starEach [e] X.env = (false, eval e X.env) :: starEach [] X.env := by rfl) (hpl : (backTo pos (starEach [] X.env)).any (·.1) = false := by rfl) :
    GE X c Γ (.Call (.Name x p) [e] [] pos) (E.un (D.mkX x f) ma) fz :=
  pe_imp (pe_xv M F1 hr hb hp2 hx hg hm (pa_cons ha pa_nil he) hdb he hpl) fun σ H Q ⟨G, env, ds, g, h⟩ => read1 (p := fz) (Q := Q) g h fun d ds1 y G1 H1 e1 s1 g1 r1 h1 => by
    obtain ⟨d', hd, q⟩ := Run.lift h1
    cases hd
    exact ⟨y, rfl, fun a dx n1 n2 ne => ok_xv q hC e1 s1 r1.fz n1 n2 ne⟩
theorem ge_xvK {kpos : Pos} (hC : c.cA x = C) (M : XmF X.K C fI f) (F1 : FnOk X.prog X.w X.K X.mg X.base CX k fI fd ps (spXi X.K f)) (hr : Room (k + 1) X.A)
    (hb : ∀ (s : Shared) (self u : Value), X.K.In s.heap → BindsTo s fd ⟨[self], [(nm, u)]⟩ (ps.zip [self, u])) (hx : Passes CX X (fun _ _ _ => False)) (hg : Gl X x) (hm : X.mg x = some (.ref C)) (ha : GE X c Γ e ma fz)
    (hall : (backToKw pos (keywordEach [⟨some nm, e, kpos⟩] X.env)).all (·.1.isSome) = true := by rfl) (hks : (backToKw pos (keywordEach [⟨some nm, e, kpos⟩] X.env)).filterMap (·.1) = [nm] := by rfl) (hdb : (x == ("__debug__" : Str)) = false := by decide)
    (hpl : ((backTo pos (starEach [] X.env)).any (·.1) || (backToKw pos (keywordEach [⟨some nm, e, kpos⟩] X.env)).any (·.1.isNone)) = false := by rfl) :
    GE X c Γ (.Call (.Name x p) [] [⟨some nm, e, kpos⟩] pos) (E.un (D.mkX x f) ma) fz :=
  pe_imp (pe_xvK M F1 hr hb hx hg hm ha hall hks hdb hpl) fun σ H Q ⟨G, env, ds, g, h⟩ => read1 (p := fz) (Q := Q) g h fun d ds1 y G1 H1 e1 s1 g1 r1 h1 => by
    obtain ⟨d', hd, q⟩ := Run.lift h1
    cases hd
    exact ⟨y, rfl, fun a dx n1 n2 ne => ok_xv q hC e1 s1 r1.fz n1 n2 ne⟩
theorem ge_xv0 {bmB : List Value} {B newId initId : String} (hC : c.cA x = C) (F : ExcBaseFacts B newId initId bmB) (q : PySem.W.excIn X.K C bmB newId = true) (kC : PySem.W.keepIn X.K (.ref C) = true) (hg : Gl X x) (gC : X.mg x = some (.ref C)) (hdb : (x == ("__debug__" : Str)) = false := by decide) :
    GE X c Γ (.Call (.Name x p) [] [] pos) (E.cst (.xc x [] [])) fz :=
  pe_imp (pe_xv0 F q kC hg gC hdb) fun σ H Q ⟨G, env, ds, g, h⟩ a ha => by
    subst hC
    have h : OkQ c G H fz Q (.xc x [] []) ds := h
    have gn := free_of g.sub ha
    have e : Ext c.S G H (upd G a (exo a (c.cA x) none)) (upd H a (exo a (c.cA x) none)) := by
      refine ⟨fun b o q => by rw [upd_ne (ne_of_none q gn)]; exact q, fun b o _ _ q => by rw [upd_ne (ne_of_none q ha)]; exact q, fun b o q => ⟨o, by rw [upd_ne (ne_of_none q ha)]; exact q⟩, fun b o q => ?_, fun b o q => ?_⟩
      · by_cases h1 : b = a
        · exact .inr (by rw [h1]; exact ha)
        · rw [upd_ne h1] at q
          exact .inl q
      · by_cases h1 : b = a
        · rw [h1, upd_same] at q ⊢
          exact q
        · rw [upd_ne h1] at q ⊢
          exact g.sub b o q
    have ns : ∀ b ∈ stN c.S, b ≠ a := fun b hb => by
      obtain ⟨o, q⟩ := g.st.there hb
      exact ne_of_none q ha
    refine ok_at h e (g.st.at (fun b hb => upd_ne (ns b hb)) fun b hb => upd_ne (ns b hb)) ?_
    simp only [Rep]
    exact ⟨a, rfl, .inl ⟨by simp, by simp, upd_same⟩⟩
/-- e.f of an exception of one of the classes in L -/
theorem ge_xat {L : List Str} (hL : ∀ n ∈ L, XfC X.K (c.cA n) ∧ PySem.W.findIn X.K (.ref (c.cA n)) f = some none) (ha : GE X c Γ a ma fz) (hb : attributeBase a f X.env (eval a X.env) = eval a X.env := by rfl) :
    GE X c Γ (.Attribute a f pos) (E.un (D.xat L f) ma) fz :=
  pe_imp (pe_xa ha hb) fun σ H Q ⟨G, env, ds, g, h⟩ => read1 (p := fz) (Q := Q) g h fun d ds1 y G1 H1 e1 s1 g1 r1 h1 => by
    obtain ⟨d', hd, q⟩ := Run.lift h1
    have r1 := r1.fz
    cases d <;> simp only [D.xat] at hd <;> try (cases hd; done)
    split at hd
    · rename_i hm
      simp only [Rep] at r1
      obtain ⟨l, rfl, ⟨rfl, rfl, _⟩ | ⟨dx, fs, k1, k2, rfl, r3⟩⟩ := r1
      · cases hd
      · obtain ⟨v, l1, r4⟩ := fld_ok hd r3
        exact ⟨l, _, dx, fs, v, rfl, e1.sub _ _ k1, e1.sub _ _ k2, (hL _ hm).1, (hL _ hm).2, l1, ok_at q e1 s1 r4⟩
    · cases hd
/-- what a def __init__(self, p): self.f = p keeps -/
theorem xinit_ok {P : Program} {w : World} {K : PySem.W.Frag} {mg : Str → Option Value} {base : Heap} {qual : Str} {params : Arguments} {body : List Stmt} {scope : Scope} {fa : Addr} {x : Str} {q1 q2 q3 q4 q5 : Pos} {pn : Str} (F : FunD K x qual params body scope [] [] fa fd) (S : FnScope ["self", pn] ["self", pn] scope)
    (hbody : body = [.Assign [.Attribute (.Name "self" q1) f q2] (.Name pn q3) q4]) (hs : ∀ env, swapsWith (.Name pn q3) (some (.Attribute (.Name "self" q1) f q2)) q4.line env = pure false)
    (hv : scope.names.lookup ("self" : Str) = some .local) (hv2 : scope.names.lookup pn = some .local) (hd : (pn == ("__debug__" : Str)) = false) (hcd : (pn == ("__classdict__" : Str)) = false) :
    FnOk P w K mg base (L2.CX P w) 1 fa fd ["self", pn] (spXi K f) := by
  refine F.ok S (fun vs H Q E ⟨a, C, y, e, _⟩ => by rw [e]; rfl) (fun cdv A outer s H vs Q E hr ⟨a, C, y, e, hO, hf, ha, hq⟩ => ?_)
  subst hbody
  refine ⟨_, pss_one (ps_ost (pe_var (i := 0) rfl (.inl hv) (by decide) (by decide)) (pe_var (i := 1) rfl (.inl hv2) hd hcd) (hs _)), ?_⟩
  subst e
  exact ⟨y, rfl, .ref a, rfl, a, C, rfl, hO, hf, .inl ⟨ha, hq⟩⟩
end
end Mir
end

set_option maxHeartbeats 200000
section
/-! A def by its mirror. -/
namespace Mir
open PySem PySem.Spec PyProof.Rows L2
inductive Kd where
  | d | f | st
def okK : List Kd → List Val → Bool
  | [], [] => true
  | .d :: ks, .d _ :: as => okK ks as
  | .f :: ks, .f _ :: as => okK ks as
  | .st :: ks, .st :: as => okK ks as
  | _, _ => false
def Kd.md : Kd → Md
  | .d => .ow .fz
  | .f => .fn
  | .st => .st
def mds (kd : List Kd) (n : Nat) : List Md := kd.map Kd.md ++ List.replicate n .un
/-- a def of parameters kd and n further names; b: None at its end -/
def Fn.mk (kd : List Kd) (n : Nat) (b : Bool) (m : MS) : Fn := fun as => if okK kd as then m (as ++ List.replicate n .un) >>= fun r => match r with
  | .rt d => pure d
  | .nx _ => if b then pure .non else M.stuck
  else M.stuck
abbrev Ct.of (cA : Str → Addr) (fnv : V → (List D → M D) → Prop) : Ct := ⟨cA, none, [], fun _ => none, fun _ => none, E0, fnv⟩
/-- a def of the text, ready to be called -/
def Cal (P : Program) (w : World) (K : PySem.W.Frag) (mg : Str → Option Value) (base : Heap) (x : Str) (ps : List Str) (k : Nat) (sp : Sp) : Prop :=
  ∃ f fd, FnOk P w K mg base (L2.CX P w) k f fd ps sp ∧ mg x = some (.ref f) ∧ PySem.W.keepIn K (.ref f) = true ∧ Binds K fd ps []
theorem slots_un {c : Ct} {G H : Hp} : ∀ n : Nat, Slots c G H (List.replicate n .un) (List.replicate n none) (List.replicate n .un) (List.replicate n [])
  | 0 => .nil
  | n + 1 => .un none .un (slots_un n)
theorem slots_start {c : Ct} {G H : Hp} {n : Nat} : ∀ {kd : List Kd} {as : List Val} {vs : List V}, okK kd as = true → ArgsOk c G as vs → Slots c G H (mds kd n) (vs.map some ++ List.replicate n none) (as ++ List.replicate n .un) (List.replicate (kd.length + n) [])
  | [], [], vs, _, h => by
    cases h
    simpa [mds] using slots_un n
  | [], _ :: _, vs, h, _ => by cases h
  | k :: kd, [], vs, h, _ => by cases k <;> cases h
  | k :: kd, a :: as, vs, h, r => by
    cases r with
    | cons r rs =>
      rename_i v vs
      have e : List.replicate ((k :: kd).length + n) ([] : List Addr) = [] :: List.replicate (kd.length + n) [] := by
        rw [List.length_cons, Nat.add_right_comm, List.replicate_succ]
      rw [e]
      cases k <;> cases a <;> first | (cases h; done) | skip
      all_goals
        cases r with | _ r => ?_
        have ih := slots_start (H := H) (n := n) (kd := kd) h rs
      · exact .ow (by simp only [RepO]; exact ⟨trivial, r⟩) ih
      · exact .fn r ih
      · exact .st r ih
theorem okK_len : ∀ {kd : List Kd} {as : List Val}, okK kd as = true → as.length = kd.length
  | [], [], _ => rfl
  | [], _ :: _, h => by cases h
  | k :: kd, [], h => by cases k <;> cases h
  | k :: kd, a :: as, h => by
    cases k <;> cases a <;> first | (cases h; done) | skip
    all_goals
      have ih := okK_len (kd := kd) (as := as) h
      simp [ih]
theorem flat_nil : ∀ n : Nat, (List.replicate n ([] : List Addr)).flatten = []
  | 0 => rfl
  | n + 1 => by rw [List.replicate_succ, List.flatten_cons, flat_nil n]; rfl
theorem good_start {c : Ct} {G H : Hp} {n : Nat} {kd : List Kd} {as : List Val} {vs : List V} {ds : DS} (hG : c.G0 = G) (hH : c.H0 = H) (sub : Same G H) (st : StOk c.S G H ds) (h : okK kd as = true) (r : ArgsOk c G as vs) :
    Good c (mds kd n) G H (vs.map some ++ List.replicate n none) (as ++ List.replicate n .un) ds := by
  subst hG hH
  have fl := flat_nil (kd.length + n)
  refine ⟨sub, st, ExtA.refl sub, _, slots_start h r, ⟨by rw [fl]; exact List.nodup_nil, fun a ha => by rw [fl] at ha; simp at ha, fun i as' hi a ha => ?_⟩⟩
  have := mem_flatten_of hi ha
  rw [fl] at this
  simp at this
section
variable {P : Program} {w : World} {K : PySem.W.Frag} {mg : Str → Option Value} {base : Heap} {cA : Str → Addr} {fnv : V → (List D → M D) → Prop}
theorem Cal.of {x qual : Str} {params : Arguments} {body : List Stmt} {scope : Scope} {f : Addr} {fd : FuncData} {N ps : List Str} {k n : Nat} {kd : List Kd} {m : MS} {Γ' : List Md} {mo : Ow} {b : Bool} (F : FunD K x qual params body scope [] [] f fd) (hg : mg x = some (.ref f)) (S : FnScope N ps scope) (hN : N.length = kd.length + n) (hps : ps.length = kd.length)
    (hbd : ∀ (kV doc pm : Value) (an : Option Addr) (cdv ct : Value) (us : List Value), us.length = ps.length → bindArgs (PySem.W.fnOf x qual params body scope .none kV doc pm an cdv ct) ⟨us, []⟩ = pure (ps.zip us)) (hmo : b = true → mo = .fz)
    (hb : ∀ (cdv : Value) (A : Around) (outer : List Env) (s : Shared) (H : Hp) (E : XK), Room k (A.deeper (envOfC qual scope s.heap.objs.size f cdv)) → ∀ (S : Option (Addr × Addr)) (G0 H0 : Hp),
      GSs (cxOf (L2.CX P w) P w K mg base N qual scope f cdv A outer s H E) ⟨cA, S, [], G0, H0, E, fnv⟩ (mds kd n) body m Γ' mo) :
    Cal P w K mg base x ps (k + 1) (SpF (Ct.of cA fnv) (Fn.mk kd n b m) mo) := by
  refine ⟨f, fd, F.ok S (fun vs H Q E ⟨S, G, as, ds, _, _, r, h⟩ => ?_) (fun cdv A outer s H vs Q E hr ⟨S, G, as, ds, sub, st, r, h⟩ => ?_), hg, F.kp, F.bindsN hbd⟩
  · unfold Fn.mk at h
    split at h
    · rename_i hk
      rw [hps, ← okK_len hk]
      exact (Paired.length r).symm
    · exact h.elim
  · refine ⟨_, hb cdv A outer s H E hr S G H, ?_⟩
    unfold Fn.mk at h
    split at h
    · rename_i hk
      have hl : vs.length = kd.length := by
        rw [← okK_len hk]
        exact (Paired.length r).symm
      have g : Good (⟨cA, S, [], G, H, E, fnv⟩ : Ct) (mds kd n) G H (vs.map some ++ List.replicate n none) (as ++ List.replicate n .un) ds := good_start rfl rfl sub st hk (Paired.mapP r fun a b z => by
        cases z with
        | d r => exact .d r
        | f r => exact .f r
        | st r => exact .st r)
      have e : L2.start N vs = vs.map some ++ List.replicate n none := by
        unfold L2.start
        rw [hN, hl, Nat.add_sub_cancel_left]
      rw [e]
      refine ⟨G, _, ds, g, h.bind.mono (fun r ds1 q => ?_) fun cn ns vs ds1 q => q⟩
      cases r with
      | nx env' =>
        intro σ' G' H' sm g'
        simp only at q
        split at q
        · rename_i hb'
          subst hb'
          obtain rfl := hmo rfl
          exact (show OkQ _ G H fz Q .non ds1 from q) .non G' H' g'.base g'.st (.of_fz (by simp only [Rep]))
        · exact q.elim
      | rt d =>
        intro v G' H' e' s' r'
        exact (show OkQ _ G H (.ow mo) Q d ds1 from q) v G' H' e' s' r'
    · exact h.elim
theorem Cal.mono {x : Str} {ps : List Str} {j k : Nat} {sp : Sp} (C : Cal P w K mg base x ps j sp) (h : j ≤ k) : Cal P w K mg base x ps k sp := by
  obtain ⟨f, fd, h1, h2, h3, h4⟩ := C
  exact ⟨f, fd, h1.mono h, h2, h3, h4⟩
end
section
variable {X : Cx} {c : Ct} {Γ : List Md} {e : Expr} {es : List Expr} {mr : MA} {p1 pos : Pos} {x : Str} {ps : List Str} {k : Nat} {F : Fn} {mo : Ow}
/-- a def of the text is called -/
theorem ge_callC (C : Cal X.prog X.w X.K X.mg X.base x ps k (SpF (Ct.of c.cA c.fnv) F mo)) (hr : Room k X.A) (hg : Gl X x) (hx : Passes (L2.CX X.prog X.w) X c.E) (ha : GA X c Γ (e :: es) mr)
    (hdb : (x == ("__debug__" : Str)) = false := by decide) (he : starEach (e :: es) X.env = (false, eval e X.env) :: starEach es X.env := by rfl) (hpl : (backTo pos (starEach es X.env)).any (·.1) = false := by rfl) :
    GE X c Γ (.Call (.Name x p1) (e :: es) [] pos) (E.call F mr) (.ow mo) := by
  obtain ⟨f, fd, F1, hm, hk, hb⟩ := C
  exact ge_call (c0 := Ct.of c.cA c.fnv) ⟨rfl, rfl⟩ F1 hr hg hm hk hb hx ha (pe_call F1 hr hg hm hk hb .nil hx ha hdb he hpl)
theorem ge_callC0 (C : Cal X.prog X.w X.K X.mg X.base x ps k (SpF (Ct.of c.cA c.fnv) F mo)) (hr : Room k X.A) (hg : Gl X x) (hx : Passes (L2.CX X.prog X.w) X c.E) (hdb : (x == ("__debug__" : Str)) = false := by decide) :
    GE X c Γ (.Call (.Name x p1) [] [] pos) (fun _ => F []) (.ow mo) := by
  obtain ⟨f, fd, F1, hm, hk, hb⟩ := C
  refine pe_imp (pe_call0 F1 hr hg hm hk hb .nil hx hdb) fun σ H Q ⟨G, env, ds, g, h⟩ => ?_
  obtain ⟨cA1, S1, l1, G01, H01, E1, fnv1⟩ := c
  exact ⟨S1, G, [], ds, g.sub, g.st, .nil, h⟩
end
/-- what a def's body passes on -/
theorem passes_cx {P : Program} {w : World} {K : PySem.W.Frag} {mg : Str → Option Value} {base : Heap} {N : List Str} {qual : Str} {scope : Scope} {f : Addr} {cd : Value} {A : Around} {outer : List Env} {s : Shared} {H : Hp} {E : XK} :
    Passes (L2.CX P w) (cxOf (L2.CX P w) P w K mg base N qual scope f cd A outer s H E) E :=
  passes_call (takes_of (E := E) rfl rfl rfl rfl) fun _ _ _ _ h => h
theorem own_cx {P : Program} {w : World} {K : PySem.W.Frag} {mg : Str → Option Value} {base : Heap} {N : List Str} {qual : Str} {scope : Scope} {f : Addr} {cd : Value} {A : Around} {outer : List Env} {s : Shared} {H : Hp} {E : XK} :
    let X := cxOf (L2.CX P w) P w K mg base N qual scope f cd A outer s H E
    PassesOwn (model X.prog X.w) X.A X.env X.xe := passes_of rfl
end Mir
end

set_option maxHeartbeats 200000
section
/-! The draws' state: what is read of it and written to it. -/
namespace Mir
open PySem L2
section
variable {X : Cx} {c : Ct} {Γ Γ2 : List Md} {pa : Pv} {ma mb : ME} {a b e : Expr} {mo : Ow} {pos p1 p2 p3 p4 p5 : Pos} {x : Str} {i : Nat}
def _root_.Mir.DS.put (k : Nat) (v : Int) (ds : DS) : DS := match k with
  | 1 => { ds with big := v }
  | 2 => { ds with cnt := v }
  | _ => { ds with mix := v }
namespace E
/-- state[1], state[2], state[3] -/
def stI (k : Nat) : ME := fun _ ds => .ok (.int (match k with | 1 => ds.big | 2 => ds.cnt | _ => ds.mix)) ds
/-- state[0].pop(0) -/
def stPop : ME := fun _ ds => match ds.cells with
  | y :: ys => .ok (.int y) { ds with cells := ys }
  | [] => .stuck
/-- state[0] != [] -/
def stNe : MB := fun _ ds => match D.eqB (.lst (ds.cells.map D.int)) (.lst []) with
  | some k => .ok (!k) ds
  | none => .stuck
end E
namespace S
def stI (k : Nat) (e : ME) : MS := fun env => e env >>= fun d => match d with
  | .int v => fun ds => .ok (.nx env) (ds.put k v)
  | _ => M.stuck
end S
theorem st_at {a b : Addr} {G H : Hp} {ds : DS} (hS : c.S = some (a, b)) (st : StOk c.S G H ds) : a ≠ b ∧ G a = none ∧ G b = none ∧ H a = some (.lst [.ref b, .int ds.big, .int ds.cnt, .int ds.mix]) ∧ H b = some (.lst (ds.cells.map V.int)) := by
  rw [hS] at st
  exact st
theorem ge_stI {k : Nat} {j : Nat} (hk : k = 1 ∨ k = 2 ∨ k = 3) (hi : Γ[i]? = some .st) (hN : X.N[i]? = some x) (hv : Vis X.env.scope x) (hd : (x == ("__debug__" : Str)) = false := by decide) (hcd : (x == ("__classdict__" : Str)) = false := by decide) :
    GE X c Γ (.Subscript (.Name x p1) (.Constant (.int (k : Int)) j p2) pos) (E.stI k) fz := by
  refine pe_imp (pe_ix ix_seq (pe_var hN hv hd hcd) pe_int (fun _ _ => rfl)) fun σ H Q ⟨G, env, ds, g, h⟩ => ?_
  obtain ⟨a, b, hS, h1, h2⟩ := g.getS hi
  obtain ⟨ne, ga, gb, ha, hb⟩ := st_at hS g.st
  rcases hk with rfl | rfl | rfl
  · exact ⟨.ref a, h1, .inl ⟨a, _, _, .int ds.big, rfl, rfl, SqL.of ha, rfl, ok_int (show OkQ c G H fz Q (.int ds.big) ds from h) (.refl g.sub) g.st⟩⟩
  · exact ⟨.ref a, h1, .inl ⟨a, _, _, .int ds.cnt, rfl, rfl, SqL.of ha, rfl, ok_int (show OkQ c G H fz Q (.int ds.cnt) ds from h) (.refl g.sub) g.st⟩⟩
  · exact ⟨.ref a, h1, .inl ⟨a, _, _, .int ds.mix, rfl, rfl, SqL.of ha, rfl, ok_int (show OkQ c G H fz Q (.int ds.mix) ds from h) (.refl g.sub) g.st⟩⟩
/-- the state's list is rewritten -/
theorem Good.stSet {G H : Hp} {σ : L2.St} {env : List Val} {ds ds' : DS} {a b : Addr} (g : Good c Γ G H σ env ds) (hS : c.S = some (a, b)) (hc : ds'.cells = ds.cells) : Good c Γ G (upd H a (.lst [.ref b, .int ds'.big, .int ds'.cnt, .int ds'.mix])) σ env ds' := by
  obtain ⟨ne, ga, gb, ha, hb⟩ := st_at hS g.st
  have hst : a ∈ stN c.S := by rw [hS]; simp [stN]
  have e1 : Ext c.S G H G (upd H a (.lst [.ref b, .int ds'.big, .int ds'.cnt, .int ds'.mix])) := by
    refine ⟨Same.refl _, fun b' o hs _ q => ?_, fun b' o q => ?_, fun _ _ q => .inl q, fun b' o q => ?_⟩
    · rw [upd_ne (fun z => hs (by rw [z]; exact hst))]; exact q
    · by_cases h : b' = a
      · exact ⟨_, by rw [h, upd_same]⟩
      · exact ⟨o, by rw [upd_ne h]; exact q⟩
    · rw [upd_ne (fun z => by rw [z, ga] at q; cases q)]
      exact g.sub _ _ q
  refine g.ext e1 ?_
  rw [hS]
  exact ⟨ne, ga, gb, upd_same, by rw [upd_ne (Ne.symm ne), hc]; exact hb⟩
theorem gs_stI {k : Nat} {j : Nat} (hk : k = 1 ∨ k = 2 ∨ k = 3) (hi : Γ[i]? = some .st) (hN : X.N[i]? = some x) (hv : Vis X.env.scope x) (he : GE X c Γ e ma fz) (hd : (x == ("__debug__" : Str)) = false := by decide) (hcd : (x == ("__classdict__" : Str)) = false := by decide)
    (hs : swapsWithSole [.Subscript (.Name x p1) (.Constant (.int (k : Int)) j p2) p3] e pos.line X.env = pure false := by rfl) (hw : swappedStores [.Subscript (.Name x p1) (.Constant (.int (k : Int)) j p2) p3] e X.env = pure none := by rfl) :
    GS X c Γ (.Assign [.Subscript (.Name x p1) (.Constant (.int (k : Int)) j p2) p3] e pos) (S.stI k ma) Γ mo := by
  refine ps_imp (ps_asg he (pg_sub (pe_var hN hv hd hcd) pe_int set_list) hs hw) fun Dn σ H ⟨G, env, ds, g, h⟩ => ⟨G, env, ds, g, run_at g h fun d ds1 q v G1 H1 e1 s1 r1 => ?_⟩
  have r1 := r1.fz
  obtain ⟨n, rfl⟩ : ∃ n, d = .int n := by cases d <;> first | exact ⟨_, rfl⟩ | exact q.elim
  simp only [Rep] at r1
  subst r1
  have g1 := g.ext e1 s1
  obtain ⟨a, b, hS, h1, h2⟩ := g1.getS hi
  obtain ⟨ne, ga, gb, ha, hb⟩ := st_at hS g1.st
  refine ⟨.ref a, h1, a, _, _, k, rfl, rfl, ha, by rcases hk with rfl | rfl | rfl <;> rfl, ?_⟩
  have q : OkS c G Γ mo Dn (.nx env) (ds1.put k n) := q
  have := q σ G1 _ e1.g (g1.stSet hS (by rcases hk with rfl | rfl | rfl <;> rfl))
  rcases hk with rfl | rfl | rfl <;> exact this
/-- state[0].pop(0) -/
theorem ge_stPop {j j2 : Nat} (hi : Γ[i]? = some .st) (hN : X.N[i]? = some x) (hv : Vis X.env.scope x) (hline : (p4.endLine == pos.line) = true) (hd : (x == ("__debug__" : Str)) = false := by decide) (hcd : (x == ("__classdict__" : Str)) = false := by decide)
    (hbase : attributeBase (.Subscript (.Name x p1) (.Constant (.int 0) j p2) p3) "pop" X.env (eval (.Subscript (.Name x p1) (.Constant (.int 0) j p2) p3) X.env) = eval (.Subscript (.Name x p1) (.Constant (.int 0) j p2) p3) X.env := by rfl) :
    GE X c Γ (.Call (.Attribute (.Subscript (.Name x p1) (.Constant (.int 0) j p2) p3) "pop" p4) [.Constant (.int 0) j2 p5] [] pos) E.stPop fz := by
  refine pe_imp (pe_bm PySem.F.plainAttrs_list PySem.F.slot_list_pop PySem.F.type_list_pop mt_popAt (pe_ix ix_seq (pe_var hN hv hd hcd) pe_int (fun _ _ => rfl)) (pa_cons pe_int pa_nil) hbase rfl hline) fun σ H Q ⟨G, env, ds, g, h⟩ => ?_
  obtain ⟨a, b, hS, h1, h2⟩ := g.getS hi
  obtain ⟨ne, ga, gb, ha, hb⟩ := st_at hS g.st
  have hst : b ∈ stN c.S := by rw [hS]; simp [stN]
  unfold E.stPop at h
  cases hc : ds.cells with
  | nil =>
    simp only [hc] at h
    exact h.elim
  | cons y ys =>
    simp only [hc] at h
    rw [hc] at hb
    refine ⟨.ref a, h1, .inl ⟨a, _, _, .ref b, rfl, rfl, SqL.of ha, rfl, ?_⟩⟩
    refine ⟨.inl ⟨rfl, _, SqL.of hb⟩, b, _, 0, 0, .int y, rfl, rfl, hb, by decide, by decide, by simp [seqIndex?], rfl, ?_⟩
    have e1 : Ext c.S G H G (upd H b (.lst (((y :: ys).map V.int).eraseIdx 0))) := by
      refine ⟨Same.refl _, fun b' o hs _ q => ?_, fun b' o q => ?_, fun _ _ q => .inl q, fun b' o q => ?_⟩
      · rw [upd_ne (fun z => hs (by rw [z]; exact hst))]; exact q
      · by_cases h : b' = b
        · exact ⟨_, by rw [h, upd_same]⟩
        · exact ⟨o, by rw [upd_ne h]; exact q⟩
      · rw [upd_ne (fun z => by rw [z, gb] at q; cases q)]
        exact g.sub _ _ q
    refine ok_int (show OkQ c G H fz Q (.int y) _ from h) e1 ?_
    rw [hS]
    exact ⟨ne, ga, gb, by rw [upd_ne ne]; exact ha, upd_same⟩
/-- state[0] != [] -/
theorem gt_stNe {j : Nat} {q1 : Pos} (hu : X.A.units + 64 < cLine) (hi : Γ[i]? = some .st) (hN : X.N[i]? = some x) (hv : Vis X.env.scope x) (hd : (x == ("__debug__" : Str)) = false := by decide) (hcd : (x == ("__classdict__" : Str)) = false := by decide) :
    GT X c Γ (.Compare (.Subscript (.Name x p1) (.Constant (.int 0) j p2) p3) [.NotEq] [.List [] q1] pos) E.stNe := by
  refine pt_imp (pt_cmpR (op_neD hu) (pe_ix ix_seq (pe_var hN hv hd hcd) pe_int (fun _ _ => rfl)) (pe_lst pa_nil) (nomark _)) fun σ H Q ⟨G, env, ds, g, h⟩ => ?_
  obtain ⟨a, b, hS, h1, h2⟩ := g.getS hi
  obtain ⟨ne, ga, gb, ha, hb⟩ := st_at hS g.st
  unfold E.stNe at h
  cases hk : D.eqB (.lst (ds.cells.map D.int)) (.lst []) with
  | none =>
    simp only [hk] at h
    exact h.elim
  | some k =>
    simp only [hk] at h
    have h : OkT c G H Q (!k) ds := h
    have rl : ∀ l : List Int, RepL c.cA H (l.map D.int) (l.map V.int) := fun l => by
      induction l with
      | nil => exact .nil
      | cons y l ih => exact .cons (by simp only [Rep]) ih
    have r1 : Rep c.cA H (.lst (ds.cells.map D.int)) (.ref b) := by
      simp only [Rep]
      exact ⟨b, _, rfl, hb, rl _⟩
    refine ⟨.ref a, h1, .inl ⟨a, _, _, .ref b, rfl, rfl, SqL.of ha, rfl, ?_⟩⟩
    refine ⟨by rw [sizeLine_eq]; simp, fun l hl => ?_⟩
    have e1 : Ext c.S G H G (upd H l (.lst [])) := Ext.laid g.sub hl _
    have r2 : Rep c.cA (upd H l (.lst [])) (.lst []) (.ref l) := by
      simp only [Rep]
      exact ⟨l, [], rfl, upd_same, .nil⟩
    have r1' := r1.mono (G' := upd H l (.lst [])) fun x o q => by rw [upd_ne (ne_of_none q hl)]; exact q
    rcases eqB_ok (K := X.K) hk r1' r2 with ⟨k1, k2⟩ | ⟨p, q', k1, k2, k3, k4, k5⟩
    · cases k1
    · exact ⟨p, q', k1, k2, k3, k4, !k, by rw [k5], h G _ e1 (g.st.laid hl _)⟩
end
end Mir
end

set_option maxHeartbeats 200000
section
/-! Assignments to several names. -/
namespace Mir
open PySem L2
section
variable {c : Ct} {Γ : List Md} {G H G' H' : Hp} {σ : L2.St} {env : List Val} {ds ds' : DS}
/-- Good, and the nodes at as are free to be taken -/
structure GoodF (c : Ct) (Γ : List Md) (G H : Hp) (σ : L2.St) (env : List Val) (ds : DS) (as : List Addr) : Prop where
  sub : Same G H
  st : StOk c.S G H ds
  base : ExtA c.lent c.S c.G0 c.H0 G H
  slots : ∃ ass, Slots c G H Γ σ env ass ∧ OwnOk c G ass ∧ ∀ a ∈ as, a ∉ ass.flatten
  nd : as.Nodup
  fr : ∀ a ∈ as, G a = none ∧ a ∉ stN c.S ∧ c.H0 a = none
theorem Good.free {as : List Addr} (g : Good c Γ G H σ env ds) (e : Ext c.S G H G' H') (st : StOk c.S G' H' ds') (nd : as.Nodup) (fr : ∀ a ∈ as, H a = none ∧ G' a = none) : GoodF c Γ G' H' σ env ds' as := by
  obtain ⟨ass, s, o⟩ := g.slots
  obtain ⟨s', o'⟩ := slots_ext g.sub e s o
  refine ⟨e.sub, st, g.base.trans e.more, ⟨ass, s', o', fun a ha z => ?_⟩, nd, fun a ha => ⟨(fr a ha).2, fun z => ?_, g.base.free (fr a ha).1⟩⟩
  · obtain ⟨x, q⟩ := s.there a z
    rw [(fr a ha).1] at q
    cases q
  · obtain ⟨x, q⟩ := g.st.there z
    rw [(fr a ha).1] at q
    cases q
theorem GoodF.good {as : List Addr} (g : GoodF c Γ G H σ env ds as) : Good c Γ G H σ env ds := by
  obtain ⟨ass, s, o, _⟩ := g.slots
  exact ⟨g.sub, g.st, g.base, ass, s, o⟩
theorem GoodF.drop {as bs : List Addr} (g : GoodF c Γ G H σ env ds (as ++ bs)) : GoodF c Γ G H σ env ds bs := by
  obtain ⟨ass, s, o, q⟩ := g.slots
  exact ⟨g.sub, g.st, g.base, ⟨ass, s, o, fun a ha => q a (List.mem_append_right _ ha)⟩, (List.nodup_append.mp g.nd).2.1, fun a ha => g.fr a (List.mem_append_right _ ha)⟩
theorem GoodF.put {i : Nat} {m : Ow} {d : D} {v : V} {as bs : List Addr} (g : GoodF c Γ G H σ env ds (as ++ bs)) (hi : i < Γ.length) (r : RepO c.cA G H m d v as) : GoodF c (Γ.set i (.ow m)) G H (σ.set i (some v)) (env.set i (.d d)) ds bs := by
  obtain ⟨ass, s, o, q⟩ := g.slots
  obtain ⟨n1, n2, n3⟩ := List.nodup_append.mp g.nd
  refine ⟨g.sub, g.st, g.base, ⟨_, s.set hi r, o.set n1 (fun j bs' hj hb a ha hab => q a (List.mem_append_left _ ha) (mem_flatten_of hb hab)) (fun a ha => ⟨(g.fr a (List.mem_append_left _ ha)).1, (g.fr a (List.mem_append_left _ ha)).2.1⟩) (fun a ha => .inl (g.fr a (List.mem_append_left _ ha)).2.2), fun a ha z => ?_⟩, n2, fun a ha => g.fr a (List.mem_append_right _ ha)⟩
  rcases mem_flatten_set z with z | z
  · exact n3 a z a ha rfl
  · exact q a (List.mem_append_right _ ha) z
end
namespace S
def parL : List Nat → List D → List Val → Option (List Val) := setAll
/-- x, y = a, b -/
def par (is : List Nat) (r : MI) : MS := fun env => r env >>= fun xs => M.lift (setAll is xs env) >>= fun env' => pure (.nx env')
/-- x, y = e, e a tuple (or a list) -/
def asgT (is : List Nat) (e : ME) : MS := fun env => e env >>= fun d => M.lift (bindT is d env) >>= fun env' => pure (.nx env')
/-- x, y = e, e a new tuple -/
def asgO (is : List Nat) (e : ME) : MS := fun env => e env >>= fun d => match d with
  | .tup xs => M.lift (setAll is xs env) >>= fun env' => pure (.nx env')
  | _ => M.stuck
end S
def setMs : List Nat → List Ow → List Md → List Md
  | i :: is, m :: ms, Γ => setMs is ms (Γ.set i (.ow m))
  | _, _, Γ => Γ
section
variable {X : Cx} {c : Ct} {Γ Γ1 Γ2 : List Md} {ma mb : ME} {a b e : Expr} {mr : MI} {mo m1 m2 m3 : Ow} {ms : List Ow} {pos px py pz pt pt2 : Pos} {x y z : Str} {i j l : Nat} {kt k2 : Nat}
theorem run_atI {G H : Hp} {σ : L2.St} {env : List Val} {ds : DS} {k : List D → M Fl} {Q : List D → DS → Prop} {Qs : Fl → DS → Prop} (g : Good c Γ G H σ env ds) (h : Run ((mr env >>= k) ds) Qs (ExcS c)) (hk : ∀ d ds1, Run (k d ds1) Qs (ExcS c) → Q d ds1) : Run (mr env ds) Q (ExcQ c G H) :=
  h.bind.mono (fun d ds1 q => hk d ds1 q) fun _ _ _ _ q => q.at g.base
theorem gs_par2 {kt : Nat} {k2 : Nat} (hc : X.calm = true) (hN : X.N.Nodup) (hi : X.N[i]? = some x) (hj : X.N[j]? = some y) (hij : i ≠ j) (li : i < Γ.length) (lj : j < Γ.length) (hx : X.env.scope.names.lookup x = some .local) (hy : X.env.scope.names.lookup y = some .local) (ha : GD X c Γ [a, b] mr [m1, m2])
    (hw : swappedStores [.Tuple [.Name x px, .Name y py] kt pt] (.Tuple [a, b] k2 pt2) X.env = pure (some [x, y])) (hs : swapsWithSole [.Tuple [.Name x px, .Name y py] kt pt] (.Tuple [a, b] k2 pt2) pos.line X.env = pure false := by rfl) :
    GS X c Γ (.Assign [.Tuple [.Name x px, .Name y py] kt pt] (.Tuple [a, b] k2 pt2) pos) (S.par [i, j] mr) ((Γ.set i (.ow m1)).set j (.ow m2)) mo := by
  refine ps_imp (ps_par hc hN hi hj hij hx hy ha hw hs) fun Dn σ H ⟨G, env, ds, g, h⟩ => ⟨G, env, ds, g, run_atI g h fun dl ds1 q vs G1 H1 e1 s1 r1 => ?_⟩
  obtain ⟨as, r1, nd, fr⟩ := r1
  simp only [RepOT] at r1
  obtain ⟨d, dr, v, vr, a1, a2, rfl, rfl, rfl, q1, d', dr', v', vr', a1', a2', rfl, rfl, rfl, q2, rfl, rfl, rfl⟩ := r1
  rw [List.append_nil] at nd fr
  have g1 := (g.free e1 s1 nd fr).put li q1
  have g1' : GoodF c (Γ.set i (.ow m1)) G1 H1 (σ.set i (some v)) (env.set i (.d d)) ds1 (a1' ++ []) := by rw [List.append_nil]; exact g1
  have g2 := g1'.put (by rw [List.length_set]; exact lj) q2
  exact ⟨v, v', rfl, (show OkS c G _ mo Dn (.nx _) ds1 from q) _ G1 H1 e1.g g2.good⟩
theorem gs_par3 {kt : Nat} {k2 : Nat} {d : Expr} (hc : X.calm = true) (hN : X.N.Nodup) (hi : X.N[i]? = some x) (hj : X.N[j]? = some y) (hl : X.N[l]? = some z) (hij : i ≠ j) (hil : i ≠ l) (hjl : j ≠ l) (li : i < Γ.length) (lj : j < Γ.length) (ll : l < Γ.length) (hx : X.env.scope.names.lookup x = some .local) (hy : X.env.scope.names.lookup y = some .local)
    (hz : X.env.scope.names.lookup z = some .local) (ha : GD X c Γ [a, b, d] mr [m1, m2, m3])
    (hw : swappedStores [.Tuple [.Name x px, .Name y py, .Name z pz] kt pt] (.Tuple [a, b, d] k2 pt2) X.env = pure (some [x, y, z])) (hs : swapsWithSole [.Tuple [.Name x px, .Name y py, .Name z pz] kt pt] (.Tuple [a, b, d] k2 pt2) pos.line X.env = pure false := by rfl) :
    GS X c Γ (.Assign [.Tuple [.Name x px, .Name y py, .Name z pz] kt pt] (.Tuple [a, b, d] k2 pt2) pos) (S.par [i, j, l] mr) (((Γ.set i (.ow m1)).set j (.ow m2)).set l (.ow m3)) mo := by
  refine ps_imp (ps_par3 hc hN hi hj hl hij hil hjl hx hy hz ha hw hs) fun Dn σ H ⟨G, env, ds, g, h⟩ => ⟨G, env, ds, g, run_atI g h fun dl ds1 q vs G1 H1 e1 s1 r1 => ?_⟩
  obtain ⟨as, r1, nd, fr⟩ := r1
  simp only [RepOT] at r1
  obtain ⟨d, dr, v, vr, a1, a2, rfl, rfl, rfl, q1, d', dr', v', vr', a1', a2', rfl, rfl, rfl, q2, d'', dr'', v'', vr'', a1'', a2'', rfl, rfl, rfl, q3, rfl, rfl, rfl⟩ := r1
  have g1 := (g.free e1 s1 nd fr).put li q1
  have g2 := g1.put (by rw [List.length_set]; exact lj) q2
  have g3 := g2.put (by rw [List.length_set, List.length_set]; exact ll) q3
  exact ⟨v, v', v'', rfl, (show OkS c G _ mo Dn (.nx _) ds1 from q) _ G1 H1 e1.g g3.good⟩
/-- x, y = e: the parts are frozen -/
theorem gs_asgT {tg : Expr} {is : List Nat} (hg : GTg X c Γ tg (bindT is) is Γ1) (he : GE X c Γ e ma fz) (hs : swapsWithSole [tg] e pos.line X.env = pure false := by rfl) (hw : swappedStores [tg] e X.env = pure none := by rfl)
    (h1 : (assignEach [tg] X.env).map (·.2) = [assign tg X.env] := by rfl) : GS X c Γ (.Assign [tg] e pos) (S.asgT is ma) Γ1 mo := by
  refine ps_imp (ps_asg he hg hs hw h1) fun Dn σ H ⟨G, env, ds, g, h⟩ => ⟨G, env, ds, g, run_at g h fun d ds1 q v G1 H1 e1 s1 r1 => ?_⟩
  obtain ⟨env1, hb, q⟩ := Run.lift (Run.bind q)
  exact ⟨G1, env, ds1, d, env1, g.ext e1 s1, r1.fz, hb, fun σ' o g' => (show OkS c G Γ1 mo Dn (.nx env1) ds1 from q) σ' G1 H1 e1.g g'⟩
/-- the reading of names that are set to parts of their own -/
def tGTo (c : Ct) (Γ : List Md) (is : List Nat) (ms : List Ow) (Γ1 : List Md) : TGs := fun vs σ H Q => ∃ G env ds dl env' as, GoodF c Γ G H σ env ds as ∧ RepOT c.cA G H ms dl vs as ∧ setAll is dl env = some env' ∧ ∀ σ', Good c Γ1 G H σ' env' ds → Q σ' H
def GTo (X : Cx) (c : Ct) (Γ : List Md) (es : List Expr) (is : List Nat) (ms : List Ow) (Γ1 : List Md) : Prop := PGs X es (tGTo c Γ is ms Γ1)
theorem gto_nil : GTo X c Γ [] [] [] Γ := pgs_imp pgs_nil fun xs σ H Q ⟨G, env, ds, dl, env', as, g, r, hb, k⟩ => by
  simp only [RepOT] at r
  obtain ⟨rfl, rfl, rfl⟩ := r
  cases hb
  exact ⟨rfl, k σ g.good⟩
theorem gto_cons {i : Nat} {is : List Nat} {ms : List Ow} {m : Ow} {x : Str} {es : List Expr} {pos : Pos} (hi : i < Γ.length) (hN : X.N.Nodup) (hx : X.N[i]? = some x) (hl : Loc X.env.scope x) (hr : GTo X c (Γ.set i (.ow m)) es is ms Γ1)
    (hf : X.fn x = true ∨ X.env.scope.names.lookup x = some .local := by first | exact .inl rfl | exact .inr rfl | assumption) : GTo X c Γ (.Name x pos :: es) (i :: is) (m :: ms) Γ1 := by
  refine pgs_imp (pgs_cons (pg_name hN hx hl hf) hr) fun xs σ H Q ⟨G, env, ds, dl, env', as, gd, r, hb, kq⟩ => ?_
  simp only [RepOT] at r
  obtain ⟨d, dr, v, vr, a1, a2, rfl, rfl, rfl, q1, q2⟩ := r
  exact ⟨v, vr, rfl, G, _, ds, dr, env', a2, gd.put hi q1, q2, hb, kq⟩
theorem repOT_len {cA : Str → Addr} {G H : Hp} : ∀ {ms : List Ow} {ds : List D} {vs : List V} {as : List Addr}, RepOT cA G H ms ds vs as → vs.length = ms.length
  | [], ds, vs, as, h => by simp only [RepOT] at h; rw [h.2.1]; rfl
  | m :: ms, ds, vs, as, h => by
    simp only [RepOT] at h
    obtain ⟨d, dr, v, vr, a1, a2, rfl, rfl, rfl, h1, h2⟩ := h
    rw [List.length_cons, List.length_cons, repOT_len h2]
/-- x, y = e, e a new tuple whose parts are one's own -/
theorem gs_asgO {es : List Expr} {k n : Nat} {is : List Nat} {tp : Pos} (hc : X.calm = true) (hg : GTo X c Γ es is ms Γ1) (he : GE X c Γ e ma (.ow (.tup ms))) (hn0 : n = ms.length) (hn : (assignEach es X.env).length = n := by rfl) (hst : (assignEach es X.env).findIdx? (·.1) = none := by rfl)
    (hs : swapsWithSole [.Tuple es k tp] e pos.line X.env = pure false := by rfl) (hw : swappedStores [.Tuple es k tp] e X.env = pure none := by rfl)
    (h1 : (assignEach [.Tuple es k tp] X.env).map (·.2) = [assign (.Tuple es k tp) X.env] := by rfl) : GS X c Γ (.Assign [.Tuple es k tp] e pos) (S.asgO is ma) Γ1 mo := by
  refine ps_imp (ps_asg he (pg_tup (n := n) hc hg hn hst) hs hw h1) fun Dn σ H ⟨G, env, ds, g, h⟩ => ⟨G, env, ds, g, run_at g h fun d ds1 q v G1 H1 e1 s1 r1 => ?_⟩
  obtain ⟨as, r1, nd, fr⟩ := r1
  simp only [RepO] at r1
  obtain ⟨a, dl, vs, r, rfl, rfl, rfl, k1, k2⟩ := r1
  obtain ⟨env1, hb, q⟩ := Run.lift (Run.bind q)
  have gf := g.free e1 s1 nd fr
  have gf2 := GoodF.drop (as := [a]) (bs := r) gf
  exact ⟨a, vs, rfl, SqT.of k1, by rw [repOT_len k2, hn0], G1, env, ds1, dl, env1, r, gf2, k2, hb, fun σ' g' => (show OkS c G Γ1 mo Dn (.nx env1) ds1 from q) σ' G1 H1 e1.g g'⟩
end
end Mir
end

set_option maxHeartbeats 200000
section
/-! The rules for what changes an own list, ready to be used. -/
namespace Mir
open PySem L2
section
variable {X : Cx} {c : Ct} {Γ : List Md} {ma mb : ME} {a b e : Expr} {mo m : Ow} {pos p1 p2 p3 : Pos} {x : Str} {i : Nat} {pa : Pv}
theorem gs_appendW (hi : Γ[i]? = some (.ow (.lst m))) (he : GE X c Γ e ma (.ow m)) (hN : X.N[i]? = some x) (hv : Vis X.env.scope x) (hd : (x == ("__debug__" : Str)) = false := by decide) (hcd : (x == ("__classdict__" : Str)) = false := by decide)
    (hbase : attributeBase (.Name x p1) "append" X.env (eval (.Name x p1) X.env) = eval (.Name x p1) X.env := by rfl) (hline : (p2.endLine == pos.line) = true := by rfl)
    (hse : starEach [e] X.env = (false, eval e X.env) :: starEach [] X.env := by rfl) (hs : swapsWith (.Call (.Attribute (.Name x p1) "append" p2) [e] [] pos) none p3.line X.env = pure false := by rfl)
    (hfew : ((backTo pos (starEach [e] X.env)).all (fun x => !x.1) && (backToKw pos (keywordEach [] X.env)).all (fun x => x.1.isSome) && decide ([e].length + ([] : List Keyword).length + (if ([] : List Keyword).isEmpty then 0 else 1) < 30)) = true := by rfl)
    (hpl : (backTo pos (starEach [] X.env)).any (·.1) = false := by rfl) :
    GS X c Γ (.Expr (.Call (.Attribute (.Name x p1) "append" p2) [e] [] pos) p3) (S.append i ma) (Γ.set i (.ow (.lst m))) mo :=
  gs_append hi he hN hv (pe_bm PySem.F.plainAttrs_list PySem.F.slot_list_append PySem.F.type_list_append mt_append (pe_var hN hv hd hcd) (pa_cons he pa_nil hse) hbase hfew hline hse hpl) hs
theorem gs_extendW (hp : pa.flat = true) (hi : Γ[i]? = some (.ow (.lst .fz))) (he : GE X c Γ e ma pa) (hN : X.N[i]? = some x) (hv : Vis X.env.scope x) (hd : (x == ("__debug__" : Str)) = false := by decide) (hcd : (x == ("__classdict__" : Str)) = false := by decide)
    (hbase : attributeBase (.Name x p1) "extend" X.env (eval (.Name x p1) X.env) = eval (.Name x p1) X.env := by rfl) (hline : (p2.endLine == pos.line) = true := by rfl)
    (hse : starEach [e] X.env = (false, eval e X.env) :: starEach [] X.env := by rfl) (hs : swapsWith (.Call (.Attribute (.Name x p1) "extend" p2) [e] [] pos) none p3.line X.env = pure false := by rfl)
    (hfew : ((backTo pos (starEach [e] X.env)).all (fun x => !x.1) && (backToKw pos (keywordEach [] X.env)).all (fun x => x.1.isSome) && decide ([e].length + ([] : List Keyword).length + (if ([] : List Keyword).isEmpty then 0 else 1) < 30)) = true := by rfl)
    (hpl : (backTo pos (starEach [] X.env)).any (·.1) = false := by rfl) :
    GS X c Γ (.Expr (.Call (.Attribute (.Name x p1) "extend" p2) [e] [] pos) p3) (S.extend i ma) Γ mo :=
  gs_extend hp hi he hN hv (pe_bm PySem.F.plainAttrs_list PySem.F.slot_list_extend PySem.F.type_list_extend mt_extend (pe_var hN hv hd hcd) (pa_cons he pa_nil hse) hbase hfew hline hse hpl) hs
theorem gs_setIW (hi : Γ[i]? = some (.ow (.lst .fz))) (he : GE X c Γ e ma fz) (hk : GE X c Γ b mb fz) (hN : X.N[i]? = some x) (hv : Vis X.env.scope x) (hd : (x == ("__debug__" : Str)) = false := by decide) (hcd : (x == ("__classdict__" : Str)) = false := by decide)
    (ha : ∀ v, assign (.Subscript (.Name x p1) b p2) X.env v = (do
      let ov ← holding [v] (eval (.Name x p1) X.env)
      let iv ← holding [v, ov] (eval b X.env)
      standAt p2
      holding [v, ov, iv] (setItem ov iv v)
      release [v, ov, iv] []) := by intro _; rfl)
    (hs : swapsWithSole [.Subscript (.Name x p1) b p2] e pos.line X.env = pure false := by rfl) (hw : swappedStores [.Subscript (.Name x p1) b p2] e X.env = pure none := by rfl) (h1 : (assignEach [.Subscript (.Name x p1) b p2] X.env).map (·.2) = [assign (.Subscript (.Name x p1) b p2) X.env] := by rfl) :
    GS X c Γ (.Assign [.Subscript (.Name x p1) b p2] e pos) (S.setI i mb ma) Γ mo :=
  gs_setI (m := .fz) hi he hk hN hv (ps_asg he (pg_sub (pe_var hN hv hd hcd) hk set_list ha) hs hw h1)
/-- nothing is said of what is never run -/
theorem ge_any {p : Pv} : GE X c Γ e (fun _ => M.stuck) p := ⟨fun pins s σ H Q I ⟨G, env, ds, g, h⟩ => h.elim⟩
theorem gs_any {st : Stmt} {Γ' : List Md} : GS X c Γ st (fun _ => M.stuck) Γ' mo := ⟨fun pins s σ H D I ⟨G, env, ds, g, h⟩ => h.elim⟩
theorem gss_any {st : List Stmt} {Γ' : List Md} : GSs X c Γ st (fun _ => M.stuck) Γ' mo := ⟨fun pins s σ H D I ⟨G, env, ds, g, h⟩ => h.elim⟩
end
namespace E
/-- no list, no dict -/
def imm (a : ME) : ME := fun env => a env >>= fun d => if d.imm then pure d else M.stuck
end E
section
variable {X : Cx} {c : Ct} {Γ : List Md} {ma mb : ME} {a b e : Expr} {mo m : Ow} {pos p1 p2 p3 : Pos} {x : Str} {i : Nat} {pa : Pv}
/-- a value that may be one's own -/
theorem ge_mx0 (h : GE X c Γ e ma fz) : GE X c Γ e (E.imm ma) (.ow .mx) := pe_imp h fun σ H Q ⟨G, env, ds, g, r⟩ => ⟨G, env, ds, g, r.bind.mono (fun d ds1 q v G1 H1 e1 s1 r1 => by
    split at q
    · rename_i hi
      exact (show OkQ c G H (.ow .mx) Q d ds1 from q) v G1 H1 e1 s1 ⟨[], by
        have r1 := r1.fz
        exact ⟨by simp only [RepO]; exact .inl ⟨trivial, hi, r1⟩, List.nodup_nil, by simp⟩⟩
    · exact q.elim) fun _ _ _ _ q => q⟩
theorem ge_mxL (h : GE X c Γ e ma (.ow (.lst .fz))) : GE X c Γ e ma (.ow .mx) := pe_imp h fun σ H Q ⟨G, env, ds, g, r⟩ => ⟨G, env, ds, g, r.mono (fun d ds1 q v G1 H1 e1 s1 r1 => by
    obtain ⟨as, r1, nd, fr⟩ := r1
    simp only [RepO] at r1
    obtain ⟨a, xs, vs, r, rfl, rfl, rfl, k1, k2⟩ := r1
    obtain ⟨er, k3⟩ := allO_fz' (H := H1) k2
    subst er
    exact (show OkQ c G H (.ow .mx) Q _ ds1 from q) _ G1 H1 e1 s1 ⟨[a], by simp only [RepO]; exact .inr (.inl ⟨a, xs, vs, rfl, rfl, rfl, k1, k3⟩), nd, fr⟩) fun _ _ _ _ q => q⟩
theorem ge_mxD (h : GE X c Γ e ma (.ow (.dct .fz))) : GE X c Γ e ma (.ow .mx) := pe_imp h fun σ H Q ⟨G, env, ds, g, r⟩ => ⟨G, env, ds, g, r.mono (fun d ds1 q v G1 H1 e1 s1 r1 => by
    obtain ⟨as, r1, nd, fr⟩ := r1
    simp only [RepO] at r1
    obtain ⟨a, t, ks, xs, vs, r, rfl, rfl, rfl, k1, k2⟩ := r1
    obtain ⟨er, k3⟩ := allO_fz' (H := H1) k2
    subst er
    exact (show OkQ c G H (.ow .mx) Q _ ds1 from q) _ G1 H1 e1 s1 ⟨[a], by simp only [RepO]; exact .inr (.inr ⟨a, t, ks, xs, vs, rfl, rfl, rfl, k1, k3⟩), nd, fr⟩) fun _ _ _ _ q => q⟩
end
end Mir
end

set_option maxHeartbeats 200000
section
/-! Dicts: made, set. -/
namespace Mir
open PySem L2
namespace D
/-- {a: b}, the key an int or a text -/
def dict1 (a b : D) : Option D := (key1 a).map fun k => .dct false [.k k] [b]
/-- the keys behind d[k] = v -/
def putKs (k : DK) (ks : List DK) : List DK := if ks.any (fun x => decide (x = k)) then ks else ks ++ [k]
/-- the values behind d[k] = v -/
def putVs (k : DK) (v : D) (ks : List DK) (vs : List D) : List D := if ks.any (fun x => decide (x = k)) then List.zipWith (fun x y => if x = k then v else y) ks vs else vs ++ [v]
end D
theorem key1_rep {cA : Str → Addr} {H : Hp} {d : D} {v : V} {k : L2.Key} (h : D.key1 d = some k) (r : Rep cA H d v) : v = kV k := by
  cases d <;> simp only [D.key1] at h <;> try (cases h; done)
  · cases h
    simp only [Rep] at r
    exact r
  · cases h
    simp only [Rep] at r
    exact r
section
variable {X : Cx} {c : Ct} {Γ : List Md} {ma mb : ME} {a b e : Expr} {mo m : Ow} {pos p1 p2 p3 : Pos} {x : Str} {i : Nat}
theorem Ext.updNew' {S : Option (Addr × Addr)} {G H G' H' : Hp} (e : Ext S G H G' H') {a : Addr} (h1 : H a = none) (h2 : G' a = none) (o : HO) : Ext S G H G' (upd H' a o) := Ext.updNew e h1 h2 o
theorem ge_dict1 (ha : GE X c Γ a ma fz) (hb : GE X c Γ b mb fz) : GE X c Γ (.Dict [some a] [b] pos) (E.bin D.dict1 ma mb) (.ow (.dct .fz)) := by
  refine pe_imp (pe_disp (pps_cons ha hb pps_nil) rfl rfl (by simp) (by simp)) fun σ H Q ⟨G, env, ds, g, h⟩ p hp => ?_
  have e0 : Ext c.S G H G (upd H p (.dK [])) := Ext.laid g.sub hp _
  have np : p ∉ stN c.S := fun z => by
    obtain ⟨o, q⟩ := g.st.there z
    rw [hp] at q
    cases q
  have g0 := g.ext e0 (g.st.laid hp _)
  refine ⟨G, env, ds, g0, h.bind.mono (fun dx ds1 h1 x G1 H1 e1 s1 r1 => ⟨G1, env, ds1, g0.ext e1 s1, h1.bind.mono (fun dy ds2 h2 y G2 H2 e2 s2 r2 => ?_) fun _ _ _ _ q => (q.ext e0).ext e1⟩) fun _ _ _ _ q => q.ext e0⟩
  obtain ⟨d, hd, q⟩ := Run.lift h2
  obtain ⟨k, hk, rfl⟩ := Option.map_eq_some_iff.mp hd
  have r1 := r1.fz
  have r2 := r2.fz
  have ex := key1_rep hk r1
  subst ex
  have e := e1.trans e2
  have h2p : H2 p = some (.dK []) := e.h p _ np (by simp) upd_same
  have gp : G2 p = none := by
    cases z : G2 p with
    | none => rfl
    | some o =>
      rcases e.new p o z with w | w
      · rw [free_of g.sub hp] at w; cases w
      · rw [upd_same] at w; cases w
  refine ⟨h2p, [(k, y)], rfl, by simp, ?_⟩
  refine (show OkQ c G H (.ow (.dct .fz)) Q (.dct false [.k k] [dy]) ds2 from q) (.ref p) G2 _ (Ext.updNew (e0.trans e) hp gp _) (s2.at (fun _ _ => rfl) fun a ha => upd_ne fun z => np (z ▸ ha)) ⟨[p], ?_, by simp, fun a ha => ?_⟩
  · simp only [RepO]
    exact ⟨p, false, [.k k], [dy], [y], [], rfl, rfl, rfl, ⟨[(k, y)], upd_same, rfl, rfl⟩, allO_fz (H := upd H2 p (.dK (mergeK [] [(k, y)]))) (.cons r2 .nil)⟩
  · simp only [List.mem_singleton] at ha
    subst ha
    exact ⟨hp, gp⟩
end
section
variable {cA : Str → Addr} {G : Hp}
theorem putK_rep {k : L2.Key} {d : D} {v : V} (r : Rep cA G d v) : ∀ {kvs : List (L2.Key × V)} {ds : List D}, RepL cA G ds (kvs.map (fun p => p.2)) →
    D.putKs (.k k) (kvs.map (fun p => DK.k p.1)) = (putK kvs k v).map (fun p => DK.k p.1) ∧ RepL cA G (D.putVs (.k k) d (kvs.map (fun p => DK.k p.1)) ds) ((putK kvs k v).map (fun p => p.2)) := by
  intro kvs ds h
  have ha : (kvs.map (fun p => DK.k p.1)).any (fun x => decide (x = DK.k k)) = kvs.any fun kv => decide (kv.1 = k) := by
    rw [List.any_map]
    congr 1
    funext p
    simp
  unfold D.putKs D.putVs putK
  rw [ha]
  cases kvs.any fun kv => decide (kv.1 = k) with
  | false =>
    simp only [Bool.false_eq_true, if_false, List.map_append, List.map_cons, List.map_nil]
    exact ⟨trivial, h.append (.cons r .nil)⟩
  | true =>
    simp only [if_true]
    refine ⟨?_, ?_⟩
    · rw [List.map_map]
      congr 1
      funext p
      simp only [Function.comp]
      split <;> rfl
    · clear ha
      induction kvs generalizing ds with
      | nil => simp only [List.map_nil, List.zipWith_nil_left]; exact .nil
      | cons p kvs ih =>
        cases ds with
        | nil => simp only [List.map_cons, RepL] at h; cases h
        | cons e ds =>
          simp only [List.map_cons, RepL] at h
          obtain ⟨w, ws, e1, r1, r2⟩ := h
          obtain ⟨rfl, rfl⟩ := List.cons.inj e1
          simp only [List.map_cons, List.zipWith_cons_cons]
          refine .cons ?_ (ih r2)
          by_cases hk : p.1 = k
          · rw [if_pos (by rw [hk]), if_pos hk]
            exact r
          · rw [if_neg (by simpa using hk), if_neg hk]
            exact r1
theorem putT_rep {k : List L2.Key} {d : D} {v : V} (r : Rep cA G d v) : ∀ {kvs : List (List L2.Key × V)} {ds : List D}, RepL cA G ds (kvs.map (fun p => p.2)) →
    D.putKs (.t k) (kvs.map (fun p => DK.t p.1)) = (putK kvs k v).map (fun p => DK.t p.1) ∧ RepL cA G (D.putVs (.t k) d (kvs.map (fun p => DK.t p.1)) ds) ((putK kvs k v).map (fun p => p.2)) := by
  intro kvs ds h
  have ha : (kvs.map (fun p => DK.t p.1)).any (fun x => decide (x = DK.t k)) = kvs.any fun kv => decide (kv.1 = k) := by
    rw [List.any_map]
    congr 1
    funext p
    simp
  unfold D.putKs D.putVs putK
  rw [ha]
  cases kvs.any fun kv => decide (kv.1 = k) with
  | false =>
    simp only [Bool.false_eq_true, if_false, List.map_append, List.map_cons, List.map_nil]
    exact ⟨trivial, h.append (.cons r .nil)⟩
  | true =>
    simp only [if_true]
    refine ⟨?_, ?_⟩
    · rw [List.map_map]
      congr 1
      funext p
      simp only [Function.comp]
      split <;> rfl
    · clear ha
      induction kvs generalizing ds with
      | nil => simp only [List.map_nil, List.zipWith_nil_left]; exact .nil
      | cons p kvs ih =>
        cases ds with
        | nil => simp only [List.map_cons, RepL] at h; cases h
        | cons e ds =>
          simp only [List.map_cons, RepL] at h
          obtain ⟨w, ws, e1, r1, r2⟩ := h
          obtain ⟨rfl, rfl⟩ := List.cons.inj e1
          simp only [List.map_cons, List.zipWith_cons_cons]
          refine .cons ?_ (ih r2)
          by_cases hk : p.1 = k
          · rw [if_pos (by rw [hk]), if_pos hk]
            exact r
          · rw [if_neg (by simpa using hk), if_neg hk]
            exact r1
end
end Mir
end

set_option maxHeartbeats 200000
section
/-! What the printed derivations lean on. -/
theorem L2.Room.u65 {k : Nat} {A : PySem.Around} (r : L2.Room k A) : A.units + 65 < PySem.cLine := by have := r.un; omega
theorem L2.Room.u1 {k : Nat} {A : PySem.Around} (r : L2.Room k A) : A.units + 1 < PySem.cLine := by have := r.un; omega
namespace Mir
open PySem PySem.Spec PyProof.Rows L2
theorem sz {n : Nat} (h : n ≤ 1000 := by decide) : n ≤ sizeLine := by
  rw [sizeLine_eq]
  omega
theorem passF {X : Cx} : Passes (L2.CX X.prog X.w) X (fun _ _ _ => False) := passL
section
variable {X : Cx} {c : Ct} {Γ : List Md} {ma mb md : ME} {a b d e : Expr} {pos : Pos}
theorem ge_chainW {op op' : CmpOp} {f f' : D → D → Option D} (ho : OpS X c (compareOp op) f fz fz fz) (ho' : OpS X c (compareOp op') f' fz fz fz) (ha : GE X c Γ a ma fz) (hb : GE X c Γ b mb fz) (hd : GE X c Γ d md fz) (hm : lastMarks [op, op'] [b, d] = false := by with_unfolding_all rfl) :
    GE X c Γ (.Compare a [op, op'] [b, d] pos) (E.chain f f' ma mb md) fz :=
  ge_chain ho ho' ha hb hd fun h1 h2 => pe_chain h1 h2 ha hb hd hm
end
/-- a def of the text -/
def Df (K : PySem.W.Frag) (mg : Str → Option Value) (x : Str) (st : Stmt) : Prop := ∃ fd, FunD K x x (defArgs st) (defBody st) (defScope st) [] [] (He.ga K x) fd ∧ mg x = some (.ref (He.ga K x))
/-- an own class of exceptions with an __init__ of one field -/
def MxC (P : Program) (w : World) (K : PySem.W.Frag) (mg : Str → Option Value) (base : Heap) (x f pn : Str) : Prop :=
  ∃ fI fd, XmF K (He.ga K x) fI f ∧ FnOk P w K mg base (L2.CX P w) 1 fI fd [("self" : Str), pn] (spXi K f) ∧ Binds K fd [("self" : Str), pn] [] ∧
    ∀ (s : Shared) (self u : Value), K.In s.heap → BindsTo s fd ⟨[self], [(pn, u)]⟩ (([("self" : Str), pn] : List Str).zip [self, u])
section
variable {X : Cx} {c : Ct} {Γ : List Md} {ma : ME} {e : Expr} {p pos kpos : Pos} {x f pn : Str} {k : Nat}
theorem MxC.ge (M : MxC X.prog X.w X.K X.mg X.base x f pn) (hC : c.cA x = He.ga X.K x) (hr : Room (k + 2) X.A) (hg : Gl X x) (hm : X.mg x = some (.ref (He.ga X.K x))) (ha : GE X c Γ e ma fz)
    (hdb : (x == ("__debug__" : Str)) = false := by decide) (he : starEach [e] X.env = (false, eval e X.env) :: starEach [] X.env := by rfl) (hpl : (backTo pos (starEach [] X.env)).any (·.1) = false := by rfl) :
    GE X c Γ (.Call (.Name x p) [e] [] pos) (E.un (D.mkX x f) ma) fz := by
  obtain ⟨fI, fd, h1, h2, h3, h4⟩ := M
  exact ge_xv hC h1 h2 (hr.mono (by omega)) h3 rfl passF hg hm ha hdb he hpl
theorem MxC.geK (M : MxC X.prog X.w X.K X.mg X.base x f pn) (hC : c.cA x = He.ga X.K x) (hr : Room (k + 2) X.A) (hg : Gl X x) (hm : X.mg x = some (.ref (He.ga X.K x))) (ha : GE X c Γ e ma fz)
    (hall : (backToKw pos (keywordEach [⟨some pn, e, kpos⟩] X.env)).all (·.1.isSome) = true := by rfl) (hks : (backToKw pos (keywordEach [⟨some pn, e, kpos⟩] X.env)).filterMap (·.1) = [pn] := by rfl) (hdb : (x == ("__debug__" : Str)) = false := by decide)
    (hpl : ((backTo pos (starEach [] X.env)).any (·.1) || (backToKw pos (keywordEach [⟨some pn, e, kpos⟩] X.env)).any (·.1.isNone)) = false := by rfl) :
    GE X c Γ (.Call (.Name x p) [] [⟨some pn, e, kpos⟩] pos) (E.un (D.mkX x f) ma) fz := by
  obtain ⟨fI, fd, h1, h2, h3, h4⟩ := M
  exact ge_xvK hC h1 h2 (hr.mono (by omega)) h4 passF hg hm ha hall hks hdb hpl
end
/-- isinstance's word on a class, looked up in the written part -/
def kitFB (K : PySem.W.Frag) (L : List Kin) (u : Value) (t : Str) : Bool := kindsTy.all (fun n => decide (PySem.W.kitOne K (.type n.1) u = some (n.2.contains t))) && L.all fun k => decide (PySem.W.kitOne K (.ref (He.ga K k.name)) u = some (k.ks.contains t))
theorem kitFB_ok {K : PySem.W.Frag} {L : List Kin} {u : Value} {t : Str} (h : kitFB K L u t = true) : KitF K (He.ga K) L u t := by
  unfold kitFB at h
  rw [Bool.and_eq_true] at h
  exact ⟨fun n hn => of_decide_eq_true (List.all_eq_true.mp h.1 n hn), fun k hk => of_decide_eq_true (List.all_eq_true.mp h.2 k hk)⟩
end Mir
end

set_option maxHeartbeats 200000
section
/-! A frozen dict is locked while a comprehension walks over it. -/
namespace Mir
open PySem PySem.Spec PyProof.Rows L2
/-- as before, but that dicts may be locked or not -/
def Lk (G G' : Hp) : Prop := ∀ b o, G b = some o → G' b = some o ∨ (∃ (kvs : List (L2.Key × V)) (od : Obj), (o = .dK kvs ∧ G' b = some (.frz od (.dK kvs))) ∨ (o = .frz od (.dK kvs) ∧ G' b = some (.dK kvs)))
theorem Lk.lst {G G' : Hp} (e : Lk G G') {b : Addr} {xs : List V} (h : G b = some (.lst xs)) : G' b = some (.lst xs) := by
  rcases e b _ h with z | ⟨kvs, od, ⟨z, _⟩ | ⟨z, _⟩⟩ <;> first | exact z | cases z
theorem Lk.tup {G G' : Hp} (e : Lk G G') {b : Addr} {xs : List V} (h : G b = some (.tup xs)) : G' b = some (.tup xs) := by
  rcases e b _ h with z | ⟨kvs, od, ⟨z, _⟩ | ⟨z, _⟩⟩ <;> first | exact z | cases z
theorem Lk.ins {G G' : Hp} (e : Lk G G') {b C dx : Addr} {fs : List (Str × V)} (h : G b = some (.ins C dx fs)) : G' b = some (.ins C dx fs) := by
  rcases e b _ h with z | ⟨kvs, od, ⟨z, _⟩ | ⟨z, _⟩⟩ <;> first | exact z | cases z
theorem Lk.own {G G' : Hp} (e : Lk G G') {b x : Addr} (h : G b = some (.own x)) : G' b = some (.own x) := by
  rcases e b _ h with z | ⟨kvs, od, ⟨z, _⟩ | ⟨z, _⟩⟩ <;> first | exact z | cases z
theorem exo_dK {e C : Addr} {d : Option Addr} {kvs : List (L2.Key × V)} : exo e C d ≠ .dK kvs := fun z => by
  have z' : HO.ext _ = HO.dK kvs := z
  cases z'
theorem exd_dK {e : Addr} {fs : List (Str × V)} {kvs : List (L2.Key × V)} : exd e fs ≠ .dK kvs := fun z => by
  have z' : HO.ext _ = HO.dK kvs := z
  cases z'
theorem exd_frz {e : Addr} {fs : List (Str × V)} {o : Obj} {u : HO} : exd e fs ≠ .frz o u := fun z => by
  have z' : HO.ext _ = HO.frz o u := z
  cases z'
theorem Lk.exo {G G' : Hp} (e : Lk G G') {b a C : Addr} {d : Option Addr} (h : G b = some (exo a C d)) : G' b = some (exo a C d) := by
  rcases e b _ h with z | ⟨kvs, od, ⟨z, _⟩ | ⟨z, _⟩⟩
  · exact z
  · exact absurd z exo_dK
  · exact absurd z exo_frz
theorem Lk.exd {G G' : Hp} (e : Lk G G') {b a : Addr} {fs : List (Str × V)} (h : G b = some (exd a fs)) : G' b = some (exd a fs) := by
  rcases e b _ h with z | ⟨kvs, od, ⟨z, _⟩ | ⟨z, _⟩⟩
  · exact z
  · exact absurd z exd_dK
  · exact absurd z exd_frz
theorem Lk.rdK {G G' : Hp} (e : Lk G G') {b : Addr} {kvs : List (L2.Key × V)} (h : Rd G b (.dK kvs)) : Rd G' b (.dK kvs) := by
  rcases h with h | ⟨o, h⟩
  · rcases e b _ h with z | ⟨kvs', od, ⟨z, z2⟩ | ⟨z, z2⟩⟩
    · exact .inl z
    · cases z
      exact .inr ⟨od, z2⟩
    · cases z
  · rcases e b _ h with z | ⟨kvs', od, ⟨z, z2⟩ | ⟨z, z2⟩⟩
    · exact .inr ⟨o, z⟩
    · cases z
    · cases z
      exact .inl z2
theorem Lk.rdT {G G' : Hp} (e : Lk G G') {b : Addr} {kvs : List (List L2.Key × V)} (h : Rd G b (.dT kvs)) : Rd G' b (.dT kvs) := by
  rcases h with h | ⟨o, h⟩
  · rcases e b _ h with z | ⟨kvs', od, ⟨z, z2⟩ | ⟨z, z2⟩⟩
    · exact .inl z
    · cases z
    · cases z
  · rcases e b _ h with z | ⟨kvs', od, ⟨z, z2⟩ | ⟨z, z2⟩⟩
    · exact .inr ⟨o, z⟩
    · cases z
    · cases z
theorem Lk.dict {G G' : Hp} (e : Lk G G') {t : Bool} {a : Addr} {ks : List DK} {vs : List V} (h : DictAt G t a ks vs) : DictAt G' t a ks vs := by
  cases t with
  | false =>
    obtain ⟨kvs, h1, h2⟩ := h
    exact ⟨kvs, e.rdK h1, h2⟩
  | true =>
    obtain ⟨kvs, h1, h2⟩ := h
    exact ⟨kvs, e.rdT h1, h2⟩
section
variable {cA : Str → Addr} {G G' H H' : Hp}
mutual
theorem Rep.lk (e : Lk G G') : ∀ {d : D} {v : V}, Rep cA G d v → Rep cA G' d v
  | .non, v, h => by simpa only [Rep] using h
  | .bl b, v, h => by simpa only [Rep] using h
  | .int i, v, h => by simpa only [Rep] using h
  | .str s, v, h => by simpa only [Rep] using h
  | .lst ds, v, h => by
    simp only [Rep] at h ⊢
    obtain ⟨a, vs, h1, h2, h3⟩ := h
    exact ⟨a, vs, h1, e.lst h2, RepL.lk e h3⟩
  | .tup ds, v, h => by
    simp only [Rep] at h ⊢
    obtain ⟨a, vs, h1, h2, h3⟩ := h
    exact ⟨a, vs, h1, e.tup h2, RepL.lk e h3⟩
  | .dct t ks ds, v, h => by
    simp only [Rep] at h ⊢
    obtain ⟨a, vs, h1, h2, h3⟩ := h
    exact ⟨a, vs, h1, e.dict h2, RepL.lk e h3⟩
  | .obj c ns ds, v, h => by
    simp only [Rep] at h ⊢
    obtain ⟨a, dx, fs, h1, h2, h3, h4, h5⟩ := h
    exact ⟨a, dx, fs, h1, e.ins h2, e.own h3, h4, RepL.lk e h5⟩
  | .xc c ns ds, v, h => by
    simp only [Rep] at h ⊢
    obtain ⟨a, h1, h⟩ := h
    rcases h with ⟨h2, h3, h4⟩ | ⟨dx, fs, h2, h3, h4, h5⟩
    · exact ⟨a, h1, .inl ⟨h2, h3, e.exo h4⟩⟩
    · exact ⟨a, h1, .inr ⟨dx, fs, e.exo h2, e.exd h3, h4, RepL.lk e h5⟩⟩
  | .raw w, v, h => by simpa only [Rep] using h
theorem RepL.lk (e : Lk G G') : ∀ {ds : List D} {vs : List V}, RepL cA G ds vs → RepL cA G' ds vs
  | [], vs, h => by simpa only [RepL] using h
  | d :: ds, vs, h => by
    simp only [RepL] at h ⊢
    obtain ⟨v, r, h1, h2, h3⟩ := h
    exact ⟨v, r, h1, Rep.lk e h2, RepL.lk e h3⟩
end
mutual
theorem RepO.lk (e : Lk G G') : ∀ {m : Ow} {d : D} {v : V} {as : List Addr}, (∀ a ∈ as, H' a = H a) → RepO cA G H m d v as → RepO cA G' H' m d v as
  | .fz, d, v, as, s, h => by
    simp only [RepO] at h ⊢
    exact ⟨h.1, h.2.lk e⟩
  | .lst m, d, v, as, s, h => by
    simp only [RepO] at h ⊢
    obtain ⟨a, ds, vs, r, rfl, rfl, rfl, h1, h2⟩ := h
    refine ⟨a, ds, vs, r, rfl, rfl, rfl, by rw [s a (by simp), h1], AllO.imp (as0 := r) (fun d v as hs q => RepO.lk e (fun b hb => s b (List.mem_cons_of_mem _ (hs b hb))) q) (fun _ z => z) h2⟩
  | .tup ms, d, v, as, s, h => by
    simp only [RepO] at h ⊢
    obtain ⟨a, ds, vs, r, rfl, rfl, rfl, h1, h2⟩ := h
    exact ⟨a, ds, vs, r, rfl, rfl, rfl, by rw [s a (by simp), h1], RepOT.lk e (fun b hb => s b (List.mem_cons_of_mem _ hb)) h2⟩
  | .dct m, d, v, as, s, h => by
    simp only [RepO] at h ⊢
    obtain ⟨a, t, ks, ds, vs, r, rfl, rfl, rfl, h1, h2⟩ := h
    exact ⟨a, t, ks, ds, vs, r, rfl, rfl, rfl, h1.of fun o q => by rw [s a (by simp), q], AllO.imp (as0 := r) (fun d v as hs q => RepO.lk e (fun b hb => s b (List.mem_cons_of_mem _ (hs b hb))) q) (fun _ z => z) h2⟩
  | .obj ms, d, v, as, s, h => by
    simp only [RepO] at h ⊢
    obtain ⟨a, dx, c, ns, ds, fs, r, rfl, rfl, rfl, h1, h2, h3, h4⟩ := h
    exact ⟨a, dx, c, ns, ds, fs, r, rfl, rfl, rfl, by rw [s a (by simp), h1], by rw [s dx (by simp), h2], h3, RepOT.lk e (fun b hb => s b (List.mem_cons_of_mem _ (List.mem_cons_of_mem _ hb))) h4⟩
  | .mx, d, v, as, s, h => by
    simp only [RepO] at h ⊢
    rcases h with ⟨h1, hi, h2⟩ | ⟨a, ds, vs, h1, h2, rfl, h3, h4⟩ | ⟨a, t, ks, ds, vs, h1, h2, rfl, h3, h4⟩
    · exact .inl ⟨h1, hi, h2.lk e⟩
    · exact .inr (.inl ⟨a, ds, vs, h1, h2, rfl, by rw [s a (by simp), h3], h4.lk e⟩)
    · exact .inr (.inr ⟨a, t, ks, ds, vs, h1, h2, rfl, h3.of fun o q => by rw [s a (by simp), q], h4.lk e⟩)
theorem RepOT.lk (e : Lk G G') : ∀ {ms : List Ow} {ds : List D} {vs : List V} {as : List Addr}, (∀ a ∈ as, H' a = H a) → RepOT cA G H ms ds vs as → RepOT cA G' H' ms ds vs as
  | [], ds, vs, as, s, h => by simpa only [RepOT] using h
  | m :: ms, ds, vs, as, s, h => by
    simp only [RepOT] at h ⊢
    obtain ⟨d, dr, v, vr, a1, a2, rfl, rfl, rfl, h1, h2⟩ := h
    exact ⟨d, dr, v, vr, a1, a2, rfl, rfl, rfl, RepO.lk e (fun b hb => s b (List.mem_append_left _ hb)) h1, RepOT.lk e (fun b hb => s b (List.mem_append_right _ hb)) h2⟩
end
end
theorem lk_lock {G : Hp} {d : Addr} {kvs : List (L2.Key × V)} {od : Obj} (h : G d = some (.dK kvs)) : Lk G (upd G d (.frz od (.dK kvs))) := fun b o q => by
  by_cases e : b = d
  · subst e
    rw [h] at q
    cases q
    exact .inr ⟨kvs, od, .inl ⟨rfl, upd_same⟩⟩
  · exact .inl (by rw [upd_ne e]; exact q)
theorem lk_unlock {G : Hp} {d : Addr} {kvs : List (L2.Key × V)} {od : Obj} (h : G d = some (.frz od (.dK kvs))) : Lk G (upd G d (.dK kvs)) := fun b o q => by
  by_cases e : b = d
  · subst e
    rw [h] at q
    cases q
    exact .inr ⟨kvs, od, .inr ⟨rfl, upd_same⟩⟩
  · exact .inl (by rw [upd_ne e]; exact q)
namespace E
/-- for x in the dict that the name i holds -/
def keysV (i : Nat) : MI := fun env => match env[i]? with
  | some (.d (.dct t ks _)) => if t = false ∧ ks.length ≤ sizeLine then pure (ks.map D.ofKey) else M.stuck
  | _ => M.stuck
end E
/-- no exception comes of it -/
def NX {α : Type} (m : M α) : Prop := ∀ (ds : DS) (cn : Str) (ns : List Str) (vs : List D) (ds' : DS), m ds ≠ .exc cn ns vs ds'
theorem NX.bind {α β : Type} {m : M α} {f : α → M β} (h1 : NX m) (h2 : ∀ a, NX (f a)) : NX (m >>= f) := fun ds cn ns vs ds' h => by
  have h : M.bnd m f ds = .exc cn ns vs ds' := h
  unfold M.bnd at h
  cases e : m ds with
  | ok a d1 => rw [e] at h; exact h2 a d1 cn ns vs ds' h
  | exc c1 n1 v1 d1 => exact h1 _ _ _ _ _ e
  | stuck => rw [e] at h; cases h
theorem NX.pure {α : Type} {a : α} : NX (Pure.pure a : M α) := fun ds cn ns vs ds' h => by cases h
theorem NX.stuck {α : Type} : NX (M.stuck : M α) := fun ds cn ns vs ds' h => by cases h
theorem NX.lift {α : Type} {o : Option α} : NX (M.lift o) := by
  cases o with
  | none => exact NX.stuck
  | some a => exact NX.pure
theorem NX.nox {α : Type} {m : M α} : NX (M.nox m) := fun ds cn ns vs ds' h => by
  unfold M.nox at h
  split at h <;> cases h
theorem compL_nx {bd : Bd} {tm : MB} {me : ME} {env : List Val} : ∀ xs : List D, NX (E.compL bd tm me xs env)
  | [] => NX.pure
  | x :: xs => by
    unfold E.compL
    refine NX.lift.bind fun env1 => NX.nox.bind fun k => ?_
    split
    · exact NX.nox.bind fun y => (compL_nx xs).bind fun ys => NX.pure
    · exact compL_nx xs
theorem comp_nx {i : Nat} {bd : Bd} {tm : MB} {me : ME} {env : List Val} : NX (E.comp (E.keysV i) bd tm me env) := by
  unfold E.comp
  refine NX.bind ?_ fun xs => (compL_nx xs).bind fun ys => NX.pure
  unfold E.keysV
  split
  · split
    · exact NX.pure
    · exact NX.stuck
  · exact NX.stuck
/-- the heap with the node at d, if it is there, locked -/
def lkF (F : Hp) (d : Addr) (o : HO) : Hp := fun b => if b = d ∧ F d ≠ none then some o else F b
theorem lkF_ne {F : Hp} {d b : Addr} {o : HO} (h : b ≠ d) : lkF F d o b = F b := if_neg fun z => h z.1
theorem lkF_none {F : Hp} {d : Addr} {o : HO} (h : F d = none) : lkF F d o = F := by
  funext b
  exact if_neg fun z => z.2 h
theorem lkF_some {F : Hp} {d : Addr} {o u : HO} (h : F d = some u) : lkF F d o d = some o := if_pos ⟨rfl, by rw [h]; simp⟩
section
variable {X : Cx} {c : Ct} {Γ Γ1 : List Md} {G H : Hp} {σ : L2.St} {env : List Val} {ds : DS}
theorem Slots.lk {c' : Ct} {G' H' : Hp} {ass : List (List Addr)} (hc : c'.cA = c.cA ∧ c'.fnv = c.fnv ∧ c'.S = c.S) (e : Lk G G') (h : ∀ a ∈ ass.flatten, H' a = H a) (s : Slots c G H Γ σ env ass) : Slots c' G' H' Γ σ env ass := by
  obtain ⟨h1, h2, h3⟩ := hc
  induction s with
  | nil => exact .nil
  | un x v s ih => exact .un x v (ih fun a ha => h a (by simpa using ha))
  | ow r s ih =>
    refine .ow ?_ (ih fun a ha => h a (by simp only [List.flatten_cons, List.mem_append]; exact .inr ha))
    rw [h1]
    exact r.lk e fun a ha => h a (by simp [ha])
  | fn f s ih => exact .fn (by rw [h2]; exact f) (ih fun a ha => h a (by simpa using ha))
  | st f s ih => exact .st (by rw [h3]; exact f) (ih fun a ha => h a (by simpa using ha))
/-- the context and all heaps, a frozen dict locked -/
theorem Good.lock {d : Addr} {kvs : List (L2.Key × V)} {od : Obj} (hl : c.lent = []) (g : Good c Γ G H σ env ds) (hG : G d = some (.dK kvs)) :
    Good { c with G0 := lkF c.G0 d (.frz od (.dK kvs)), H0 := lkF c.H0 d (.frz od (.dK kvs)) } Γ (upd G d (.frz od (.dK kvs))) (upd H d (.frz od (.dK kvs))) σ env ds := by
  have hH : H d = some (.dK kvs) := g.sub _ _ hG
  have hd : d ∉ stN c.S := fun z => by
    rw [g.st.free z] at hG
    cases hG
  obtain ⟨ass, s, o⟩ := g.slots
  have own : ∀ a ∈ ass.flatten, a ≠ d := fun a ha z => by
    have := (o.fr a ha).1
    rw [z, hG] at this
    cases this
  refine ⟨fun b x q => ?_, g.st.at (fun a ha => upd_ne fun z => hd (z ▸ ha)) (fun a ha => upd_ne fun z => hd (z ▸ ha)), ⟨fun b x q => ?_, fun b x hs hL q => ?_, fun b x q => ?_, fun b x q => ?_, fun b x q => ?_⟩, ass, Slots.lk (c := c) ⟨rfl, rfl, rfl⟩ (lk_lock hG) (fun a ha => upd_ne (own a ha)) s, o.nd, fun a ha => ⟨by rw [upd_ne (own a ha)]; exact (o.fr a ha).1, (o.fr a ha).2⟩, fun i as hi a ha => ?_⟩
  · by_cases e : b = d
    · rw [e, upd_same] at q ⊢
      exact q
    · rw [upd_ne e] at q ⊢
      exact g.sub _ _ q
  · have q : lkF c.G0 d (.frz od (.dK kvs)) b = some x := q
    by_cases e : b = d
    · subst e
      cases hz : c.G0 b with
      | none => rw [lkF_none hz, hz] at q; cases q
      | some u => rw [lkF_some hz] at q; rw [upd_same]; exact q
    · rw [lkF_ne e] at q
      rw [upd_ne e]
      exact g.base.g _ _ q
  · have q : lkF c.H0 d (.frz od (.dK kvs)) b = some x := q
    by_cases e : b = d
    · subst e
      cases hz : c.H0 b with
      | none => rw [lkF_none hz, hz] at q; cases q
      | some u => rw [lkF_some hz] at q; rw [upd_same]; exact q
    · rw [lkF_ne e] at q
      rw [upd_ne e]
      exact g.base.h _ _ hs hL q
  · have q : lkF c.H0 d (.frz od (.dK kvs)) b = some x := q
    by_cases e : b = d
    · exact ⟨_, by rw [e, upd_same]⟩
    · rw [lkF_ne e] at q
      rw [upd_ne e]
      exact g.base.s _ _ q
  · by_cases e : b = d
    · subst e
      rw [upd_same] at q
      rcases g.base.new b _ hG with z | z
      · exact .inl (by show lkF c.G0 b _ b = _; rw [lkF_some z]; exact q)
      · exact .inr (by show lkF c.H0 b _ b = _; rw [lkF_none z]; exact z)
    · rw [upd_ne e] at q
      rcases g.base.new b x q with z | z
      · exact .inl (by show lkF c.G0 d _ b = _; rw [lkF_ne e]; exact z)
      · exact .inr (by show lkF c.H0 d _ b = _; rw [lkF_ne e]; exact z)
  · by_cases e : b = d
    · rw [e, upd_same] at q ⊢
      exact q
    · rw [upd_ne e] at q ⊢
      exact g.sub _ _ q
  · have e : a ≠ d := own a (mem_flatten_of hi ha)
    rcases o.en i as hi a ha with z | z
    · exact .inl (by show lkF c.H0 d _ a = none; rw [lkF_ne e]; exact z)
    · exact .inr z
variable {iter tg elt : Expr} {ifs : List Expr} {scope : Scope} {own : List (Str × Nat)} {bd : Bd} {is : List Nat} {tm : MB} {me : ME} {m : Ow} {i : Nat} {x : Str} {p pos : Pos}
/-- the walk over a locked dict -/
theorem keys_walk {d : Addr} {o : Obj} {kvs : List (L2.Key × V)} {K : It → Hp → Prop} (hi : Γ[i]? = some (.ow .fz)) (hσ : σ[i]? = some (some (.ref d))) (hk : H d = some (.frz o (.dK kvs))) (h : tGI c RVw Γ (E.keysV i) σ H K) : iKeys (tVar i) σ H K := by
  obtain ⟨G, env, ds, g, h⟩ := h
  obtain ⟨v, d0, h1, h2, as, r, hfr⟩ := g.get hi
  rw [hσ] at h1
  cases h1
  simp only [RepO] at r
  have r := r.2
  unfold E.keysV at h
  rw [h2] at h
  cases d0 <;> try exact h.elim
  rename_i t ks vs
  simp only at h
  split at h
  · rename_i ht
    obtain ⟨rfl, hz⟩ := ht
    simp only [Rep] at r
    obtain ⟨a, ws, e, r1, r2⟩ := r
    cases e
    obtain ⟨kvs', k1, rfl, rfl⟩ := r1
    have hG : G d = some (.frz o (.dK kvs)) := by
      rcases k1 with z | ⟨o', z⟩
      · rw [g.sub _ _ z] at hk; cases hk
      · have := g.sub _ _ z
        rw [hk] at this
        rw [z, ← this]
    have hkv : kvs' = kvs := by
      rcases k1 with z | ⟨o', z⟩
      · rw [g.sub _ _ z] at hk; cases hk
      · rw [hG] at z; cases z; rfl
    subst hkv
    have hd : d ∉ stN c.S := fun z => by
      rw [g.st.free z] at hG
      cases hG
    refine ⟨.ref d, hσ, d, o, rfl, .inl ⟨kvs', hk, ?_⟩⟩
    have hl : ((kvs'.map (fun p => DK.k p.1)).map D.ofKey).length = kvs'.length := by simp
    refine (show OkI c RVw G H K ((kvs'.map (fun p => DK.k p.1)).map D.ofKey) ds from h) G H _ (fun H => H d = some (.frz o (.dK kvs'))) (fun i H x H' => H' = H ∧ ∃ k v, kvs'[i]? = some (k, v) ∧ x = kV k) (.refl g.sub) g.st ⟨by rw [hl]; exact walk_keys, fun G2 H2 (e : Ext _ _ _ _ _) => e.h d _ hd (by simp) hk, fun i G2 H2 x H3 sub e y => ?_, by rw [hl]; simpa using hz⟩
    obtain ⟨e1, k, v, e2, e3⟩ := y
    subst e1 e3
    exact ⟨D.ofKey (.k k), by simp [e2], item_same sub (rep_key k)⟩
  · exact h.elim
theorem pe_or {e : Expr} {t1 t2 : TE} (h1 : PE X e t1) (h2 : PE X e t2) : PE X e (fun σ H Q => t1 σ H Q ∨ t2 σ H Q) := ⟨fun pins s σ H Q I hw => hw.elim (h1.run pins s σ H Q I) (h2.run pins s σ H Q I)⟩
/-- [e for x in d if t], d a frozen dict -/
theorem ge_compD (hl : c.lent = []) (hi : Γ[i]? = some (.ow .fz)) (hx : X.N[i]? = some x) (hv : Vis X.env.scope x) (hc : X.calm = true) (hN : X.N.Nodup) (ok : BlkOk X.N X.env.scope scope own) (his : ∀ i ∈ is, i ∈ own.map (·.2))
    (hg : ∀ G0 H0, Blk X scope fun Y => GTg Y (Ct.nox { c with G0 := G0, H0 := H0 }) (killMd (own.map (·.2)) Γ) tg bd is Γ1) (ht : ∀ G0 H0, Blk X scope fun Y => PTs Y ifs (tGT (Ct.nox { c with G0 := G0, H0 := H0 }) Γ1 tm)) (he : ∀ G0 H0, Blk X scope fun Y => GE Y (Ct.nox { c with G0 := G0, H0 := H0 }) Γ1 elt me (.ow m))
    (hs : ∀ y, foldedSetIterable (.Name x p) X.env y = pure y := by intro _; rfl) (hd : (x == ("__debug__" : Str)) = false := by decide) (hcd : (x == ("__classdict__" : Str)) = false := by decide) :
    GE X c Γ (.ListComp elt [⟨tg, .Name x p, ifs, 0⟩] scope pos) (E.comp (E.keysV i) bd tm me) (.ow (.lst m)) := by
  have h0 : ∀ G0 H0 : Hp, PE X (.ListComp elt [⟨tg, .Name x p, ifs, 0⟩] scope pos) (tLc (iKeys (tVar i)) (tGTg (Ct.nox { c with G0 := G0, H0 := H0 }) (killMd (own.map (·.2)) Γ) bd is Γ1) (tGT (Ct.nox { c with G0 := G0, H0 := H0 }) Γ1 tm) (tGE (Ct.nox { c with G0 := G0, H0 := H0 }) Γ1 me (.ow m)) (own.map (·.2))) :=
    fun G0 H0 => pe_lc hc hN (pi_keys (pe_var hx hv hd hcd)) ok (hg G0 H0) (ht G0 H0) (he G0 H0) hs
  have hE : PE X (.ListComp elt [⟨tg, .Name x p, ifs, 0⟩] scope pos) (fun σ H Q => ∃ G0 H0, tLc (iKeys (tVar i)) (tGTg (Ct.nox { c with G0 := G0, H0 := H0 }) (killMd (own.map (·.2)) Γ) bd is Γ1) (tGT (Ct.nox { c with G0 := G0, H0 := H0 }) Γ1 tm) (tGE (Ct.nox { c with G0 := G0, H0 := H0 }) Γ1 me (.ow m)) (own.map (·.2)) σ H Q) :=
    ⟨fun pins s σ H Q I ⟨G0, H0, h⟩ => (h0 G0 H0).run pins s σ H Q I h⟩
  refine pe_imp (pe_or hE (pe_lock hE)) fun σ H Q ⟨G, env, ds, g, h⟩ => ?_
  obtain ⟨v, d0, h1, h2, as, r, hfr⟩ := g.get hi
  simp only [RepO] at r
  have r := r.2
  have hk : ∃ ks vs, d0 = .dct false ks vs := by
    have hb := h.bind
    unfold E.keysV at hb
    rw [h2] at hb
    cases d0 with
    | dct t ks vs =>
      simp only at hb
      split at hb
      · rename_i z
        obtain ⟨rfl, _⟩ := z
        exact ⟨ks, vs, rfl⟩
      · exact hb.elim
    | _ => exact hb.elim
  obtain ⟨ks, vs, rfl⟩ := hk
  simp only [Rep] at r
  obtain ⟨d, ws, rfl, r1, r2⟩ := r
  obtain ⟨kvs, k1, rfl, rfl⟩ := r1
  rcases k1 with hG | ⟨o, hG⟩
  · have hH : H d = some (.dK kvs) := g.sub _ _ hG
    have hdS : d ∉ stN c.S := fun z => by
      rw [g.st.free z] at hG
      cases hG
    refine .inr ⟨d, .dK kvs, hH, trivial, fun od => ⟨lkF c.G0 d (.frz od (.dK kvs)), lkF c.H0 d (.frz od (.dK kvs)), ?_⟩⟩
    refine lc_read (c := { c with G0 := lkF c.G0 d (.frz od (.dK kvs)), H0 := lkF c.H0 d (.frz od (.dK kvs)) }) (fun K z => keys_walk hi h1 upd_same z) his ⟨_, env, ds, g.lock hl hG, ?_⟩
    cases hr : E.comp (E.keysV i) bd tm me env ds with
    | stuck => rw [hr] at h; exact h.elim
    | exc cn ns vs' ds' =>
      exact absurd hr (comp_nx _ _ _ _ _)
    | ok dd ds1 =>
      rw [hr] at h
      have q : OkQ c G H (.ow (.lst m)) Q dd ds1 := h
      show OkQ _ _ _ _ _ dd ds1
      intro v G' H' e st r
      have hd' : H' d = some (.frz od (.dK kvs)) := e.h d _ hdS (by simp) upd_same
      have gd' : G' d = some (.frz od (.dK kvs)) := e.g _ _ upd_same
      refine ⟨hd', q v (upd G' d (.dK kvs)) _ ⟨fun b o z => ?_, fun b o hs' hL z => ?_, fun b o z => ?_, fun b o z => ?_, fun b o z => ?_⟩ (StOk.at st (fun a ha => upd_ne fun z => hdS (z ▸ ha)) (fun a ha => upd_ne fun z => hdS (z ▸ ha))) ?_⟩
      · by_cases eb : b = d
        · subst eb
          rw [hG] at z
          rw [upd_same]
          exact z
        · rw [upd_ne eb]
          exact e.g _ _ (by rw [upd_ne eb]; exact z)
      · by_cases eb : b = d
        · subst eb
          rw [hH] at z
          rw [upd_same]
          exact z
        · rw [upd_ne eb]
          exact e.h _ _ hs' hL (by rw [upd_ne eb]; exact z)
      · by_cases eb : b = d
        · exact ⟨_, by rw [eb, upd_same]⟩
        · rw [upd_ne eb]
          exact e.s b o (by rw [upd_ne eb]; exact z)
      · by_cases eb : b = d
        · subst eb
          rw [upd_same] at z
          exact .inl (by rw [hG]; exact z)
        · rw [upd_ne eb] at z
          rcases e.new b o z with w | w
          · exact .inl (by rw [upd_ne eb] at w; exact w)
          · exact .inr (by rw [upd_ne eb] at w; exact w)
      · by_cases eb : b = d
        · rw [eb, upd_same] at z ⊢
          exact z
        · rw [upd_ne eb] at z ⊢
          exact e.sub _ _ z
      · obtain ⟨as', r', nd, fr⟩ := r
        have ne : ∀ a ∈ as', a ≠ d := fun a ha z => by
          have := (fr a ha).1
          rw [z, upd_same] at this
          cases this
        exact ⟨as', r'.lk (lk_unlock gd') (fun a ha => upd_ne (ne a ha)), nd, fun a ha => ⟨by have := (fr a ha).1; rw [upd_ne (ne a ha)] at this; exact this, by rw [upd_ne (ne a ha)]; exact (fr a ha).2⟩⟩
  · have hH := g.sub _ _ hG
    exact .inl ⟨c.G0, c.H0, lc_read (fun K z => keys_walk hi h1 hH z) his ⟨G, env, ds, g, h⟩⟩
end
end Mir
end

set_option maxHeartbeats 200000
section
/-! The law's own def. -/
namespace Mir
open PySem PySem.Spec PyProof.Rows L2
/-- _law_start -/
def spStart (K : PySem.W.Frag) : Sp := fun vs H Q _ => ∃ (a : Addr) (ns : List Int), vs = [.ref a] ∧ SqL K H a (ns.map V.int) ∧ ∀ x y, H x = none → H y = none → y ≠ x → Q (.ref x) (upd (upd H y (.lst (ns.map V.int))) x (.lst [.ref y, .int 0, .int 0, .int 29]))
theorem start_read {K : PySem.W.Frag} {vs : List V} {H : Hp} {Q : VK} {E : XK} (h : spStart K vs H Q E) :
    tRet (tLst (tCons (tCB (fun xs H Q => ∃ p ys, xs = [.ref p] ∧ (SqL K H p ys ∨ SqT K H p ys) ∧ ∀ l, H l = none → Q (.ref l) (upd H l (.lst ys))) (tCons (tVar 0) tNil)) (tCons (tC (.int 0)) (tCons (tC (.int 0)) (tCons (tC (.int 29)) tNil))))) { nx := fun _ H' => Q .non H', rt := Q } (L2.start [("script" : Str)] vs) H := by
  obtain ⟨a, ns, rfl, hS, hQ⟩ := h
  refine ⟨.ref a, rfl, a, _, rfl, .inl hS, fun y hy => ⟨sz (n := 4), fun x hx => ?_⟩⟩
  have ne : x ≠ y := fun z => by rw [z, upd_same] at hx; cases hx
  have hx' : H x = none := by rw [upd_ne ne] at hx; exact hx
  exact hQ x y hx' hy (Ne.symm ne)
/-- what the law promises; Sc: what is known of the script -/
def spLaw (K : PySem.W.Frag) (Sc : List Int → Prop) : Sp := fun vs H Q _ => ∃ (a : Addr) (ns : List Int), vs = [.ref a] ∧ SqL K H a (ns.map V.int) ∧ Sc ns ∧ ∀ H', Q (.bl true) H'
/-- the names at the law's beginning, behind its first line -/
def Γlaw (n : Nat) : List Md := .un :: .st :: List.replicate n .un
def envLaw (n : Nat) : List Val := .un :: .st :: List.replicate n .un
section
variable {P : Program} {w : World} {K : PySem.W.Frag} {mg : Str → Option Value} {base : Heap} {cA : Str → Addr} {fnv : V → (List D → M D) → Prop}
/-- the law, walked: its first line makes the draws' state -/
theorem law_ok {x qual : Str} {params : Arguments} {body rest : List Stmt} {st0 : Stmt} {scope : Scope} {f : Addr} {fd : FuncData} {N : List Str} {k n : Nat} {m : MS} {Γ' : List Md} {Sc : List Int → Prop} (F : FunD K x qual params body scope [] [] f fd) (S : FnScope N ["script"] scope) (hN : N.length = n + 2) (hbd : body = st0 :: rest)
    (h1 : ∀ (cdv : Value) (A : Around) (outer : List Env) (s : Shared) (H : Hp) (E : XK), Room k (A.deeper (envOfC qual scope s.heap.objs.size f cdv)) →
      PS (cxOf (L2.CX P w) P w K mg base N qual scope f cdv A outer s H E) st0 (tAsg (tCall (spStart K) [] E (tCons (tVar 0) tNil)) (gName 1)))
    (h2 : ∀ (cdv : Value) (A : Around) (outer : List Env) (s : Shared) (H : Hp) (E : XK), Room k (A.deeper (envOfC qual scope s.heap.objs.size f cdv)) → ∀ (S : Option (Addr × Addr)) (G0 H0 : Hp),
      GSs (cxOf (L2.CX P w) P w K mg base N qual scope f cdv A outer s H E) ⟨cA, S, [], G0, H0, E, fnv⟩ (Γlaw n) rest m Γ' .fz)
    (plain : ∀ ns, Sc ns → Run (m (envLaw n) ⟨ns, 0, 0, 29⟩) (fun r _ => r = .rt (.bl true)) (fun _ _ _ _ => False)) :
    FnOk P w K mg base (L2.CX P w) (k + 1) f fd ["script"] (spLaw K Sc) := by
  refine F.ok S (fun vs H Q E ⟨a, ns, e, _⟩ => by rw [e]; rfl) (fun cdv A outer s H vs Q E hr ⟨a, ns, e, hS, hns, hq⟩ => ?_)
  subst hbd e
  have hrest : PSs (cxOf (L2.CX P w) P w K mg base N qual scope f cdv A outer s H E) rest (fun Dn σ H' => ∃ S G0 H0, tGS ⟨cA, S, [], G0, H0, E, fnv⟩ (Γlaw n) m Γ' .fz Dn σ H') :=
    ⟨fun pins s' σ H' Dn I ⟨S, G0, H0, h⟩ => (h2 cdv A outer s H E hr S G0 H0).run pins s' σ H' Dn I h⟩
  refine ⟨_, pss_cons (h1 cdv A outer s H E hr) hrest, ?_⟩
  have e0 : L2.start N [V.ref a] = some (.ref a) :: none :: List.replicate n none := by
    unfold L2.start
    rw [hN]
    rfl
  rw [e0]
  refine ⟨.ref a, rfl, a, ns, rfl, hS, fun u v hu hv ne => ?_⟩
  have g : Good (⟨cA, some (u, v), [], fun _ => none, upd (upd H v (.lst (ns.map V.int))) u (.lst [.ref v, .int 0, .int 0, .int 29]), E, fnv⟩ : Ct) (Γlaw n) (fun _ => none) (upd (upd H v (.lst (ns.map V.int))) u (.lst [.ref v, .int 0, .int 0, .int 29])) (some (.ref a) :: some (.ref u) :: List.replicate n none) (envLaw n) ⟨ns, 0, 0, 29⟩ := by
    have sub : Same (fun _ => none) (upd (upd H v (.lst (ns.map V.int))) u (.lst [.ref v, .int 0, .int 0, .int 29])) := fun b o q => by cases q
    have fl := flat_nil (n + 2)
    refine ⟨sub, ⟨Ne.symm ne, rfl, rfl, upd_same, by rw [upd_ne ne, upd_same]⟩, ExtA.refl sub, List.replicate (n + 2) [], ?_, ⟨by rw [fl]; exact List.nodup_nil, fun a ha => by rw [fl] at ha; simp at ha, fun i as' hi a ha => ?_⟩⟩
    · exact .un _ _ (.st rfl (slots_un n))
    · have := mem_flatten_of hi ha
      rw [fl] at this
      simp at this
  refine ⟨some (u, v), fun _ => none, _, fun _ => none, envLaw n, ⟨ns, 0, 0, 29⟩, g, (plain ns hns).mono (fun r ds1 q => ?_) fun _ _ _ _ q => q.elim⟩
  subst q
  intro v' G' H' e' s' r'
  have r' := r'.fz
  simp only [Rep] at r'
  subst r'
  exact hq H'
end
end Mir
end

set_option maxHeartbeats 200000
section
/-! What _law_pick tells. -/
namespace Mir
open PySem L2
theorem bnd_ok {α β : Type} {m : M α} {f : α → M β} {ds ds' : DS} {a : α} (h : m ds = .ok a ds') : (m >>= f) ds = f a ds' := by
  show M.bnd m f ds = _
  unfold M.bnd
  rw [h]
theorem wN_true {t : MB} {b : MS} {m : Nat} {env : List Val} {ds ds1 : DS} (h : t env ds = .ok true ds1) : S.whileN t b (m + 1) env ds = M.bnd (b env) (fun r => match r with
    | .nx env2 => S.whileN t b m env2
    | .rt d => pure (.rt d)) ds1 := by
  show M.bnd (t env) _ ds = _
  unfold M.bnd
  rw [h]
  rfl
theorem wN_false {t : MB} {b : MS} {m : Nat} {env : List Val} {ds ds1 : DS} (h : t env ds = .ok false ds1) : S.whileN t b (m + 1) env ds = .ok (.nx env) ds1 := by
  show M.bnd (t env) _ ds = _
  unfold M.bnd
  rw [h]
  rfl
theorem wN_nx {t : MB} {b : MS} {m : Nat} {env env2 : List Val} {ds ds1 ds2 : DS} (h : t env ds = .ok true ds1) (h2 : b env ds1 = .ok (.nx env2) ds2) : S.whileN t b (m + 1) env ds = S.whileN t b m env2 ds2 := by
  rw [wN_true h]
  unfold M.bnd
  rw [h2]
theorem whileN_up {t : MB} {b : MS} : ∀ {n : Nat} {env : List Val} {ds : DS}, S.whileN t b n env ds ≠ .stuck → S.whileN t b (n + 1) env ds = S.whileN t b n env ds
  | 0, env, ds, h => absurd rfl h
  | n + 1, env, ds, h => by
    cases ht : t env ds with
    | stuck =>
      have e : ∀ m, S.whileN t b (m + 1) env ds = .stuck := fun m => by
        show M.bnd (t env) _ ds = _
        unfold M.bnd
        rw [ht]
      rw [e, e]
    | exc c ns vs d =>
      have e : ∀ m, S.whileN t b (m + 1) env ds = .exc c ns vs d := fun m => by
        show M.bnd (t env) _ ds = _
        unfold M.bnd
        rw [ht]
      rw [e, e]
    | ok k ds1 =>
      cases k with
      | false => rw [wN_false ht, wN_false ht]
      | true =>
        rw [wN_true ht] at h
        rw [wN_true ht, wN_true ht]
        unfold M.bnd at h ⊢
        cases hb : b env ds1 with
        | stuck => rfl
        | exc c ns vs d => rfl
        | ok r ds2 =>
          rw [hb] at h
          cases r with
          | nx env2 => exact whileN_up h
          | rt d => rfl
theorem whileN_add {t : MB} {b : MS} {n : Nat} {env : List Val} {ds : DS} (h : S.whileN t b n env ds ≠ .stuck) : ∀ k, S.whileN t b (n + k) env ds = S.whileN t b n env ds
  | 0 => rfl
  | k + 1 => by
    have ih := whileN_add h k
    rw [← Nat.add_assoc, whileN_up (by rw [ih]; exact h), ih]
theorem while_eq {t : MB} {b : MS} {n : Nat} {env : List Val} {ds : DS} {r : Res Fl} (h : S.whileN t b n env ds = r) (hr : r ≠ .stuck) : S.while_ t b env ds = r := by
  have hx : ∃ n, S.whileN t b n env ds ≠ .stuck := ⟨n, by rw [h]; exact hr⟩
  unfold S.while_
  rw [dif_pos hx]
  have h1 := Classical.choose_spec hx
  have h2 : S.whileN t b n env ds ≠ .stuck := by rw [h]; exact hr
  rw [← whileN_add h1 n, Nat.add_comm, whileN_add h2, h]
/-! ### what a run does, construct by construct -/
section
variable {α β : Type} {Q : α → DS → Prop} {Ex : Str → List Str → List D → DS → Prop}
theorem Run.bi {m : M β} {f : β → M α} {ds : DS} (h : Run (m ds) (fun a d1 => Run (f a d1) Q Ex) Ex) : Run ((m >>= f) ds) Q Ex := by
  show Run (M.bnd m f ds) Q Ex
  unfold M.bnd
  cases e : m ds with
  | ok a d1 => rw [e] at h; exact h
  | exc c ns vs d1 => rw [e] at h; exact h
  | stuck => rw [e] at h; exact h
theorem Run.li {o : Option α} {a : α} {ds : DS} (h : o = some a) (q : Q a ds) : Run (M.lift o ds) Q Ex := by
  subst h
  exact q
/-- an end that is known -/
theorem Run.eq {r : Res α} {a : α} {ds : DS} (h : Run r (fun x d => x = a ∧ d = ds) (fun _ _ _ _ => False)) : r = .ok a ds := by
  cases r with
  | ok x d =>
    obtain ⟨rfl, rfl⟩ := h
    rfl
  | exc => exact h.elim
  | stuck => exact h.elim
theorem Run.ok {r : Res α} {Q : α → DS → Prop} (h : Run r Q (fun _ _ _ _ => False)) : ∃ a ds, r = .ok a ds ∧ Q a ds := by
  cases r with
  | ok x d => exact ⟨x, d, rfl, h⟩
  | exc => exact h.elim
  | stuck => exact h.elim
end
section
variable {Q : D → DS → Prop} {QB : Bool → DS → Prop} {QL : List D → DS → Prop} {QA : List Val → DS → Prop} {QS : Fl → DS → Prop} {Ex : Str → List Str → List D → DS → Prop} {a b : ME} {t u : MB} {env : List Val} {ds : DS}
theorem ri_bin {op : D → D → Option D} (h : Run (a env ds) (fun x d1 => Run (b env d1) (fun y d2 => ∃ z, op x y = some z ∧ Q z d2) Ex) Ex) : Run (E.bin op a b env ds) Q Ex :=
  Run.bi (h.mono (fun _ _ h => Run.bi (h.mono (fun _ _ ⟨_, e, q⟩ => Run.li e q) fun _ _ _ _ z => z)) fun _ _ _ _ z => z)
theorem ri_un {op : D → Option D} (h : Run (a env ds) (fun x d1 => ∃ z, op x = some z ∧ Q z d1) Ex) : Run (E.un op a env ds) Q Ex :=
  Run.bi (h.mono (fun _ _ ⟨_, e, q⟩ => Run.li e q) fun _ _ _ _ z => z)
theorem ri_cst {d : D} (h : Q d ds) : Run (E.cst d env ds) Q Ex := h
theorem ri_var {i : Nat} {d : D} (e : env[i]? = some (.d d)) (h : Q d ds) : Run (E.var i env ds) Q Ex := by
  unfold E.var
  rw [e]
  exact h
theorem ri_tst (h : Run (a env ds) (fun x d1 => ∃ k, x = .bl k ∧ QB k d1) Ex) : Run (E.tst a env ds) QB Ex :=
  Run.bi (h.mono (fun _ _ ⟨k, e, q⟩ => by subst e; exact q) fun _ _ _ _ z => z)
theorem ri_tand (h : Run (t env ds) (fun k d1 => if k then Run (u env d1) QB Ex else QB false d1) Ex) : Run (E.tand t u env ds) QB Ex :=
  Run.bi (h.mono (fun k _ q => by cases k <;> exact q) fun _ _ _ _ z => z)
theorem ri_tor (h : Run (t env ds) (fun k d1 => if k then QB true d1 else Run (u env d1) QB Ex) Ex) : Run (E.tor t u env ds) QB Ex :=
  Run.bi (h.mono (fun k _ q => by cases k <;> exact q) fun _ _ _ _ z => z)
theorem ri_tnot (h : Run (t env ds) (fun k d1 => QB (!k) d1) Ex) : Run (E.tnot t env ds) QB Ex := Run.bi h
theorem ri_ite (h : Run (t env ds) (fun k d1 => if k then Run (a env d1) Q Ex else Run (b env d1) Q Ex) Ex) : Run (E.ite t a b env ds) Q Ex :=
  Run.bi (h.mono (fun k _ q => by cases k <;> exact q) fun _ _ _ _ z => z)
theorem ri_and (h : Run (a env ds) (fun x d1 => ∃ k, x = .bl k ∧ if k then Run (b env d1) Q Ex else Q (.bl false) d1) Ex) : Run (E.and a b env ds) Q Ex :=
  Run.bi (Run.bi (h.mono (fun _ _ ⟨k, e, q⟩ => by subst e; cases k <;> exact q) fun _ _ _ _ z => z))
theorem ri_dnil (h : QL [] ds) : Run (E.dnil env ds) QL Ex := h
theorem ri_dcons {r : MI} (h : Run (a env ds) (fun x d1 => Run (r env d1) (fun xs d2 => QL (x :: xs) d2) Ex) Ex) : Run (E.dcons a r env ds) QL Ex :=
  Run.bi (h.mono (fun _ _ q => Run.bi q) fun _ _ _ _ z => z)
theorem ri_list {r : MI} (h : Run (r env ds) (fun xs d1 => Q (.lst xs) d1) Ex) : Run (E.list r env ds) Q Ex := Run.bi h
theorem ri_tuple {r : MI} (h : Run (r env ds) (fun xs d1 => Q (.tup xs) d1) Ex) : Run (E.tuple r env ds) Q Ex := Run.bi h
theorem ri_anil (h : QA [] ds) : Run (E.anil env ds) QA Ex := h
theorem ri_acons {r : MA} (h : Run (a env ds) (fun x d1 => Run (r env d1) (fun xs d2 => QA (.d x :: xs) d2) Ex) Ex) : Run (E.acons a r env ds) QA Ex :=
  Run.bi (h.mono (fun _ _ q => Run.bi q) fun _ _ _ _ z => z)
theorem ri_aval {x : List Val → Val} {r : MA} (h : Run (r env ds) (fun xs d1 => QA (x env :: xs) d1) Ex) : Run (E.aval x r env ds) QA Ex := Run.bi h
theorem ri_call {F : Fn} {r : MA} (h : Run (r env ds) (fun xs d1 => Run (F xs d1) Q Ex) Ex) : Run (E.call F r env ds) Q Ex := Run.bi h
theorem ri_imm (h : Run (a env ds) (fun x d1 => x.imm = true ∧ Q x d1) Ex) : Run (E.imm a env ds) Q Ex :=
  Run.bi (f := fun d => if d.imm then pure d else M.stuck) (h.mono (fun x _ ⟨e, q⟩ => by rw [if_pos e]; exact q) fun _ _ _ _ z => z)
theorem ri_skip (h : QS (.nx env) ds) : Run (S.skip env ds) QS Ex := h
theorem ri_seq {m1 m2 : MS} (h : Run (m1 env ds) (fun r d1 => match r with
    | .nx e => Run (m2 e d1) QS Ex
    | .rt d => QS (.rt d) d1) Ex) : Run (S.seq m1 m2 env ds) QS Ex :=
  Run.bi (h.mono (fun r _ q => by cases r <;> exact q) fun _ _ _ _ z => z)
theorem ri_ret (h : Run (a env ds) (fun x d1 => QS (.rt x) d1) Ex) : Run (S.ret a env ds) QS Ex := Run.bi h
theorem ri_asg {i : Nat} (h : Run (a env ds) (fun x d1 => QS (.nx (env.set i (.d x))) d1) Ex) : Run (S.asg i a env ds) QS Ex := Run.bi h
theorem ri_cond {m1 m2 : MS} (h : Run (t env ds) (fun k d1 => if k then Run (m1 env d1) QS Ex else Run (m2 env d1) QS Ex) Ex) : Run (S.cond t m1 m2 env ds) QS Ex :=
  Run.bi (h.mono (fun k _ q => by cases k <;> exact q) fun _ _ _ _ z => z)
theorem ri_condT {m1 m2 : MS} (h : Run (t env ds) (fun k d1 => k = true ∧ Run (m1 env d1) QS Ex) Ex) : Run (S.cond t m1 m2 env ds) QS Ex := ri_cond (h.mono (fun _ _ ⟨e, q⟩ => by subst e; exact q) fun _ _ _ _ z => z)
theorem ri_condF {m1 m2 : MS} (h : Run (t env ds) (fun k d1 => k = false ∧ Run (m2 env d1) QS Ex) Ex) : Run (S.cond t m1 m2 env ds) QS Ex := ri_cond (h.mono (fun _ _ ⟨e, q⟩ => by subst e; exact q) fun _ _ _ _ z => z)
theorem ri_iteT (h : Run (t env ds) (fun k d1 => k = true ∧ Run (a env d1) Q Ex) Ex) : Run (E.ite t a b env ds) Q Ex := ri_ite (h.mono (fun _ _ ⟨e, q⟩ => by subst e; exact q) fun _ _ _ _ z => z)
theorem ri_iteF (h : Run (t env ds) (fun k d1 => k = false ∧ Run (b env d1) Q Ex) Ex) : Run (E.ite t a b env ds) Q Ex := ri_ite (h.mono (fun _ _ ⟨e, q⟩ => by subst e; exact q) fun _ _ _ _ z => z)
theorem ri_stI {k : Nat} (h : Run (a env ds) (fun x d1 => ∃ v, x = .int v ∧ QS (.nx env) (d1.put k v)) Ex) : Run (S.stI k a env ds) QS Ex :=
  Run.bi (h.mono (fun _ _ ⟨v, e, q⟩ => by subst e; exact q) fun _ _ _ _ z => z)
theorem ri_mk {kd : List Kd} {n : Nat} {bb : Bool} {m : MS} {as : List Val} (hk : okK kd as = true) (h : Run (m (as ++ List.replicate n .un) ds) (fun r d1 => match r with
    | .rt d => Q d d1
    | .nx _ => bb = true ∧ Q .non d1) Ex) : Run (Fn.mk kd n bb m as ds) Q Ex := by
  unfold Fn.mk
  rw [if_pos hk]
  exact Run.bi (h.mono (fun r _ q => by
    cases r with
    | rt d => exact q
    | nx e =>
      obtain ⟨rfl, q⟩ := q
      exact q) fun _ _ _ _ z => z)
/-- a walk over a list, by an invariant -/
theorem ri_forL {bd : Bd} {body : MS} (Inv : List D → List Val → DS → Prop) (hs : ∀ x xs env ds, Inv (x :: xs) env ds → ∃ env', bd x env = some env' ∧ Run (body env' ds) (fun r d1 => match r with
    | .nx e => Inv xs e d1
    | .rt d => QS (.rt d) d1) Ex) (h1 : ∀ env ds, Inv [] env ds → QS (.nx env) ds) : ∀ (xs : List D) (env : List Val) (ds : DS), Inv xs env ds → Run (S.forL bd body xs env ds) QS Ex
  | [], env, ds, h => h1 env ds h
  | x :: xs, env, ds, h => by
    obtain ⟨env', e, r⟩ := hs x xs env ds h
    refine Run.bi (Run.li e (Run.bi (r.mono (fun r d1 q => ?_) fun _ _ _ _ z => z)))
    cases r with
    | nx e2 => exact ri_forL Inv hs h1 xs e2 d1 q
    | rt d => exact q
theorem ri_for {it : MI} {bd : Bd} {body : MS} (h : Run (it env ds) (fun xs d1 => Run (S.forL bd body xs env d1) QS Ex) Ex) : Run (S.for_ it bd body env ds) QS Ex := Run.bi h
end
/-! ### _law_pick -/
/-- what is known of the draws' state, n being a bound of the count -/
structure PkI (n : Nat) (ds : DS) : Prop where
  b0 : 0 ≤ ds.big
  m0 : 0 ≤ ds.mix
  m1 : ds.mix < 2147483647
  c0 : 0 ≤ ds.cnt
  c1 : ds.cnt ≤ n
def pickT : MB := E.tand (E.tst (E.bin D.eq (E.stI 1) (E.cst (.int 0)))) E.stNe
def pickB : MS := S.seq (S.asg 2 (E.un D.absD E.stPop)) (S.seq (S.stI 3 (E.bin D.mod (E.un D.intD (E.bin D.add (E.bin D.add (E.bin D.mul (E.stI 3) (E.cst (.int 6151))) (E.var 2)) (E.cst (.int 5)))) (E.cst (.int 2147483647)))) (S.stI 1 (E.ite (E.tst (E.bin D.ge (E.var 2) (E.bin D.pow (E.cst (.int 10)) (E.cst (.int 18))))) (E.var 2) (E.cst (.int 0)))))
noncomputable def mPick : MS := S.seq (S.stI 2 (E.bin D.add (E.stI 2) (E.cst (.int 1)))) (S.seq (S.while_ pickT pickB) (S.seq (S.cond (E.tst (E.bin D.gt (E.stI 1) (E.cst (.int 0)))) (S.seq (S.asg 3 (E.bin D.mod (E.un D.intD (E.stI 1)) (E.var 1))) (S.seq (S.stI 1 (E.bin D.fdiv (E.stI 1) (E.var 1))) (S.ret (E.var 3)))) S.skip) (S.seq (S.asg 4 (E.bin D.mod (E.un D.intD (E.bin D.pow (E.bin D.add (E.bin D.add (E.stI 3) (E.bin D.mul (E.cst (.int 7907)) (E.stI 2))) (E.cst (.int 104723))) (E.cst (.int 5)))) (E.cst (.int 2147483629)))) (S.ret (E.bin D.mod (E.bin D.mod (E.un D.intD (E.bin D.pow (E.bin D.add (E.bin D.add (E.bin D.mul (E.var 4) (E.cst (.int 48271))) (E.bin D.mul (E.cst (.int 30011)) (E.stI 2))) (E.cst (.int 31))) (E.cst (.int 3)))) (E.cst (.int 1000000007))) (E.var 1))))))
theorem py_ints : ∀ l : List Int, D.pyL (l.map D.int) = some (l.map PyData.int)
  | [] => rfl
  | i :: l => by
    simp only [List.map_cons, D.pyL, D.py, Option.bind_some]
    rw [py_ints l]
    rfl
theorem can_ints : ∀ l : List Int, PyData.canLayAll0 (l.map PyData.int) = true
  | [] => rfl
  | i :: l => by
    simp only [List.map_cons, PyData.canLayAll0, PyData.canLay0, Bool.true_and]
    exact can_ints l
theorem dep_ints : ∀ l : List Int, PyData.depthAll (l.map PyData.int) = 0
  | [] => rfl
  | i :: l => by
    simp only [List.map_cons, PyData.depthAll, PyData.depth]
    rw [dep_ints l]
    rfl
theorem shaped_ints (l : List Int) : SeqAt.shaped (.list (l.map PyData.int)) = true := by
  unfold SeqAt.shaped
  rw [Bool.and_eq_true, decide_eq_true_eq]
  refine ⟨?_, ?_⟩
  · simp only [PyData.canLay0]
    exact can_ints l
  · simp only [PyData.depth]
    rw [dep_ints l]
    decide
theorem eq_ints (l m : List Int) : D.eqB (.lst (l.map D.int)) (.lst (m.map D.int)) = some (PyData.eqv (.list (l.map PyData.int)) (.list (m.map PyData.int))) := by
  unfold D.eqB
  show D.deq _ _ = _
  unfold D.deq
  simp only [D.py, py_ints, Option.map_some, Option.bind_some, shaped_ints, Bool.and_self, if_true]
theorem st_ne (env : List Val) (ds : DS) : E.stNe env ds = .ok (!ds.cells.isEmpty) ds := by
  unfold E.stNe
  rw [show (D.lst []) = .lst (([] : List Int).map D.int) from rfl, eq_ints]
  cases ds.cells <;> rfl
theorem cmul_r {i j : Int} (h : -(2 ^ 64) < j ∧ j < 2 ^ 64) : D.cmul i j = true := by
  unfold D.cmul
  rw [decide_eq_true h, Bool.or_true]
theorem cmul_l {i j : Int} (h : -(2 ^ 64) < i ∧ i < 2 ^ 64) : D.cmul i j = true := by
  unfold D.cmul
  rw [decide_eq_true h, Bool.true_or]
theorem mul_int {i j : Int} (h : D.cmul i j = true) : D.mul (.int i) (.int j) = some (.int (i * j)) := by
  exact if_pos h
theorem mod_int {i j : Int} (h : j ≠ 0) : D.mod (.int i) (.int j) = some (.int (i.fmod j)) := by
  exact if_pos h
theorem fdiv_int {i j : Int} (h : j ≠ 0 ∧ j.natAbs < 1073741824) : D.fdiv (.int i) (.int j) = some (.int (i.fdiv j)) := by
  exact if_pos h
theorem pow_int {i j : Int} (h : 0 ≤ j ∧ j ≤ 1000000 ∧ i.natAbs < 2 ^ 64) : D.pow (.int i) (.int j) = some (.int (i ^ j.toNat)) := by
  exact if_pos h
theorem ri_stIe {k : Nat} {Q : D → DS → Prop} {Ex : Str → List Str → List D → DS → Prop} {env : List Val} {ds : DS} (h : Q (.int (match k with | 1 => ds.big | 2 => ds.cnt | _ => ds.mix)) ds) : Run (E.stI k env ds) Q Ex := h
/-- the loop of _law_pick -/
theorem pick_loop {n : Nat} {e0 e1 e3 e4 : Val} : ∀ (k : Nat) (ds : DS) (e2 : Val), ds.cells.length = k → PkI n ds → ∃ j e2' ds', S.whileN pickT pickB j [e0, e1, e2, e3, e4] ds = .ok (.nx [e0, e1, e2', e3, e4]) ds' ∧ PkI n ds' ∧ ds'.cnt = ds.cnt
  | k, ⟨cells, big, cnt, mix⟩, e2, hk, I => by
    by_cases hb : big = 0
    · subst hb
      cases cells with
      | nil =>
        refine ⟨1, e2, _, wN_false ?_, I, rfl⟩
        refine Run.eq (ri_tand (ri_tst (ri_bin (ri_stIe (ri_cst ⟨.bl true, rfl, true, rfl, ?_⟩)))))
        rw [if_pos rfl, st_ne]
        exact ⟨rfl, rfl⟩
      | cons y ys =>
        obtain ⟨k, rfl⟩ : ∃ k', k = k' + 1 := ⟨ys.length, hk.symm⟩
        obtain ⟨z, hz⟩ : ∃ z : Int, z = if y < 0 then -y else y := ⟨_, rfl⟩
        have hm := Int.fmod_nonneg_of_pos (mix * 6151 + z + 5) (b := 2147483647) (by decide)
        have hm2 := Int.fmod_lt_of_pos (mix * 6151 + z + 5) (b := 2147483647) (by decide)
        have hy : 0 ≤ z := by rw [hz]; split <;> omega
        have hbig : 0 ≤ (if decide ((10 : Int) ^ Int.toNat 18 ≤ z) = true then z else 0 : Int) := by split <;> omega
        obtain ⟨j, e2', ds', h1, h2, h3⟩ := pick_loop (n := n) (e0 := e0) (e1 := e1) (e3 := e3) (e4 := e4) k ⟨ys, if decide ((10 : Int) ^ Int.toNat 18 ≤ z) = true then z else 0, cnt, (mix * 6151 + z + 5).fmod 2147483647⟩ (.d (.int z)) (by simpa using hk) ⟨hbig, hm, hm2, I.c0, I.c1⟩
        refine ⟨j + 1, e2', ds', ?_, h2, h3⟩
        rw [← h1]
        refine wN_nx (ds1 := ⟨y :: ys, 0, cnt, mix⟩) ?_ ?_
        · refine Run.eq (ri_tand (ri_tst (ri_bin (ri_stIe (ri_cst ⟨.bl true, rfl, true, rfl, ?_⟩)))))
          rw [if_pos rfl, st_ne]
          exact ⟨rfl, rfl⟩
        · refine Run.eq (ri_seq (ri_asg (ri_un ?_)))
          refine ⟨.int z, by rw [hz]; rfl, ?_⟩
          refine ri_seq (ri_stI (ri_bin (ri_un (ri_bin (ri_bin (ri_bin (ri_stIe (ri_cst ⟨_, mul_int (cmul_r ?_), ?_⟩))))))))
          · decide
          refine ri_var rfl ⟨_, rfl, ri_cst ⟨_, rfl, ⟨_, rfl, ri_cst ⟨_, mod_int ?_, _, rfl, ?_⟩⟩⟩⟩
          · decide
          refine ri_stI (ri_ite (ri_tst (ri_bin (ri_var rfl (ri_bin (ri_cst (ri_cst ⟨_, rfl, _, rfl, _, rfl, ?_⟩)))))))
          by_cases hc : decide ((10 : Int) ^ Int.toNat 18 ≤ z) = true
          · rw [if_pos hc]
            refine ri_var rfl ⟨_, rfl, rfl, ?_⟩
            simp only [DS.put]
            rw [if_pos hc]
          · rw [if_neg hc]
            refine ri_cst ⟨_, rfl, rfl, ?_⟩
            simp only [DS.put]
            rw [if_neg hc]
    · refine ⟨1, e2, _, wN_false ?_, I, rfl⟩
      refine Run.eq (ri_tand (ri_tst (ri_bin (ri_stIe (ri_cst ⟨.bl (decide (big = 0)), rfl, _, rfl, ?_⟩)))))
      rw [decide_eq_false hb]
      exact ⟨rfl, rfl⟩
theorem pick_run {n : Nat} {m : Int} {ds : DS} (hn : n < 2 ^ 40) (I : PkI n ds) (h0 : 0 < m) (h1 : m < 2 ^ 30) : Run (Fn.mk [.st, .d] 3 false mPick [.st, .d (.int m)] ds) (fun d ds' => ∃ r : Int, d = .int r ∧ 0 ≤ r ∧ r < m ∧ PkI (n + 1) ds') (fun _ _ _ _ => False) := by
  have hm0 : m ≠ 0 := by omega
  refine ri_mk rfl (ri_seq (ri_stI (ri_bin (ri_stIe (ri_cst ⟨_, rfl, _, rfl, ?_⟩)))))
  have I1 : PkI (n + 1) (ds.put 2 (ds.cnt + 1)) := ⟨I.b0, I.m0, I.m1, by have := I.c0; show 0 ≤ ds.cnt + 1; omega, by have := I.c1; show ds.cnt + 1 ≤ ((n + 1 : Nat) : Int); omega⟩
  obtain ⟨j, e2, ds2, w1, I2, _⟩ := pick_loop (n := n + 1) (e0 := .st) (e1 := .d (.int m)) (e3 := .un) (e4 := .un) _ (ds.put 2 (ds.cnt + 1)) .un rfl I1
  refine ri_seq ?_
  have w2 := while_eq w1 (by intro z; cases z)
  have e0 : (S.while_ pickT pickB ([Val.st, Val.d (D.int m)] ++ List.replicate 3 Val.un) (ds.put 2 (ds.cnt + 1))) = .ok (.nx [.st, .d (.int m), e2, .un, .un]) ds2 := w2
  show Run (S.while_ pickT pickB ([Val.st, Val.d (D.int m)] ++ List.replicate 3 Val.un) (ds.put 2 (ds.cnt + 1))) _ _
  rw [e0]
  obtain ⟨cells, big, cnt, mix⟩ := ds2
  obtain ⟨b0, m0, m1, c0, c1⟩ := I2
  simp only at b0 m0 m1 c0 c1
  refine ri_seq (ri_cond (ri_tst (ri_bin (ri_stIe (ri_cst ⟨.bl (decide (0 < big)), rfl, _, rfl, ?_⟩)))))
  by_cases hb : decide (0 < big) = true
  · rw [if_pos hb]
    refine ri_seq (ri_asg (ri_bin (ri_un (ri_stIe ⟨_, rfl, ri_var rfl ⟨_, mod_int hm0, ?_⟩⟩))))
    refine ri_seq (ri_stI (ri_bin (ri_stIe (ri_var rfl ⟨_, fdiv_int ⟨hm0, by omega⟩, _, rfl, ?_⟩))))
    refine ri_ret (ri_var rfl ⟨_, rfl, Int.fmod_nonneg_of_pos _ h0, Int.fmod_lt_of_pos _ h0, ?_⟩)
    exact ⟨Int.fdiv_nonneg b0 (by omega), m0, m1, c0, c1⟩
  · rw [if_neg hb]
    refine ri_skip ?_
    have p1 : (mix + 7907 * cnt + 104723).natAbs < 2 ^ 64 := by omega
    refine ri_seq (ri_asg (ri_bin (ri_un (ri_bin (ri_bin (ri_bin (ri_stIe (ri_bin (ri_cst (ri_stIe ⟨_, mul_int (cmul_l ?_), ?_⟩))))))))))
    · decide
    refine ⟨_, rfl, ri_cst ⟨_, rfl, ri_cst ⟨_, pow_int ⟨by decide, by decide, p1⟩, _, rfl, ri_cst ⟨_, mod_int (by decide), ?_⟩⟩⟩⟩
    have q1 := Int.fmod_nonneg_of_pos ((mix + 7907 * cnt + 104723) ^ Int.toNat 5) (b := 2147483629) (by decide)
    have q2 := Int.fmod_lt_of_pos ((mix + 7907 * cnt + 104723) ^ Int.toNat 5) (b := 2147483629) (by decide)
    obtain ⟨u, hu⟩ : ∃ u : Int, u = ((mix + 7907 * cnt + 104723) ^ Int.toNat 5).fmod 2147483629 := ⟨_, rfl⟩
    rw [← hu] at q1 q2
    have p2 : (u * 48271 + 30011 * cnt + 31).natAbs < 2 ^ 64 := by omega
    refine ri_ret (ri_bin (ri_bin (ri_un (ri_bin (ri_bin (ri_bin (ri_bin (ri_var (d := .int u) (by rw [hu]; rfl) (ri_cst ⟨_, mul_int (cmul_r ?_), ri_bin (ri_cst (ri_stIe ⟨_, mul_int (cmul_l ?_), ?_⟩))⟩)))))))))
    · decide
    · decide
    refine ⟨_, rfl, ri_cst ⟨_, rfl, ri_cst ⟨_, pow_int ⟨by decide, by decide, p2⟩, _, rfl, ri_cst ⟨_, mod_int (by decide), ri_var rfl ⟨_, mod_int hm0, _, rfl, Int.fmod_nonneg_of_pos _ h0, Int.fmod_lt_of_pos _ h0, ?_⟩⟩⟩⟩⟩
    exact ⟨b0, m0, m1, c0, c1⟩
theorem PkI.mono {n k : Nat} {ds : DS} (h : PkI n ds) (hk : n ≤ k) : PkI k ds := ⟨h.b0, h.m0, h.m1, h.c0, by have := h.c1; omega⟩
theorem pk_start (ns : List Int) : PkI 0 ⟨ns, 0, 0, 29⟩ := ⟨Int.le_refl 0, show (0 : Int) ≤ 29 by decide, show (29 : Int) < 2147483647 by decide, Int.le_refl 0, Int.le_refl 0⟩
end Mir
end

set_option maxHeartbeats 200000
section
/-! The facts of a text, looked up in its written part. -/
namespace Mir
open PySem PySem.Spec PyProof.Rows L2
/-! ### own classes of exceptions -/
def nsNo (K : PySem.W.Frag) (ns : Addr) : List Str → Bool
  | [] => true
  | n :: r => decide (PySem.W.nsIn K ns n = some none) && nsNo K ns r
def xNames : List Str := ["__setattr__", "__getattribute__", "__getattr__", "__class__"]
/-- the class at C, an exception's, bases up: its mro, its making, nothing of xNames nor of `more` in its namespace -/
def xclB (K : PySem.W.Frag) (C : Addr) (ups : List Value) (more : List Str) : Bool := match K.lookup C with
  | some ⟨.type "type", _, .cls cd, sl⟩ => (match sl.toList with
    | [_, _, _, _, some (.builtin n), _] => decide (cd.mro = .ref C :: ups) && (n == "ValueError.__new__" && (cd.hasDict && (!cd.hasDel && nsNo K cd.ns (more ++ xNames))))
    | _ => false)
  | _ => false
theorem nsNo_ok {K : PySem.W.Frag} {ns : Addr} {n : Str} : ∀ {l : List Str}, nsNo K ns l = true → n ∈ l → PySem.W.nsIn K ns n = some none
  | [], _, h => by cases h
  | m :: r, c, h => by
    unfold nsNo at c
    rw [Bool.and_eq_true, decide_eq_true_eq] at c
    rcases List.mem_cons.mp h with rfl | h
    · exact c.1
    · exact nsNo_ok c.2 h
/-- what xclB says -/
structure Xcl (K : PySem.W.Frag) (C : Addr) (ups : List Value) (more : List Str) : Prop where
  ex : ∃ dd cd k0 k1 k2 k3 k5, K.lookup C = some ⟨.type "type", dd, .cls cd, #[k0, k1, k2, k3, some (.builtin "ValueError.__new__"), k5]⟩ ∧ cd.mro = .ref C :: ups ∧ cd.hasDict = true ∧ cd.hasDel = false ∧ nsNo K cd.ns (more ++ xNames) = true
theorem xclB_ok {K : PySem.W.Frag} {C : Addr} {ups : List Value} {more : List Str} (h : xclB K C ups more = true) : Xcl K C ups more := by
  unfold xclB at h
  split at h
  · rename_i dd cd sl ho
    split at h
    · rename_i k0 k1 k2 k3 n k5 hs
      simp only [Bool.and_eq_true, decide_eq_true_eq, beq_iff_eq, Bool.not_eq_true'] at h
      obtain ⟨h1, rfl, h3, h4, h5⟩ := h
      have hsl : sl = #[k0, k1, k2, k3, some (.builtin "ValueError.__new__"), k5] := by
        obtain ⟨l⟩ := sl
        simp only at hs
        rw [hs]
      subst hsl
      exact ⟨dd, cd, k0, k1, k2, k3, k5, ho, h1, h3, h4, h5⟩
    · cases h
  · cases h
section
variable {K : PySem.W.Frag} {C : Addr} {ups : List Value} {more : List Str}
theorem Xcl.cls (x : Xcl K C ups more) : ∃ cd, PySem.W.clsIn K C = some cd ∧ cd.mro = .ref C :: ups ∧ cd.hasDict = true ∧ nsNo K cd.ns (more ++ xNames) = true := by
  obtain ⟨dd, cd, k0, k1, k2, k3, k5, ho, h1, h3, h4, h5⟩ := x.ex
  exact ⟨cd, by unfold PySem.W.clsIn; rw [ho], h1, h3, h5⟩
theorem Xcl.own (x : Xcl K C ups more) {n : Str} (hn : n ∈ more ++ xNames) : PySem.W.ownIn K n (.ref C) = some none := by
  obtain ⟨dd, cd, k0, k1, k2, k3, k5, ho, h1, h3, h4, h5⟩ := x.ex
  show (match K.lookup C with
      | some ⟨_, _, .cls cd, _⟩ => PySem.W.nsIn K cd.ns n
      | _ => none) = _
  rw [ho]
  exact nsNo_ok h5 hn
theorem Xcl.find (x : Xcl K C ups more) (n : Str) : PySem.W.findIn K (.ref C) n = PySem.W.alongIn K n (.ref C :: ups) := by
  obtain ⟨dd, cd, k0, k1, k2, k3, k5, ho, h1, h3, h4, h5⟩ := x.ex
  show (match K.lookup C with
      | some ⟨_, _, .cls cd, _⟩ => PySem.W.alongIn K n cd.mro
      | _ => none) = _
  rw [ho]
  show PySem.W.alongIn K n cd.mro = _
  rw [h1]
theorem along_none {n : Str} {r : List Value} (h : PySem.W.ownIn K n (.ref C) = some none) : PySem.W.alongIn K n (.ref C :: r) = PySem.W.alongIn K n r := by
  show (match PySem.W.ownIn K n (.ref C) with
    | some (some v) => some (some v)
    | some none => PySem.W.alongIn K n r
    | none => none) = _
  rw [h]
theorem along_tail {n : Str} : PySem.W.alongIn K n xTail = PySem.W.alongIn [] n xTail := rfl
theorem Xcl.up0 (x : Xcl K C xTail more) {n : Str} (hn : n ∈ more ++ xNames) : PySem.W.findIn K (.ref C) n = PySem.W.alongIn [] n xTail := by
  rw [x.find, along_none (x.own hn), along_tail]
theorem Xcl.up1 {B : Addr} {more' : List Str} (x : Xcl K C (.ref B :: xTail) more) (y : Xcl K B xTail more') {n : Str} (hn : n ∈ more ++ xNames) (hb : n ∈ more' ++ xNames) : PySem.W.findIn K (.ref C) n = PySem.W.alongIn [] n xTail := by
  rw [x.find, along_none (x.own hn), along_none (y.own hb), along_tail]
theorem Xcl.ty (x : Xcl K C ups more) : PySem.W.typeIn K (.ref C) = some (.type "type") := by
  obtain ⟨dd, cd, k0, k1, k2, k3, k5, ho, _⟩ := x.ex
  show (K.lookup C).map _ = _
  rw [ho]
  rfl
theorem Xcl.mro (x : Xcl K C ups more) (v : Value) : PySem.W.subIn K (.ref C) v = some ((Value.ref C :: ups).contains v) := by
  obtain ⟨cd, h1, h2, _⟩ := x.cls
  show PySem.W.mroIn K C v = _
  unfold PySem.W.mroIn
  rw [h1, Option.bind_some, h2]
  rfl
theorem Xcl.keep (x : Xcl K C ups more) : PySem.W.keepIn K (.ref C) = true := by
  obtain ⟨dd, cd, k0, k1, k2, k3, k5, ho, _⟩ := x.ex
  show (match K.lookup C with
      | some ⟨_, _, .func _, _⟩ => true
      | some ⟨_, _, .cls _, _⟩ => PySem.W.specialIn K (.ref C) "__call__" == some (some (.builtin "type.__call__"))
      | _ => false) = true
  rw [ho]
  show (PySem.W.specialIn K (.ref C) "__call__" == some (some (.builtin "type.__call__"))) = true
  unfold PySem.W.specialIn
  rw [x.ty, Option.bind_some]
  show (PySem.fastLookup "type" "__call__" == _) = true
  decide +kernel
end
theorem k_set : PySem.W.alongIn [] "__setattr__" xTail = some (some (.builtin "object.__setattr__")) := by kernel_rfl
theorem k_ga : PySem.W.alongIn [] "__getattribute__" xTail = some (some (.builtin "BaseException.__getattribute__")) := by kernel_rfl
theorem k_gg : PySem.W.alongIn [] "__getattr__" xTail = some none := by kernel_rfl
theorem k_cls : PySem.W.alongIn [] "__class__" xTail = some (some (.builtin "object.__class__")) := by kernel_rfl
section
variable {K : PySem.W.Frag} {C : Addr} {ups : List Value} {more : List Str}
/-- what is looked up along the bases -/
def Up (K : PySem.W.Frag) (C : Addr) (ups : List Value) (more : List Str) : Prop := Xcl K C ups more ∧ ∀ n ∈ xNames, PySem.W.findIn K (.ref C) n = PySem.W.alongIn [] n xTail
theorem Xcl.upA (x : Xcl K C xTail more) : Up K C xTail more := ⟨x, fun n hn => x.up0 (List.mem_append_right _ hn)⟩
theorem Xcl.upB {B : Addr} {more' : List Str} (x : Xcl K C (.ref B :: xTail) more) (y : Xcl K B xTail more') : Up K C (.ref B :: xTail) more := ⟨x, fun n hn => x.up1 y (List.mem_append_right _ hn) (List.mem_append_right _ hn)⟩
theorem contains_tail {v : Value} (l : List Value) (h : xTail.contains v = true) : (l ++ xTail).contains v = true := by
  rw [List.contains_iff_mem] at h ⊢
  exact List.mem_append_right _ h
theorem Up.xf (u : Up K C (l ++ xTail) more) : XfC K C := by
  obtain ⟨x, f⟩ := u
  refine ⟨(f _ (by simp [xNames])).trans k_ga, (f _ (by simp [xNames])).trans k_gg, ?_, ?_⟩
  · rw [x.mro, show (Value.ref C :: (l ++ xTail)) = ([Value.ref C] ++ l) ++ xTail by simp, contains_tail _ (by decide +kernel)]
  · obtain ⟨cd, h1, _, h3, _⟩ := x.cls
    unfold PySem.W.hasDictIn
    rw [h1]
    exact h3
theorem Up.xc (u : Up K C (l ++ xTail) more) : XcF K C := by
  have hx := u.xf
  obtain ⟨x, f⟩ := u
  refine ⟨?_, hx, ⟨(f _ (by simp [xNames])).trans k_cls, by kernel_rfl⟩, by kernel_rfl, ?_⟩
  · obtain ⟨cd, h1, _⟩ := x.cls
    rw [h1]
    rfl
  · have := x.mro (.type "object")
    rw [show (Value.ref C :: (l ++ xTail)) = ([Value.ref C] ++ l) ++ xTail by simp, contains_tail _ (by decide +kernel)] at this
    exact this
theorem refs_tail : ∀ {l : List Value}, (∀ v ∈ l, ∃ a, v = .ref a) → PySem.HandSPX.refsVE (l ++ xTail) = true
  | [], _ => by decide +kernel
  | v :: l, h => by
    obtain ⟨a, rfl⟩ := h v (List.mem_cons_self ..)
    show PySem.HandSPX.refsVE (l ++ xTail) = true
    exact refs_tail fun w hw => h w (List.mem_cons_of_mem _ hw)
theorem Up.oex (u : Up K C (l ++ xTail) more) (hl : ∀ v ∈ l, ∃ a, v = .ref a) : OexC K C := by
  have hx := u.xf
  obtain ⟨x, f⟩ := u
  refine ⟨?_, (f _ (by simp [xNames])).trans k_set, hx.exC, x.ty, x.keep⟩
  obtain ⟨dd, cd, k0, k1, k2, k3, k5, ho, h1, h3, h4, h5⟩ := x.ex
  obtain ⟨nm, bs, mro, ns, qn, hd, sn, sub, ab, col, del⟩ := cd
  dsimp only at h1 h3 h4
  subst h1 h3 h4
  exact ⟨nm, qn, ns, bs, _, sn, sub, ab, col, dd, k0, k1, k2, k3, k5, ho, refs_tail hl⟩
end
/-! ### isinstance with own classes of exceptions -/
def xMs : List Str := ["ValueError", "Exception", "BaseException", "object"]
def xKin (b : Str) (names : List Str) : List Kin := ⟨b, true, b :: xMs⟩ :: names.map fun c => ⟨c, true, c :: b :: xMs⟩
theorem rise_lt : ∀ {r : List Nat} {a : Nat}, riseB (a :: r) = true → ∀ b ∈ r, a < b
  | [], _, _, b, hb => by cases hb
  | c :: r, a, h, b, hb => by
    have h : (Nat.blt a c && riseB (c :: r)) = true := h
    rw [Bool.and_eq_true] at h
    have h1 : a < c := by simpa [Nat.blt_eq] using h.1
    rcases List.mem_cons.mp hb with rfl | hb
    · exact h1
    · exact Nat.lt_trans h1 (rise_lt h.2 b hb)
theorem rise_tl {a : Nat} : ∀ {r : List Nat}, riseB (a :: r) = true → riseB r = true
  | [], _ => rfl
  | c :: r, h => by
    have h : (Nat.blt a c && riseB (c :: r)) = true := h
    rw [Bool.and_eq_true] at h
    exact h.2
theorem rise_inj {α : Type} {f : α → Nat} : ∀ {l : List α}, riseB (l.map f) = true → ∀ a ∈ l, ∀ b ∈ l, f a = f b → a = b
  | [], _, a, ha, _, _, _ => by cases ha
  | x :: l, h, a, ha, b, hb, e => by
    have lt := rise_lt (show riseB (f x :: l.map f) = true from h)
    rcases List.mem_cons.mp ha with e1 | ha1 <;> rcases List.mem_cons.mp hb with e2 | hb1
    · rw [e1, e2]
    · rw [e1] at e
      exact absurd e (Nat.ne_of_lt (lt _ (List.mem_map_of_mem hb1)))
    · rw [e2] at e
      exact absurd e.symm (Nat.ne_of_lt (lt _ (List.mem_map_of_mem ha1)))
    · exact rise_inj (rise_tl (show riseB (f x :: l.map f) = true from h)) a ha1 b hb1 e
section
variable {K : PySem.W.Frag} {C D : Addr} {ups ups' : List Value} {more more' : List Str}
theorem ref_ty {C : Addr} {T : String} : (Value.ref C == Value.type T) = false := rfl
theorem ty_ref {C : Addr} {T : String} : (Value.type T == Value.ref C) = false := rfl
theorem kit_rr (x : Xcl K C ups more) (y : Xcl K D ups' more') : PySem.W.kitOne K (.ref C) (.ref D) = some ((Value.ref C :: ups).contains (.ref D)) := by
  unfold PySem.W.kitOne
  by_cases h : C = D
  · subst h
    rw [if_pos (by simp)]
    simp
  · rw [if_neg (by simpa using h)]
    obtain ⟨cd, h1, _⟩ := y.cls
    show (if ((PySem.W.clsIn K D).isSome && PySem.W.typeIn K (.ref D) == some (.type "type")) = true then PySem.W.subIn K (.ref C) (.ref D) else none) = _
    rw [h1, y.ty, if_pos (by rfl), x.mro]
theorem kit_rt (x : Xcl K C ups more) {T : String} (hT : PySem.W.kitMeta T = true) : PySem.W.kitOne K (.ref C) (.type T) = some ((Value.ref C :: ups).contains (.type T)) := by
  unfold PySem.W.kitOne
  rw [if_neg (by rw [ref_ty]; decide)]
  show (if PySem.W.kitMeta T = true then PySem.W.subIn K (.ref C) (.type T) else none) = _
  rw [if_pos hT, x.mro]
theorem kit_tr (y : Xcl K D ups' more') {n : String} {l : List Value} (hn : PySem.fastBuiltinMro n = some l) (hl : ∀ v ∈ l, ∃ m, v = .type m) : PySem.W.kitOne K (.type n) (.ref D) = some false := by
  unfold PySem.W.kitOne
  rw [if_neg (by rw [ty_ref]; decide)]
  obtain ⟨cd, h1, _⟩ := y.cls
  show (if ((PySem.W.clsIn K D).isSome && PySem.W.typeIn K (.ref D) == some (.type "type")) = true then PySem.W.subIn K (.type n) (.ref D) else none) = _
  rw [h1, y.ty, if_pos (by rfl)]
  show (PySem.fastBuiltinMro n).map (fun l => l.contains (.ref D)) = _
  rw [hn]
  have : l.contains (Value.ref D) = false := by
    rw [Bool.eq_false_iff]
    intro h
    rw [List.contains_iff_mem] at h
    obtain ⟨m, e⟩ := hl _ h
    cases e
  rw [Option.map_some, this]
end
def mroTy (n : String) : Bool := match PySem.fastBuiltinMro n with
  | some l => l.all fun v => (match v with
    | .type _ => true
    | _ => false)
  | none => false
theorem kit_trB {K : PySem.W.Frag} {D : Addr} {ups' : List Value} {more' : List Str} (y : Xcl K D ups' more') {n : String} (h : mroTy n = true) : PySem.W.kitOne K (.type n) (.ref D) = some false := by
  unfold mroTy at h
  split at h
  · rename_i l e
    refine kit_tr y e fun v hv => ?_
    have := List.all_eq_true.mp h v hv
    split at this
    · exact ⟨_, rfl⟩
    · cases this
  · cases h
/-- all own classes of exceptions: the base b, the others straight under it, each with what its namespace lacks -/
structure XcAll (K : PySem.W.Frag) (b : Str) (bm : List Str) (xs : List (Str × List Str)) : Prop where
  hb : Xcl K (He.ga K b) xTail bm
  hc : ∀ p ∈ xs, Xcl K (He.ga K p.1) (.ref (He.ga K b) :: xTail) p.2
  inj : ∀ a ∈ b :: xs.map (·.1), ∀ c ∈ b :: xs.map (·.1), He.ga K a = He.ga K c → a = c
/-- no name of a class is one of the language's own -/
def xFree (l : List Str) : Bool := l.all fun c => !(xMs.contains c) && kindsTy.all fun n => !(n.2.contains c)
section
variable {K : PySem.W.Frag} {b : Str} {bm : List Str} {xs : List (Str × List Str)}
theorem ref_in {A B : Addr} {l : List Value} : (Value.ref A :: l ++ xTail).contains (.ref B) = true ↔ A = B ∨ .ref B ∈ l := by
  rw [List.contains_iff_mem, List.mem_append, List.mem_cons]
  have : Value.ref B ∉ xTail := by simp [xTail]
  constructor
  · rintro ((h | h) | h)
    · cases h
      exact .inl rfl
    · exact .inr h
    · exact absurd h this
  · rintro (h | h)
    · exact .inl (.inl (by rw [h]))
    · exact .inl (.inr h)
theorem XcAll.cls (T : XcAll K b bm xs) {c : Str} (hc : c ∈ b :: xs.map (·.1)) : ∃ ups more, Xcl K (He.ga K c) ups more ∧ ((c = b ∧ ups = xTail) ∨ ups = .ref (He.ga K b) :: xTail) := by
  rcases List.mem_cons.mp hc with rfl | h
  · exact ⟨_, _, T.hb, .inl ⟨rfl, rfl⟩⟩
  · obtain ⟨p, hp, rfl⟩ := List.mem_map.mp h
    exact ⟨_, _, T.hc p hp, .inr rfl⟩
theorem XcAll.own (T : XcAll K b bm xs) (hf : xFree (b :: xs.map (·.1)) = true) {c : Str} (hc : c ∈ b :: xs.map (·.1)) : KitF K (He.ga K) (xKin b (xs.map (·.1))) (.ref (He.ga K c)) c := by
  obtain ⟨ups, more, y, _⟩ := T.cls hc
  have hfc := List.all_eq_true.mp hf c hc
  rw [Bool.and_eq_true] at hfc
  have hx : c ∉ xMs := fun z => by
    have := hfc.1
    rw [List.contains_iff_mem.mpr z] at this
    cases this
  refine ⟨fun n hn => ?_, fun k hk => ?_⟩
  · have e : n.2.contains c = false := by
      have := List.all_eq_true.mp hfc.2 n hn
      simpa using this
    rw [e]
    simp only [kindsTy, List.mem_cons, List.not_mem_nil, or_false] at hn
    rcases hn with rfl | rfl | rfl | rfl | rfl | rfl | rfl
    all_goals exact kit_trB y (by decide +kernel)
  · unfold xKin at hk
    rcases List.mem_cons.mp hk with rfl | hk
    · show PySem.W.kitOne K (.ref (He.ga K b)) _ = _
      rw [kit_rr T.hb y]
      congr 1
      rw [Bool.eq_iff_iff]
      show (Value.ref (He.ga K b) :: [] ++ xTail).contains _ = true ↔ (b :: xMs).contains c = true
      rw [ref_in, List.contains_iff_mem, List.mem_cons]
      constructor
      · rintro (h | h)
        · exact .inl (T.inj _ (List.mem_cons_self ..) _ hc h).symm
        · cases h
      · rintro (h | h)
        · exact .inl (by rw [h])
        · exact absurd h hx
    · obtain ⟨d, hd, rfl⟩ := List.mem_map.mp hk
      obtain ⟨p, hp, rfl⟩ := List.mem_map.mp hd
      show PySem.W.kitOne K (.ref (He.ga K p.1)) _ = _
      rw [kit_rr (T.hc p hp) y]
      congr 1
      rw [Bool.eq_iff_iff]
      show (Value.ref (He.ga K p.1) :: [Value.ref (He.ga K b)] ++ xTail).contains _ = true ↔ (p.1 :: b :: xMs).contains c = true
      rw [ref_in, List.contains_iff_mem]
      simp only [List.mem_cons, List.not_mem_nil, or_false] at hx ⊢
      constructor
      · rintro (h | h)
        · exact .inl (T.inj _ (List.mem_cons_of_mem _ hd) _ hc h).symm
        · exact .inr (.inl (T.inj _ hc _ (List.mem_cons_self ..) (Value.ref.inj h)))
      · rintro (h | h | h)
        · exact .inl (by rw [h])
        · exact .inr (by rw [h])
        · exact absurd h hx
/-- isinstance's word on a type of the language -/
def tyF (T : String) (t : Str) : Bool := PySem.W.kitMeta T && (kindsTy.all (fun n => decide (PySem.W.kitOne [] (.type n.1) (.type T) = some (n.2.contains t))) && (xTail.contains (.type T) == xMs.contains t))
theorem ty_noK {K : PySem.W.Frag} {n T : String} : PySem.W.kitOne K (.type n) (.type T) = PySem.W.kitOne [] (.type n) (.type T) := rfl
theorem con_cons {α : Type} [BEq α] {a b : α} {l : List α} (h : (b == a) = false) : (a :: l).contains b = l.contains b := by
  rw [List.contains_cons, h, Bool.false_or]
theorem XcAll.ty (T : XcAll K b bm xs) {u : String} {t : Str} (ht : tyF u t = true) (hn : (b :: xs.map (·.1)).contains t = false) : KitF K (He.ga K) (xKin b (xs.map (·.1))) (.type u) t := by
  unfold tyF at ht
  rw [Bool.and_eq_true, Bool.and_eq_true, beq_iff_eq] at ht
  have hn' : ∀ d ∈ b :: xs.map (·.1), (t == d) = false := fun d hd => by
    rw [Bool.eq_false_iff]
    intro z
    rw [beq_iff_eq] at z
    subst z
    rw [List.contains_iff_mem.mpr hd] at hn
    cases hn
  have rt : ∀ {C : Addr}, (Value.type u == Value.ref C) = false := rfl
  refine ⟨fun n hm => ?_, fun k hk => ?_⟩
  · rw [ty_noK]
    exact of_decide_eq_true (List.all_eq_true.mp ht.2.1 n hm)
  · unfold xKin at hk
    rcases List.mem_cons.mp hk with rfl | hk
    · show PySem.W.kitOne K (.ref (He.ga K b)) _ = _
      rw [kit_rt T.hb ht.1]
      congr 1
      show _ = (b :: xMs).contains t
      rw [con_cons rt, con_cons (hn' _ (List.mem_cons_self ..)), ht.2.2]
    · obtain ⟨d, hd, rfl⟩ := List.mem_map.mp hk
      obtain ⟨p, hp, rfl⟩ := List.mem_map.mp hd
      show PySem.W.kitOne K (.ref (He.ga K p.1)) _ = _
      rw [kit_rt (T.hc p hp) ht.1]
      congr 1
      show _ = (p.1 :: b :: xMs).contains t
      rw [con_cons rt, con_cons rt, con_cons (hn' _ (List.mem_cons_of_mem _ hd)), con_cons (hn' _ (List.mem_cons_self ..)), ht.2.2]
theorem XcAll.up (T : XcAll K b bm xs) {c : Str} (hc : c ∈ b :: xs.map (·.1)) : ∃ l more, (∀ v ∈ l, ∃ a, v = Value.ref a) ∧ Up K (He.ga K c) (l ++ xTail) more := by
  rcases List.mem_cons.mp hc with rfl | h
  · exact ⟨[], _, fun v hv => (by cases hv), T.hb.upA⟩
  · obtain ⟨p, hp, rfl⟩ := List.mem_map.mp h
    exact ⟨[.ref (He.ga K b)], _, fun v hv => ⟨_, List.mem_singleton.mp hv⟩, (T.hc p hp).upB T.hb⟩
theorem XcAll.cl (T : XcAll K b bm xs) : ∀ k ∈ xKin b (xs.map (·.1)), ClF K k.x (He.ga K k.name) := by
  have key : ∀ c ∈ b :: xs.map (·.1), XcF K (He.ga K c) := fun c hc => by
    obtain ⟨l, more, _, u⟩ := T.up hc
    exact u.xc
  intro k hk
  unfold xKin at hk
  rcases List.mem_cons.mp hk with rfl | hk
  · exact key b (List.mem_cons_self ..)
  · obtain ⟨d, hd, rfl⟩ := List.mem_map.mp hk
    exact key d (List.mem_cons_of_mem _ hd)
/-- a field's name, found in no class -/
theorem XcAll.nof (T : XcAll K b bm xs) {p : Str × List Str} (hp : p ∈ xs) {f : Str} (h1 : f ∈ p.2) (h2 : f ∈ bm) (h3 : PySem.W.alongIn [] f xTail = some none) : PySem.W.findIn K (.ref (He.ga K p.1)) f = some none :=
  ((T.hc p hp).up1 T.hb (List.mem_append_left _ h1) (List.mem_append_left _ h2)).trans h3
theorem XcAll.xf (T : XcAll K b bm xs) {c : Str} (hc : c ∈ b :: xs.map (·.1)) : XfC K (He.ga K c) := by
  obtain ⟨l, more, _, u⟩ := T.up hc
  exact u.xf
theorem XcAll.oex (T : XcAll K b bm xs) {c : Str} (hc : c ∈ b :: xs.map (·.1)) : OexC K (He.ga K c) := by
  obtain ⟨l, more, hl, u⟩ := T.up hc
  exact u.oex hl
end
/-- what is known of a script: its length, its numbers' sizes -/
def ScL (n : Nat) (ns : List Int) : Prop := ns.length ≤ n ∧ ∀ z ∈ ns, Builtin.Int.intBits z ≤ 1048576
/-- a law's end: its def, walked, is what the statement calls -/
theorem law_end {l : PySem.W.OpenLaw} {n k : Nat} {q : Program} {loose : List Str} {XP : (Str → Option Value) → Heap → Prop} {YP : World → Heap → Prop} {d : DefRec} {x : Str}
    (h1 : l.most = some n) (h2 : n ≤ sizeLine) (h3 : d.params.defaults = []) (h4 : Room k callerA)
    (F : ∀ (w : World) (mg : Str → Option Value) (fa : Addr) (h : Heap), YP w h → h.Ns mainGlobals mg → mg d.name = some (.ref fa) → ∃ (K : PySem.W.Frag) (fd : FuncData), K.In h ∧
      (∀ (s : Shared) (u : Value), BindsTo s fd ⟨[u], []⟩ [(x, u)]) ∧ ∀ base : Heap, K.In base → base.Ns mainGlobals mg → FnOk l.prog w K mg base (L2.CX l.prog w) k fa fd [x] (spLaw K (ScL n))) :
    PySem.W.WalkO q loose XP YP l.row.toRowW d [] fun f vs => PySem.call f vs := by
  refine Att.attach_callB h1 h3 fun w s0 s1 mg mb fa o pm cd doc a vs ns G Y ho hd hcd hmg hobj hints hlen hbits hg => ?_
  obtain ⟨K, fd, i1, i2, i3⟩ := F w mg fa _ Y G.T.g hmg
  refine law_call i1 G.T.g G.T.b G.T.builtins G.T.nolimit hg hobj hints (Nat.le_trans hlen h2) h4 i3 i2 (fun H _ hS => ?_) fun H e s' hx => ?_
  · exact ⟨a, ns, rfl, hS, ⟨hlen, hbits⟩, fun _ => rfl⟩
  · obtain ⟨_, _, _, _, _, _, _, _, _, _, _, _, z⟩ := hx
    exact z
end Mir
end

set_option maxHeartbeats 200000
section
/-! The facts of a text, put to use. -/
namespace Mir
open PySem PySem.Spec PyProof.Rows L2
/-! ### from the facts -/
theorem isStr_eq {v : Value} {a b : Str} (h : v.isStr a = true) (h2 : v.isStr b = true) : a = b := by
  unfold Value.isStr at h h2
  split at h
  · rename_i s t
    rw [beq_iff_eq] at h
    simp only [beq_iff_eq] at h2
    rw [← h, ← h2]
  · cases h
theorem isStr_ref {e : DictEntry} {a : Str} (h : e.key.isStr a = true) : e.refKey = false := by
  unfold Value.isStr at h
  unfold DictEntry.refKey
  split at h
  · rename_i s t q
    rw [q]
  · cases h
section
variable {K : PySem.W.Frag} {B : Value}
/-- distinct names -/
theorem all_at : ∀ {ps : List (Str × Ask)} {es : List DictEntry} {i : Nat} {p : Str × Ask}, AskAll K B ps es → (ps.map (·.1)).Nodup → ps[i]? = some p → es.find? (·.key.isStr p.1) = es[i]? ∧ ∃ e, es[i]? = some e ∧ AskOk K B p.2 e.val ∧ valAt es i = e.val
  | [], _, _, _, _, _, h => by cases h
  | q :: ps, [], _, _, h, _, _ => h.elim
  | q :: ps, e :: es, 0, p, h, nd, hp => by
    cases hp
    exact ⟨by rw [List.find?_cons, h.1]; rfl, e, rfl, h.2.1, rfl⟩
  | q :: ps, e :: es, i + 1, p, h, nd, hp => by
    rw [List.map_cons, List.nodup_cons] at nd
    have hp : ps[i]? = some p := hp
    obtain ⟨h1, h2⟩ := all_at h.2.2 nd.2 hp
    refine ⟨?_, h2⟩
    have ne : e.key.isStr p.1 = false := by
      rw [Bool.eq_false_iff]
      intro z
      exact nd.1 (by rw [isStr_eq h.1 z]; exact List.mem_map_of_mem (List.mem_of_getElem? hp))
    rw [List.find?_cons, ne]
    exact h1
theorem all_no : ∀ {ps : List (Str × Ask)} {es : List DictEntry} {n : Str}, AskAll K B ps es → n ∉ ps.map (·.1) → es.find? (·.key.isStr n) = none ∧ es.any (·.refKey) = false
  | [], [], _, _, _ => ⟨rfl, rfl⟩
  | [], _ :: _, _, h, _ => h.elim
  | _ :: _, [], _, h, _ => h.elim
  | q :: ps, e :: es, n, h, hn => by
    rw [List.map_cons, List.mem_cons, not_or] at hn
    obtain ⟨h1, h2⟩ := all_no h.2.2 hn.2
    have ne : e.key.isStr n = false := by
      rw [Bool.eq_false_iff]
      intro z
      exact hn.1 (isStr_eq z h.1)
    exact ⟨by rw [List.find?_cons, ne]; exact h1, by rw [List.any_cons, isStr_ref h.1, h2]; rfl⟩
theorem keys_no : ∀ {ns : List Str} {es : List DictEntry} {n : Str}, keysB ns es = true → n ∉ ns → es.find? (·.key.isStr n) = none ∧ es.any (·.refKey) = false
  | [], [], _, _, _ => ⟨rfl, rfl⟩
  | [], _ :: _, _, h, _ => by cases h
  | _ :: _, [], _, h, _ => by cases h
  | q :: ns, e :: es, n, h, hn => by
    have h : (e.key.isStr q && keysB ns es) = true := h
    rw [Bool.and_eq_true] at h
    rw [List.mem_cons, not_or] at hn
    obtain ⟨h1, h2⟩ := keys_no h.2 hn.2
    have ne : e.key.isStr n = false := by
      rw [Bool.eq_false_iff]
      intro z
      exact hn.1 (isStr_eq z h.1)
    exact ⟨by rw [List.find?_cons, ne]; exact h1, by rw [List.any_cons, isStr_ref h.1, h2]; rfl⟩
theorem ns_some {D : Addr} {oc : Value} {od : Option Addr} {ar : Array DictEntry} {n : Nat} {sl : Array (Option Value)} (h : K.lookup D = some ⟨oc, od, .dict ar n, sl⟩) {x : Str} {e : DictEntry} (hf : ar.toList.find? (·.key.isStr x) = some e) : PySem.W.nsIn K D x = some (some e.val) := by
  unfold PySem.W.nsIn
  rw [h]
  simp only
  rw [hf]
theorem ns_none {D : Addr} {oc : Value} {od : Option Addr} {ar : Array DictEntry} {n : Nat} {sl : Array (Option Value)} (h : K.lookup D = some ⟨oc, od, .dict ar n, sl⟩) {x : Str} (hf : ar.toList.find? (·.key.isStr x) = none) (hr : ar.toList.any (·.refKey) = false) : PySem.W.nsIn K D x = some none := by
  unfold PySem.W.nsIn
  rw [h]
  simp only
  rw [hf]
  simp only
  rw [hr]
  rfl
theorem XclN.no {C : Addr} {ups : List Value} {keys : List Str} {es : List DictEntry} (X : XclN K C ups keys es) {more : List Str} (h : ((more ++ xNames).all fun n => !keys.contains n) = true) : Xcl K C ups more := by
  obtain ⟨dd, cd, s0, s1, s2, s3, s5, h1, h2, h3, h4, oc, od, ar, n, sl, h5, h6, h7⟩ := X.ex
  refine ⟨dd, cd, s0, s1, s2, s3, s5, h1, h2, h3, h4, ?_⟩
  have key : ∀ l : List Str, (l.all fun n => !keys.contains n) = true → nsNo K cd.ns l = true := fun l => by
    induction l with
    | nil => exact fun _ => rfl
    | cons x l ih =>
      intro hl
      rw [List.all_cons, Bool.and_eq_true] at hl
      unfold nsNo
      rw [Bool.and_eq_true]
      have hx : x ∉ keys := fun z => by
        have := hl.1
        rw [List.contains_iff_mem.mpr z] at this
        cases this
      obtain ⟨f1, f2⟩ := keys_no h7 hx
      exact ⟨decide_eq_true (ns_none h5 (by rw [h6]; exact f1) (by rw [h6]; exact f2)), ih hl.2⟩
  exact key _ h
theorem XclN.ini {C : Addr} {ups : List Value} {es : List DictEntry} (X : XclN K C ups kI es) {f : Addr} (hf : valAt es 2 = .ref f) : PySem.W.findIn K (.ref C) "__init__" = some (some (.ref f)) := by
  obtain ⟨dd, cd, s0, s1, s2, s3, s5, h1, h2, h3, h4, oc, od, ar, n, sl, h5, h6, h7⟩ := X.ex
  show (match K.lookup C with
      | some ⟨_, _, .cls cd, _⟩ => PySem.W.alongIn K "__init__" cd.mro
      | _ => none) = _
  rw [h1]
  show PySem.W.alongIn K "__init__" cd.mro = _
  rw [h2]
  show (match PySem.W.ownIn K "__init__" (.ref C) with
    | some (some v) => some (some v)
    | some none => PySem.W.alongIn K "__init__" ups
    | none => none) = _
  have e : PySem.W.ownIn K "__init__" (.ref C) = some (some (.ref f)) := by
    show (match K.lookup C with
      | some ⟨_, _, .cls cd, _⟩ => PySem.W.nsIn K cd.ns "__init__"
      | _ => none) = _
    rw [h1]
    show PySem.W.nsIn K cd.ns "__init__" = _
    match es, h7, h6, hf with
    | [], h7, _, _ => cases h7
    | [_], h7, _, _ => simp [kI, keysB] at h7
    | [_, _], h7, _, _ => simp [kI, keysB] at h7
    | e0 :: e1 :: e2 :: r, h7, h6, hf =>
      have h7 : (e0.key.isStr "__module__" && (e1.key.isStr "__firstlineno__" && (e2.key.isStr "__init__" && keysB [("__static_attributes__" : Str), ("__doc__" : Str)] r))) = true := h7
      rw [Bool.and_eq_true, Bool.and_eq_true, Bool.and_eq_true] at h7
      have n0 : e0.key.isStr "__init__" = false := by
        rw [Bool.eq_false_iff]
        intro z
        exact absurd (isStr_eq h7.1 z) (by decide +kernel)
      have n1 : e1.key.isStr "__init__" = false := by
        rw [Bool.eq_false_iff]
        intro z
        exact absurd (isStr_eq h7.2.1 z) (by decide +kernel)
      have q : ar.toList.find? (·.key.isStr "__init__") = some e2 := by
        rw [h6, List.find?_cons, n0]
        simp only
        rw [List.find?_cons, n1]
        simp only
        rw [List.find?_cons, h7.2.2.1]
      have hf : e2.val = .ref f := hf
      rw [ns_some h5 q, hf]
  rw [e]
end
section
variable {K : PySem.W.Frag} {h : Heap} {mg : Str → Option Value} {iB : Nat} {ps : List (Str × Ask)}
/-- the name at i -/
theorem Fcts.at (F : Fcts iB ps K) (nd : (ps.map (·.1)).Nodup) (i : Nat) {p : Str × Ask} (hp : ps[i]? = some p) : ∃ (B v : Value), PySem.W.nsIn K mainGlobals p.1 = some (some v) ∧ AskOk K B p.2 v ∧ (∀ q, ps[iB]? = some q → PySem.W.nsIn K mainGlobals q.1 = some (some B)) := by
  obtain ⟨es, ⟨oc, od, ar, n, sl, h1, h2⟩, ha, hr⟩ := F.ex
  obtain ⟨f1, e, f2, f3, f4⟩ := all_at ha nd hp
  refine ⟨valAt es iB, e.val, ns_some h1 (by rw [h2, f1, f2]), f3, fun q hq => ?_⟩
  obtain ⟨g1, e2, g2, g3, g4⟩ := all_at ha nd hq
  rw [g4]
  exact ns_some h1 (by rw [h2, g1, g2])
theorem Fcts.free (F : Fcts iB ps K) {x : Str} (hx : (ps.map (·.1)).contains x = false) (X : K.In h) (G : h.Ns mainGlobals mg) : mg x = none := by
  obtain ⟨es, ⟨oc, od, ar, n, sl, h1, h2⟩, ha, hr⟩ := F.ex
  have hn : x ∉ ps.map (·.1) := fun z => by
    rw [List.contains_iff_mem.mpr z] at hx
    cases hx
  obtain ⟨f1, f2⟩ := all_no ha hn
  exact PySem.W.mg_none_of X G (ns_none h1 (by rw [h2]; exact f1) (by rw [h2]; exact f2))
theorem ga_of {x : Str} {a : Addr} (e : PySem.W.nsIn K mainGlobals x = some (some (.ref a))) : He.ga K x = a := by
  unfold He.ga
  rw [e]
theorem Fcts.glo (F : Fcts iB ps K) (nd : (ps.map (·.1)).Nodup) (i : Nat) {p : Str × Ask} (hp : ps[i]? = some p) (hx : (match p.2 with | .no => false | _ => true) = true) (X : K.In h) (G : h.Ns mainGlobals mg) : mg p.1 = some (.ref (He.ga K p.1)) := by
  obtain ⟨B, v, e, o, _⟩ := F.at nd i hp
  obtain ⟨x, a⟩ := p
  have : ∃ c, v = .ref c := by
    cases a with
    | no => cases hx
    | fn d => obtain ⟨c, rfl, _⟩ := o; exact ⟨c, rfl⟩
    | xi d => obtain ⟨c, _, rfl, _⟩ := o; exact ⟨c, rfl⟩
    | x0 => obtain ⟨c, _, rfl, _⟩ := o; exact ⟨c, rfl⟩
    | xb => obtain ⟨c, _, rfl, _⟩ := o; exact ⟨c, rfl⟩
  obtain ⟨c, rfl⟩ := this
  rw [ga_of e]
  exact PySem.W.mg_of X G e
theorem Fcts.df (F : Fcts iB ps K) (nd : (ps.map (·.1)).Nodup) (i : Nat) {x : Str} {st : Stmt} (hp : ps[i]? = some (x, .fn ⟨(x, none), x, x, defArgs st, defBody st, defScope st, [], []⟩)) (X : K.In h) (G : h.Ns mainGlobals mg) : Df K mg x st := by
  obtain ⟨B, v, e, ⟨a, rfl, ht, fd, FD⟩, _⟩ := F.at nd i hp
  have ea := ga_of e
  subst ea
  exact ⟨fd, FD, PySem.W.mg_of X G e⟩
end
/-- the own classes of exceptions among what is asked -/
def xcNames : List (Str × Ask) → List Str
  | [] => []
  | p :: ps => if isX p.2 then p.1 :: xcNames ps else xcNames ps
theorem adrs_ga {K : PySem.W.Frag} {B : Value} {ga : Str → Nat} : ∀ {ps : List (Str × Ask)} {es : List DictEntry}, AskAll K B ps es → (∀ i p, ps[i]? = some p → isX p.2 = true → ga p.1 = adrV (valAt es i)) → adrs ps es = (xcNames ps).map ga
  | [], [], _, _ => rfl
  | [], _ :: _, h, _ => h.elim
  | _ :: _, [], h, _ => h.elim
  | p :: ps, e :: es, h, hg => by
    have ih := adrs_ga h.2.2 fun i q hq hx => hg (i + 1) q hq hx
    unfold adrs xcNames
    cases hx : isX p.2 with
    | true =>
      rw [if_pos rfl, if_pos rfl, ih, List.map_cons, hg 0 p rfl hx]
      rfl
    | false =>
      rw [if_neg (by simp), if_neg (by simp), ih]
theorem Fcts.inj {K : PySem.W.Frag} {iB : Nat} {ps : List (Str × Ask)} (F : Fcts iB ps K) (nd : (ps.map (·.1)).Nodup) : ∀ a ∈ xcNames ps, ∀ b ∈ xcNames ps, He.ga K a = He.ga K b → a = b := by
  obtain ⟨es, ⟨oc, od, ar, n, sl, h1, h2⟩, ha, hr⟩ := F.ex
  have e := adrs_ga (ga := He.ga K) ha fun i p hp hx => by
    obtain ⟨f1, e, f2, f3, f4⟩ := all_at ha nd hp
    have en := ns_some (x := p.1) h1 (by rw [h2, f1, f2])
    rw [f4]
    unfold He.ga
    rw [en]
    cases e.val <;> rfl
  rw [e] at hr
  exact rise_inj hr
section
variable {K : PySem.W.Frag} {iB : Nat} {ps : List (Str × Ask)} {b : Str} {bm : List Str} {xs : List (Str × List Str)}
def xsB (ps : List (Str × Ask)) (xs : List (Str × List Str)) : Bool := xs.all fun p => ps.any fun q => q.1 == p.1 && (match q.2 with
  | .x0 => (p.2 ++ xNames).all fun n => !k0.contains n
  | .xi _ => (p.2 ++ xNames).all fun n => !kI.contains n
  | _ => false)
theorem Fcts.xc (F : Fcts iB ps K) (nd : (ps.map (·.1)).Nodup) (hB : ps[iB]? = some (b, .xb)) (hb : ((bm ++ xNames).all fun n => !kB.contains n) = true) (hx : xsB ps xs = true) (hn : xcNames ps = b :: xs.map (·.1)) : XcAll K b bm xs := by
  obtain ⟨B0, v0, e0, ⟨CB, es0, rfl, X0⟩, fB⟩ := F.at nd iB hB
  have g0 := ga_of e0
  have eB : ∀ {B v : Value} {i : Nat} {p : Str × Ask}, (∀ q, ps[iB]? = some q → PySem.W.nsIn K mainGlobals q.1 = some (some B)) → B = .ref (He.ga K b) := fun {B v i p} h => by
    have := (h _ hB).symm.trans e0
    rw [g0]
    simpa using this
  refine ⟨by rw [g0]; exact X0.no hb, fun p hp => ?_, by rw [← hn]; exact F.inj nd⟩
  have h1 := List.all_eq_true.mp hx p hp
  obtain ⟨q, hq, h2⟩ := List.any_eq_true.mp h1
  rw [Bool.and_eq_true, beq_iff_eq] at h2
  obtain ⟨i, hi⟩ := List.getElem?_of_mem hq
  obtain ⟨B, v, e, o, hBB⟩ := F.at nd i hi
  have eb := eB (v := v) (i := i) (p := q) hBB
  obtain ⟨x, a⟩ := q
  obtain ⟨rfl, h2⟩ := h2
  cases a with
  | no => cases h2
  | fn d => cases h2
  | xb => cases h2
  | x0 =>
    obtain ⟨C, es, rfl, X⟩ := o
    rw [← eb, ga_of e]
    exact X.no h2
  | xi d =>
    obtain ⟨C, es, rfl, X, _⟩ := o
    rw [← eb, ga_of e]
    exact X.no h2
/-- the __init__ of the class at i -/
theorem Fcts.ini (F : Fcts iB ps K) (nd : (ps.map (·.1)).Nodup) (i : Nat) {c : Str} {d : He.DefD} (hp : ps[i]? = some (c, .xi d)) : ∃ fI, PySem.W.findIn K (.ref (He.ga K c)) "__init__" = some (some (.ref fI)) ∧ PySem.W.typeIn K (.ref fI) = some (.type "function") ∧ ∃ fd, FunD K d.name d.qual d.params d.body d.scope [] [] fI fd := by
  obtain ⟨B, v, e, ⟨C, es, rfl, X, fI, hf, ht, fd, FD⟩, _⟩ := F.at nd i hp
  rw [ga_of e]
  exact ⟨fI, X.ini hf, ht, fd, FD⟩
theorem mxc_at {P : Program} {w : World} {mg : Str → Option Value} {base : Heap} {c f pn qual : Str} {more : List Str} {params : Arguments} {body : List Stmt} {scope : Scope} {q1 q2 q3 q4 : Pos}
    (T : XcAll K b bm xs) (hp : (c, more) ∈ xs) (h1 : f ∈ more) (h2 : f ∈ bm) (h3 : PySem.W.alongIn [] f xTail = some none) (hi : ∃ fI, PySem.W.findIn K (.ref (He.ga K c)) "__init__" = some (some (.ref fI)) ∧ PySem.W.typeIn K (.ref fI) = some (.type "function") ∧ ∃ fd, FunD K "__init__" qual params body scope [] [] fI fd)
    (S : FnScope ["self", pn] ["self", pn] scope) (hbody : body = [.Assign [.Attribute (.Name "self" q1) f q2] (.Name pn q3) q4]) (hs : ∀ env, swapsWith (.Name pn q3) (some (.Attribute (.Name "self" q1) f q2)) q4.line env = pure false)
    (hv : scope.names.lookup ("self" : Str) = some .local) (hv2 : scope.names.lookup pn = some .local) (hd : (pn == ("__debug__" : Str)) = false) (hcd : (pn == ("__classdict__" : Str)) = false)
    (hb1 : ∀ (kV doc pm : Value) (an : Option Addr) (cdv ct : Value) (us : List Value), us.length = (["self", pn] : List Str).length → bindArgs (PySem.W.fnOf "__init__" qual params body scope .none kV doc pm an cdv ct) ⟨us, []⟩ = pure ((["self", pn] : List Str).zip us))
    (hb2 : ∀ (kV doc pm : Value) (an : Option Addr) (cdv ct self u : Value), bindArgs (PySem.W.fnOf "__init__" qual params body scope .none kV doc pm an cdv ct) ⟨[self], [(pn, u)]⟩ = pure ((["self", pn] : List Str).zip [self, u])) : MxC P w K mg base c f pn := by
  obtain ⟨fI, i1, i2, fd, F⟩ := hi
  refine ⟨fI, fd, ⟨T.oex (List.mem_cons_of_mem _ (List.mem_map_of_mem hp)), i1, i2, T.nof hp h1 h2 h3⟩, xinit_ok (q5 := q1) F S hbody hs hv hv2 hd hcd, F.bindsN hb1, fun s self u _ => ?_⟩
  obtain ⟨oc, od, dV, kV, doc, pm, an, cdv, ct, osl, rfl, lk, hcd, hD, hK⟩ := F.ex
  rcases hD with ⟨_, rfl⟩ | ⟨e, _⟩
  · exact .of_eq (hb2 kV doc pm an cdv ct self u)
  · exact absurd rfl e
abbrev VE : List Value := [.type "ValueError", .type "Exception", .type "BaseException", .type "object"]
theorem keys_str : ∀ {ns : List Str} {es : List DictEntry}, keysB ns es = true → (es.all fun e => match e.key with | .str _ _ => true | _ => false) = true
  | [], [], _ => rfl
  | [], _ :: _, h => by cases h
  | _ :: _, [], h => by cases h
  | q :: ns, e :: es, h => by
    have h : (e.key.isStr q && keysB ns es) = true := h
    rw [Bool.and_eq_true] at h
    rw [List.all_cons, Bool.and_eq_true]
    refine ⟨?_, keys_str h.2⟩
    have := h.1
    unfold Value.isStr at this
    split at this
    · rename_i s t z w
      rw [z]
    · cases this
theorem XclN.nsOk {C : Addr} {ups : List Value} {keys : List Str} {es : List DictEntry} (X : XclN K C ups keys es) : ∃ cd, PySem.W.clsIn K C = some cd ∧ PySem.W.nsOkIn K cd.ns = true := by
  obtain ⟨dd, cd, s0, s1, s2, s3, s5, h1, h2, h3, h4, oc, od, ar, n, sl, h5, h6, h7⟩ := X.ex
  refine ⟨cd, by unfold PySem.W.clsIn; rw [h1], ?_⟩
  unfold PySem.W.nsOkIn
  rw [h5]
  have := keys_str h7
  rw [← h6] at this
  rw [Array.all_toList] at this
  exact this
theorem x0_core {C : Addr} {ups : List Value} {keys : List Str} {es : List DictEntry} (X : XclN K C ups keys es) (hk : keys.contains "__init__" = false) (ht : PySem.W.tailIn K VE ups = true) : PySem.W.excIn K C VE "ValueError.__new__" = true := by
  obtain ⟨cd', hc, hn⟩ := X.nsOk
  obtain ⟨dd, cd, s0, s1, s2, s3, s5, h1, h2, h3, h4, oc, od, ar, n, sl, h5, h6, h7⟩ := X.ex
  unfold PySem.W.clsIn at hc
  rw [h1] at hc
  cases hc
  have hx : ("__init__" : Str) ∉ keys := fun z => by
    rw [List.contains_iff_mem.mpr z] at hk
    cases hk
  obtain ⟨f1, f2⟩ := keys_no h7 hx
  have e := ns_none (x := "__init__") h5 (by rw [h6]; exact f1) (by rw [h6]; exact f2)
  unfold PySem.W.excIn
  rw [h1]
  simp only
  rw [h2]
  simp only
  rw [h4, ht, hn, e]
  simp
theorem tail_ve : PySem.W.tailIn K VE xTail = true := by
  unfold PySem.W.tailIn xTail
  simp only
  rw [Bool.or_eq_true]
  exact .inl (beq_self_eq_true _)
theorem x0_tail {C : Addr} {keys : List Str} {es : List DictEntry} (X : XclN K C xTail keys es) (hk : keys.contains "__init__" = false) : PySem.W.tailIn K VE (.ref C :: xTail) = true := by
  obtain ⟨cd', hc, hn⟩ := X.nsOk
  obtain ⟨dd, cd, s0, s1, s2, s3, s5, h1, h2, h3, h4, oc, od, ar, n, sl, h5, h6, h7⟩ := X.ex
  unfold PySem.W.clsIn at hc
  rw [h1] at hc
  cases hc
  have hx : ("__init__" : Str) ∉ keys := fun z => by
    rw [List.contains_iff_mem.mpr z] at hk
    cases hk
  obtain ⟨f1, f2⟩ := keys_no h7 hx
  have e := ns_none (x := "__init__") h5 (by rw [h6]; exact f1) (by rw [h6]; exact f2)
  unfold PySem.W.tailIn
  rw [Bool.or_eq_true]
  refine .inr ?_
  simp only [h1]
  rw [hn, e]
  simp only [beq_self_eq_true, Bool.true_and]
  exact tail_ve
/-- a class without an __init__ of its own -/
theorem Fcts.x0 (F : Fcts iB ps K) (nd : (ps.map (·.1)).Nodup) (hB : ps[iB]? = some (b, .xb)) (i : Nat) {c : Str} (hp : ps[i]? = some (c, .x0) ∨ ps[i]? = some (c, .xb)) :
    PySem.W.excIn K (He.ga K c) [.type "ValueError", .type "Exception", .type "BaseException", .type "object"] "ValueError.__new__" = true ∧ PySem.W.keepIn K (.ref (He.ga K c)) = true := by
  obtain ⟨B0, v0, e0, ⟨CB, es0, rfl, X0⟩, fB⟩ := F.at nd iB hB
  rcases hp with hp | hp
  · obtain ⟨B, v, e, ⟨C, es, rfl, X⟩, hBB⟩ := F.at nd i hp
    have eb : B = .ref CB := by
      have := (hBB _ hB).symm.trans e0
      simpa using this
    subst eb
    rw [ga_of e]
    exact ⟨x0_core X (by decide +kernel) (x0_tail X0 (by decide +kernel)), (X.no (more := []) (by decide +kernel)).keep⟩
  · obtain ⟨B, v, e, ⟨C, es, rfl, X⟩, hBB⟩ := F.at nd i hp
    rw [ga_of e]
    exact ⟨x0_core X (by decide +kernel) tail_ve, (X.no (more := []) (by decide +kernel)).keep⟩
end
end Mir
end

set_option maxHeartbeats 2000000
section
/-! A comprehension over a range, a def's body, where an exception is handled. -/
namespace Mir
open PySem PySem.Spec PyProof.Rows L2 HotX
/-- an iterator's turns, where the exception at x1 is handled -/
structure TurnA (P : Program) (w : World) (K : PySem.W.Frag) (tg : Expr) (J : It) (fp : List Addr) (it : Addr) (tn : Nat → Heap → Prop) : Prop where
  here : it ∈ fp
  objs : ∀ i h, tn i h → ∀ b ∈ fp, ∃ o, h.get? b = some o ∧ ∀ v, o.data ≠ .cell v
  keep : ∀ i h h2, tn i h → (∀ b ∈ fp, ∀ o, h.get? b = some o → h2.get? b = some o) → tn i h2
  next : ∀ (X : Cx) (x1 : Addr), X.prog = P → X.w = w → X.K = K → ∀ (i : Nat) (pins : List (Addr × Obj)) (s : Shared) (σ : L2.St) (H : Hp) (E : Value → Shared → Prop), HotAt X.A x1 s.heap → Inv X pins σ H s → (∀ b ∈ fp, FpOk X pins H b) → tn i s.heap →
    (J.go i H → wpAny (model P w) X.A (pyNext (.ref it)) (fun r s1 => ∃ u, r = some u ∧ wpAny (model P w) X.A (letOwnedTupleGo tg (.ref it) u) (fun _ s2 => ∃ x H2, Inv X pins σ H2 s2 ∧ RelV x u ∧ J.yld i H x H2 ∧ tn (i + 1) s2.heap ∧ ∀ b ∈ fp, H2 b = none) E s1) E s) ∧
    (J.stop i H → wpAny (model P w) X.A (pyNext (.ref it)) (fun r s1 => r = none ∧ Inv X pins σ H s1) E s)
  self : ∀ (A : Around) (i : Nat) (s : Shared) (Q : Value → Shared → Prop) (E : Value → Shared → Prop), tn i s.heap → Q (.ref it) s → wpAny (model P w) A (pyIter (.ref it)) Q E s
theorem turnA_range {P : Program} {w : World} {K : PySem.W.Frag} {tg : Expr} (it : Addr) (n : Nat) : TurnA P w K tg (Itr 0 n) [it] it (fun i h => IsRangeIter h it ((i : Nat) : Int) ((n : Int) - (i : Nat)) 1) where
  here := List.mem_singleton.mpr rfl
  objs i h st b hb := by
    cases List.mem_singleton.mp hb
    exact ⟨_, st, fun v z => by cases (show Data.fields _ = Data.cell v from z)⟩
  keep i h h2 st k := k it (List.mem_singleton.mpr rfl) _ st
  next := by
    rintro X x1 rfl rfl rfl i pins s σ H E hot J hf st
    obtain ⟨f0, f1, f2, f3, f4, f5⟩ := hf it (List.mem_singleton.mpr rfl)
    refine ⟨fun lt => ?_, fun ge => ?_⟩
    · have lt : i < n := lt
      refine wpAny_pyNext_range_item st (by omega) fun h2 st2 sb => ?_
      have st3 : IsRangeIter h2 it (((i + 1 : Nat) : Nat) : Int) ((n : Int) - ((i + 1 : Nat) : Int)) 1 := by
        rw [show (((i + 1 : Nat) : Nat) : Int) = (i : Int) + 1 by omega, show (n : Int) - ((i : Int) + 1) = (n : Int) - ((i : Nat) : Int) - 1 by omega]
        exact st2
      have J2 : Inv X pins σ H { s with heap := h2, toks := s.toks + 1 } := J.turned (fun b o hb z => (sb.2 b hb).trans z) f0 f1 f3 f4 f5
      refine ⟨_, rfl, go_of (s := { s with heap := h2, toks := s.toks + 1 }) (n := "range_iterator") st3 rfl rfl (by decide) ⟨.int (0 + (i : Nat)), H, J2, ⟨s.toks, ?_⟩, ⟨rfl, rfl⟩, st3, fun b hb => (hf b hb).1⟩⟩
      rw [Int.zero_add]
    · have ge : n ≤ i := ge
      exact pyNext_range_end_hot hot st (by omega) fun h2 eb => ⟨rfl, J.turned (t' := s.toks) (fun b o _ z => eb b o z) f0 f1 f3 f4 f5⟩
  self _ _ _ _ _ st h := wpAny_pyIter_rangeiter st h
/-- what is walked there -/
structure PIA (X : Cx) (tg iter : Expr) (wi : TI) : Prop where
  run : ∀ (pins : List (Addr × Obj)) (s : Shared) (σ : L2.St) (H : Hp) (R : It → Hp → Prop), Inv X pins σ H s → wi σ H R →
    wpAny (model X.prog X.w) X.A (eval iter X.env) (fun v s1 => wpAny (model X.prog X.w) X.A (pyIter v) (fun itv s2 => ∃ (it : Addr) (fp : List Addr) (tn : Nat → Heap → Prop) (J : It) (H2 : Hp), itv = .ref it ∧ Inv X pins σ H2 s2 ∧ TurnA X.prog X.w X.K tg J fp it tn ∧ tn 0 s2.heap ∧
      (∀ b ∈ fp, FpOk X pins H2 b) ∧ R J H2) X.xe s1) X.xe s
theorem it_rangeA {X : Cx} {tg : Expr} {pins : List (Addr × Obj)} {σ : L2.St} {H : Hp} {s : Shared} {R : It → Hp → Prop} {E : Value → Shared → Prop} {n : Nat} {t u v : Tok} {tk : Nat} (J : Inv X pins σ H s) (hn : n < 1000) (q : R (Itr 0 n) H) :
    wpAny (model X.prog X.w) X.A (pyIter (.ref s.heap.objs.size)) (fun itv s2 => ∃ (it : Addr) (fp : List Addr) (tn : Nat → Heap → Prop) (J : It) (H2 : Hp), itv = .ref it ∧ Inv X pins σ H2 s2 ∧ TurnA X.prog X.w X.K tg J fp it tn ∧ tn 0 s2.heap ∧ (∀ b ∈ fp, FpOk X pins H2 b) ∧ R J H2) E
      { s with heap := s.heap.push { cls := .type "range", data := .fields #[.int 0 t, .int (n : Int) u, .int 1 v] }, toks := tk } := by
  refine wpAny_pyIter_range (IsRange.new ..) (small_one (by omega) (by omega) (by omega) (by omega)) ?_
  have J2 : Inv X pins σ H { s with heap := s.heap.push { cls := .type "range", data := .fields #[.int 0 t, .int (n : Int) u, .int 1 v] }, toks := tk } := J.kept fun b o z => Heap.get?_push_of_some _ z
  refine ⟨(s.heap.push { cls := .type "range", data := .fields #[.int 0 t, .int (n : Int) u, .int 1 v] }).objs.size, [(s.heap.push { cls := .type "range", data := .fields #[.int 0 t, .int (n : Int) u, .int 1 v] }).objs.size], _, _, H, rfl,
    J2.kept (t' := tk) fun b o z => Heap.get?_push_of_some _ z, turnA_range _ n, ?_, fun b hb => ?_, q⟩
  · show IsRangeIter _ _ (((0 : Nat) : Nat) : Int) ((n : Int) - ((0 : Nat) : Int)) 1
    have e2 : Builtin.Range.rangeSize 0 (n : Int) 1 = (n : Int) - ((0 : Nat) : Int) := by rw [rangeSize_one]; split <;> omega
    rw [← e2]
    exact Heap.get?_push_size _ rfl
  · have e := List.mem_singleton.mp hb
    subst e
    exact J2.fpOk (Nat.le_refl _) (J2.hok.fresh (Nat.le_refl _))
theorem pi_rangeA {X : Cx} {tg : Expr} {n : Nat} {j : Nat} {p p2 pos : Pos} (hg : Gl X "range") (hm : X.mg "range" = none) (hn : n < 1000) :
    PIA X tg (.Call (.Name "range" p) [.Constant (.int (n : Int)) j p2] [] pos) (fun _ H R => R (Itr 0 n) H) := by
  refine ⟨fun pins s σ H R J h => ?_⟩
  refine Call_ (ld_blt J hg hm boot_range (PyProof.Rows.callWith_type1 (thn ((pa_cons (pe_int (i := (n : Int)) (j := j) (pos := p2)) pa_nil).run pos pins s σ H (fun vs H1 => vs = [.int (n : Int)] ∧ R (Itr 0 n) H1) J ⟨rfl, h⟩) fun us s1 ⟨vs, H1, J1, r1, e, q⟩ => ?_) rfl rfl))
  subst e
  cases r1 with
  | cons r rr =>
    cases rr
    obtain ⟨t, rfl⟩ := r
    exact call_range_1 (it_rangeA J1 hn q)
/-- the exception at a is handled, its object is pinned -/
structure Held (X : Cx) (a : Addr) (oe : Obj) : Prop where
  pn : (a, oe) ∈ X.pn
  hd : X.A.handled = some (.ref a)
  fld : ∃ vs : Array Value, oe.data = .fields vs ∧ vs[2]? = some .none
theorem Held.hot {X : Cx} {a : Addr} {oe : Obj} (h : Held X a oe) {s : Shared} (e : s.heap.get? a = some oe) : HotAt X.A a s.heap := by
  obtain ⟨vs, h1, h2⟩ := h.fld
  exact ⟨h.hd, oe, vs, e, h1, h2⟩
/-- a list comprehension where an exception is handled -/
theorem pe_lcA {X : Cx} {a : Addr} {oe : Obj} {elt tg iter : Expr} {ifs : List Expr} {scope : Scope} {own : List (Str × Nat)} {pos : Pos} {wi : TI} {g : TG} {tt : TT} {te : TE} (hold : Held X a oe) (nd : X.N.Nodup) (walk : PIA X tg iter wi) (blk : BlkOk X.N X.env.scope scope own)
    (pg : ∀ s H C cl fp, PG (X.blk s H scope (compEnvC scope cl C X.env) fp) tg g) (pt : ∀ s H C cl fp, PTs (X.blk s H scope (compEnvC scope cl C X.env) fp) ifs tt) (pe : ∀ s H C cl fp, PE (X.blk s H scope (compEnvC scope cl C X.env) fp) elt te)
    (plain : ∀ x, foldedSetIterable iter X.env x = pure x := by intro _; rfl) : PE X (.ListComp elt [⟨tg, iter, ifs, 0⟩] scope pos) (tLc wi g tt te (own.map (·.2))) := by
  refine ⟨fun pins s σ H Q J h => ?_⟩
  rw [eval_ListComp]
  have fr : ∀ y ∈ scope.names, y.2 = .free → ∃ c, X.env.cells.lookup y.1 = some c := fun y hy e => by
    rcases blk.free y hy e with z | z
    · exact J.ok.has _ (.inl z)
    · exact J.ok.has _ (.inr z)
  refine wpAny_comprehension_free (use := none) rfl plain (closure_ok fr) blk.kind (fun y hy e => by rw [blk.uniq y hy, e]) (thn (walk.run pins s σ H _ J h) fun _ _ hx => thn hx fun _ s2 h2 => ?_)
  obtain ⟨it, fp, tn, IT, H2, rfl, J2, T, at2, away2, q⟩ := h2
  refine wpAny_newObj_type (newEnv_comp ?_) (by show 0 ≤ sizeLine; decide)
  -- the list that is made
  obtain ⟨L, hL⟩ : ∃ L, s2.heap.objs.size = L := ⟨_, rfl⟩
  rw [hL]
  have noL : H2 L = none := J2.hok.fresh (Nat.le_of_eq hL)
  obtain ⟨W, ⟨m0, w0⟩, turn⟩ := q L noL
  obtain ⟨s3, e3⟩ : ∃ s3 : Shared, s3 = { s2 with heap := s2.heap.push { cls := .type "list", data := .seq ([] : List Value).toArray } } := ⟨_, rfl⟩
  have p3 : s3.heap = s2.heap.push { cls := .type "list", data := .seq ([] : List Value).toArray } := by rw [e3]
  obtain ⟨H3, eH⟩ : ∃ H3, H3 = upd H2 L (.lst []) := ⟨_, rfl⟩
  have J3 : Inv X pins σ H3 s3 := by
    rw [e3, eH]
    refine J2.laid (t' := s2.toks) (fun b o z => Heap.get?_push_of_some _ z) (Nat.le_of_eq hL) ⟨Nat.zero_le _, [], 0, .nil, ?_⟩
    rw [← hL]
    exact Heap.get?_push_size _ rfl
  have away3 : ∀ b ∈ fp, FpOk X pins H3 b ∧ b < s3.heap.objs.size := fun b hb => by
    obtain ⟨o, z, _⟩ := T.objs _ _ at2 b hb
    have lt := Heap.lt_size z
    refine ⟨⟨?_, (away2 b hb).2⟩, by rw [p3, Heap.size_push]; exact Nat.lt_succ_of_lt lt⟩
    rw [eH, upd_ne (by rw [← hL]; exact Nat.ne_of_lt lt)]
    exact (away2 b hb).1
  have at3 : tn 0 s3.heap := T.keep _ _ _ at2 fun b _ o z => by rw [p3]; exact Heap.get?_push_of_some _ z
  -- the block
  have J4 := block_start J3 blk nd away3
  have g4 := pg s3 H3 s3.heap.objs.size (cellsFrom (s3.heap.objs.size + 1) scope.names (cloFrom X.env.cells scope.names [])) fp
  have t4 := pt s3 H3 s3.heap.objs.size (cellsFrom (s3.heap.objs.size + 1) scope.names (cloFrom X.env.cells scope.names [])) fp
  have v4 := pe s3 H3 s3.heap.objs.size (cellsFrom (s3.heap.objs.size + 1) scope.names (cloFrom X.env.cells scope.names [])) fp
  rw [← hL, ← e3]
  show codeAny _ _ (.compStart (.ListComp elt [⟨tg, iter, ifs, 0⟩] scope pos) 0 (.ref it) (.ref s2.heap.objs.size) (compEnvC scope (cellsFrom (s3.heap.objs.size + 1) scope.names (cloFrom X.env.cells scope.names [])) s3.heap.objs.size X.env)) _ { s3 with heap := pushCells (s3.heap.push { cls := .type "dict", data := .dict #[] }) scope.names }
  rw [hL]
  obtain ⟨ce, hce⟩ : ∃ ce, ce = compEnvC scope (cellsFrom (s3.heap.objs.size + 1) scope.names (cloFrom X.env.cells scope.names [])) s3.heap.objs.size X.env := ⟨_, rfl⟩
  have cl : ce.locals = s3.heap.objs.size := by rw [hce]; rfl
  rw [← hce] at J4 g4 t4 v4 ⊢
  obtain ⟨s4, e4⟩ : ∃ s4 : Shared, s4 = { s3 with heap := pushCells (s3.heap.push { cls := .type "dict", data := .dict #[] }) scope.names } := ⟨_, rfl⟩
  rw [← e4] at J4 ⊢
  have at4 : tn 0 s4.heap := T.keep _ _ _ at3 fun b _ o z => by rw [e4]; exact pushCells_keeps _ _ _ _ (Heap.get?_push_of_some _ z)
  -- the exception stands there all the while
  have hp := J3.pin (a, oe) (List.mem_append_left _ hold.pn)
  have hotB : ∀ {ps : List (Addr × Obj)} {σ5 : L2.St} {H5 : Hp} {s5 : Shared}, Inv (X.blk s3 H3 scope ce fp) ps σ5 H5 s5 → HotAt X.A a s5.heap := fun {ps σ5 H5 s5} J5 => by
    refine hold.hot (J5.base.keep a oe hp.1 hp.2.1 (fun z => ?_) fun z => ?_)
    · rcases List.mem_cons.mp (J3.stkSub a z) with z | z
      · exact hp.2.2.1 z
      · exact hp.2.2.2.1 z
    · exact (away3 a z).1.2.2.2.2.2 (a, oe) (List.mem_append_left _ hold.pn) rfl
  have far : ∀ {σ5 : L2.St} {H5 : Hp} {s5 : Shared}, Inv (X.blk s3 H3 scope ce fp) [] σ5 H5 s5 → (∀ b ∈ fp, H5 b = none) → ∀ b ∈ fp, FpOk (X.blk s3 H3 scope ce fp) [] H5 b := fun {σ5 H5 s5} J5 n5 b hb =>
    ⟨n5 b hb, (J5.ok.exf b hb).1, J5.ok.exfs b hb, .inl hb, fun x c z => (J5.ok.exf b hb).2 x c z, fun p hp => absurd (show p ∈ ([] : List (Addr × Obj)) ++ [] from hp) (by simp)⟩
  have go : codeAny (model X.prog X.w) X.A (.compLoop (.ListComp elt [⟨tg, iter, ifs, 0⟩] scope pos) 0 (.ref it) (.ref L) ce) (compPost (model X.prog X.w) X.A X.xe none (EP X pins σ Q) (.ref L) ce.locals) s4 := by
    refine compLoop_any (fun m s5 => ∃ i H5, Inv (X.blk s3 H3 scope ce fp) [] (wipe σ (own.map (·.2))) H5 s5 ∧ tn i s5.heap ∧ (∀ b ∈ fp, H5 b = none) ∧ W i m H5) ?_ m0 ⟨0, H3, J4, at4, fun b hb => (away3 b hb).1.1, by rw [eH]; exact w0⟩
    rintro m s5 ⟨i, H5, J5, at5, n5, w5⟩
    have tw := T.next (X.blk s3 H3 scope ce fp) a rfl rfl rfl i [] s5 _ H5 (fun _ _ => False) (hotB J5) J5 (far J5 n5) at5
    rcases turn i m H5 w5 with ⟨stop, out⟩ | ⟨more, Nx, less, step⟩
    · -- the walk is through: what was known of the def's own frame holds again
      refine thnF (tw.2 stop) fun r s6 ⟨hr, J6⟩ => ?_
      subst hr
      have J7 : Inv X pins σ H5 s6 := J3.call' (ch := fp) J6.os J6.base J6.hok J6.bare fun b hb => by
        obtain ⟨⟨z0, z1, z2, z3, z4, z5⟩, _⟩ := away3 b hb
        exact ⟨z3, z1, z4, z5⟩
      have noC : H5 ce.locals = none := J6.free
      obtain ⟨mm, hn, _⟩ := J6.loc
      refine ⟨mm, hn, fun h2 sb => ?_⟩
      obtain ⟨f0, f1, f2, f3, f4, f5⟩ := J3.fpOk (Nat.le_of_eq cl.symm) noC
      exact ⟨.ref L, H5, J7.turned (t' := s6.toks) (fun b o hb z => (sb.2 b hb).trans z) f0 f1 f3 f4 f5, rfl, out⟩
    · refine thnF (tw.1 more) fun r s6 ⟨u, hr, h6⟩ => ?_
      subst hr
      refine thnF h6 fun _ s7 ⟨x, H7, J7, r7, y7, at7, n7⟩ => ?_
      refine thnF (g4.run _ s7 _ H7 x u _ (J7.pinned (far J7 n7) (T.objs _ _ at7)) r7 (step x H7 y7)) fun _ s8 ⟨σ8, H8, J8, w8, q8⟩ => ?_
      refine thnF (t4.run _ s8 σ8 H8 _ J8 q8) fun yes s9 ⟨H9, J9, q9⟩ => ?_
      have wl : (wipe σ (own.map (·.2))).length = σ8.length := by rw [← w8, wipe_length]
      have over : ∀ {s' : Shared} {H' : Hp}, Inv (X.blk s3 H3 scope ce fp) ([] ++ pinsAt fp s7.heap) σ8 H' s' → Nx H' → ∃ m', m' < m ∧ ∃ i H5, Inv (X.blk s3 H3 scope ce fp) [] (wipe σ (own.map (·.2))) H5 s' ∧ tn i s'.heap ∧ (∀ b ∈ fp, H5 b = none) ∧ W i m' H5 := fun {s' H'} J' nx => by
        obtain ⟨m', lt, w'⟩ := less H' nx
        have same : ∀ b ∈ fp, ∀ o, s7.heap.get? b = some o → s'.heap.get? b = some o ∧ H' b = none := fun b hb o z => by
          obtain ⟨z1, z2, _⟩ := J'.pin (b, o) (List.mem_append_right _ (List.mem_append_right _ (mem_pinsAt hb z)))
          exact ⟨z1, z2⟩
        refine ⟨m', lt, i + 1, H', (J'.unpinned (pins := [])).weak wl (fun j v z => ?_), T.keep _ _ _ at7 fun b hb o z => (same b hb o z).1, fun b hb => ?_, w'⟩
        · rw [← w8] at z
          exact (wipe_some z).1
        · obtain ⟨o, z, _⟩ := T.objs _ _ at7 b hb
          exact (same b hb o z).2
      cases yes with
      | false =>
        rw [if_neg Bool.false_ne_true] at q9 ⊢
        exact over J9 q9
      | true =>
        rw [if_pos rfl] at q9 ⊢
        refine thnF (v4.run _ s9 σ8 H9 _ J9 q9) fun z s10 ⟨y, H10, J10, r10, acc, h10, z10, nx⟩ => ?_
        exact app_ok (X := X.blk s3 H3 scope ce fp) J10 h10 z10 r10 fun s11 J11 => over J11 nx
  rw [← cl]
  exact codeAny_compStart_list go (T.self X.A 0 _ _ _ at4 go)
/-- what a def promises where the exception at a is handled: sp knows it -/
def FnA (P : Program) (w : World) (K : PySem.W.Frag) (mg : Str → Option Value) (base : Heap) (CX : CXT) (k : Nat) (f : Addr) (fd : FuncData) (ps : List Str) (sp : Addr → Obj → Sp) : Prop :=
  ∀ (A : Around) (outer : List Env) (s : Shared) (H : Hp) (args : Args) (us : List Value) (vs : List V) (Q : VK) (E : XK) (a : Addr) (oe : Obj), L2H.RoomH k A → L2H.Hot1 A (a, oe) → L2H.PinOk outer H s (a, oe) → Env0 P w K mg base A outer s H → BindsTo s fd args (ps.zip us) → Vals vs us → sp a oe vs H Q E →
    vs.length = ps.length ∧ codeAny (model P w) A (.call (.ref f) args) (CR CX outer P w H s Q E) s
theorem fnA_of {CX : CXT} {P : Program} {w : World} {K : PySem.W.Frag} {mg : Str → Option Value} {base : Heap} {k : Nat} {f : Addr} {fd : FuncData} {x qual : Str} {params : Arguments} {body : List Stmt} {scope : Scope} {N ps : List Str} {sp : Addr → Obj → Sp} (F : FunD K x qual params body scope [] [] f fd) (S : FnScope N ps scope)
    (len : ∀ a oe vs H Q E, sp a oe vs H Q E → vs.length = ps.length)
    (walk : ∀ (cdv : Value) (A : Around) (outer : List Env) (s : Shared) (H : Hp) (vs : List V) (Q : VK) (E : XK) (a : Addr) (oe : Obj), L2H.Hot1 A (a, oe) → L2H.RoomH k (A.deeper (envOfC qual scope s.heap.objs.size f cdv)) → sp a oe vs H Q E →
      ∃ t, PSs (L2H.cxH CX P w K mg base N qual scope f cdv A outer s H E (a, oe)) body t ∧ t { nx := fun _ H' => Q .non H', rt := Q } (L2.start N vs) H) : FnA P w K mg base CX (k + 1) f fd ps sp := by
  obtain ⟨oc, od, dV, kV, doc, pm, an, cdv, ct, osl, rfl, lk, hcd, _, _⟩ := F.ex
  intro A outer s H args us vs Q E a oe room hot pin ent bnd rel h
  have few := len _ _ _ _ _ _ h
  refine ⟨few, ?_⟩
  have inK : K.In s.heap := ent.mod.kin.keeps fun b o z => (ent.bs b o z).1
  have noLim : s.heap.NoLimit := ent.mod.nolimit.keeps fun b o z => (ent.bs b o z).1
  refine codeAny_call_function room.depth (inK _ _ lk) rfl S.co S.gen rfl (PySem.W.codeRec_of inK hcd) (bnd _ _ _ _ (wpAny_newFunctionEnv_cells S.kind (fun y hy => ?_) fun env he s1 st => ?_))
  · rcases S.par y.1 (List.of_mem_zip hy).1 with z | z
    · exact .inl z
    · exact .inr ⟨z, PySem.W.cellsFrom_some _ _ _ (.inl z)⟩
  subst he
  refine ⟨noLim.keeps st.toInCall.keep, codeAny_func ?_⟩
  obtain ⟨t, ht, hq⟩ := walk cdv A outer s H vs Q E a oe hot (room.deeper _) h
  have J := L2H.inv_startH (CX := CX) (E := E) S pin ent few rel st
  refine wpAny_mono (ht.run [] s1 (L2.start N vs) H _ J hq) (fun fl s2 z => ?_) fun _ _ z => z
  cases fl with
  | ret u =>
    obtain ⟨v, σ2, H2, J2, rv, q⟩ := z
    exact ⟨v, H2, J2.os, J2.bare, J2.base, J2.hok, rv, q⟩
  | next =>
    obtain ⟨σ2, H2, J2, q⟩ := z
    exact ⟨.non, H2, J2.os, J2.bare, J2.base, J2.hok, rfl, q⟩
  | brk =>
    obtain ⟨_, _, _, q⟩ := z
    exact q.elim
  | cont =>
    obtain ⟨_, _, _, q⟩ := z
    exact q.elim
/-- such a def is called in the suite -/
theorem pe_callA {X : Cx} {CX : CXT} {k : Nat} {f a : Addr} {oe : Obj} {fd : FuncData} {ps : List Str} {sp : Addr → Obj → Sp} {x : Str} {q pos : Pos} {e : Expr} {t : TA} (F : FnA X.prog X.w X.K X.mg X.base CX k f fd ps sp) (room : L2H.RoomH k X.A) (hold : Held X a oe) (hg : Gl X x) (hm : X.mg x = some (.ref f))
    (hk : PySem.W.keepIn X.K (.ref f) = true) (bnd : Binds X.K fd ps []) (hp : ps.length = 1) (hx : Passes CX X (fun _ _ _ => False)) (ha : PA X [e] t) (hdb : (x == ("__debug__" : Str)) = false := by decide)
    (he : starEach [e] X.env = (false, eval e X.env) :: starEach [] X.env := by rfl) (hpl : (backTo pos (starEach [] X.env)).any (·.1) = false := by rfl) :
    PE X (.Call (.Name x q) [e] [] pos) (fun σ H Q => t σ H fun vs H1 => vs.length = 1 ∧ sp a oe vs H1 Q (fun _ _ _ => False)) := by
  refine ⟨fun pins s σ H Q J h => ?_⟩
  refine wpAny_Call_Name_kw (ld_glob J hg hm ?_ hdb)
  refine PySem.W.callWith_K (h₀ := X.base) J.ok.mod.kin hk (thn (ha.run pos pins s σ H _ J h) fun us s1 ⟨vs, H1, J1, rel, few, say⟩ => ⟨J1.kIn, ?_⟩) he hpl
  have b := bnd s1 us J1.kIn (by rw [List.append_nil, ← rel.length, few, hp])
  rw [List.append_nil] at b
  obtain ⟨p1, p2, p3, p4, p5⟩ := J1.pin (a, oe) (List.mem_append_left _ hold.pn)
  have pin : L2H.PinOk X.stack H1 s1 (a, oe) := ⟨p1, p2, fun z => (List.mem_cons.mp (J1.stkSub a z)).elim p3 p4, p5⟩
  refine wpAny_call (codeAny_mono (F X.A X.stack s1 H1 ⟨us, []⟩ us vs Q (fun _ _ _ => False) a oe room ⟨hold.hd, hold.fld⟩ pin J1.env0 b rel say).2 fun r s2 z => ?_)
  cases r with
  | error e => exact hx pins σ H1 s1 e s2 J1 z
  | ok fl =>
    cases fl with
    | ret u => exact J1.after z
    | next => exact z.elim
    | brk => exact z.elim
    | cont => exact z.elim
/-- isinstance of the handled exception, one class -/
theorem call_isA {X : Cx} {a C : Addr} {oe : Obj} {d : Option Addr} (hold : Held X a oe) (hc : oe.cls = .ref C) (hd : oe.dict = d) (f : XcF X.K C) : CallR X (.builtin "isinstance") (fun xs H Q => ∃ (c : V) (u : Value) (b : Bool), xs = [.ref a, c] ∧ ClsV c u ∧ (∀ dx, d = some dx → ∃ fs, H dx = some (exd dx fs)) ∧ PySem.W.kitOne X.K (.ref C) u = some b ∧ Q (.bl b) H) := by
  rintro pins s σ H xs us Q J r ⟨c, u, b, rfl, kv, fld, said, z⟩
  obtain ⟨v1, v2, rfl, p1, p2⟩ := vals2 r
  cases kv.eq p2
  cases p1
  obtain ⟨p1, _⟩ := J.pin (a, oe) (List.mem_append_left _ hold.pn)
  obtain ⟨vs, h1, _⟩ := hold.fld
  have nc : PySem.W.notCls oe = true := by unfold PySem.W.notCls; rw [h1]
  have I : ∃ od, PySem.W.InstAt s.heap a oe C od := by
    cases d with
    | none => exact ⟨none, p1, hc, nc, by rw [hd]; trivial⟩
    | some dx =>
      obtain ⟨fs, q⟩ := fld dx rfl
      obtain ⟨mA, ⟨od, es, ep, e1, e2⟩, _⟩ := exd_at J.hok q
      exact ⟨some od, p1, hc, nc, by rw [hd]; exact e1⟩
  obtain ⟨od, I⟩ := I
  exact PySem.W.kia_one (PySem.W.kitx_exc f.hcl f.xf.ga f.xf.gg f.xf.exC f.kc.1.1 f.kc.1.2 f.kc.2.1 f.kc.2.2) J.kIn I said (fun q => nomatch q) fun tk => ⟨.bl b, H, J.tok tk, rfl, z⟩
/-- raise e, e an exception of an own class with fields -/
theorem pmk_exoN {X : Cx} {e : Expr} {te : TE} (hx : X.ex = []) (he : PE X e te) :
    L2N.PMk X e (fun σ H Q => te σ H fun x H1 => ∃ (a C : Addr) (d : Option Addr), x = .ref a ∧ H1 a = some (exo a C d) ∧ Fr0 X.H_0 a ∧ Raises X (.ref C) ∧ Q (.ref C) d (delH H1 a)) := by
  intro pins s σ H Q J h
  refine wpAny_mono (he.run pins s σ H _ J h) (fun u s1 hu => ?_) fun _ _ z => z
  obtain ⟨v, H1, J1, r1, a, C, d, rfl, ha, h0, hr, q⟩ := hu
  cases r1
  obtain ⟨t1, at'⟩ := exo_at J1.hok ha
  obtain ⟨G, gs, ga, J2⟩ := J1.untrack ha h0 hx
  exact ⟨a, _, _, { s1 with heap := G }, delH H1 a, .ref C, d, rfl, J2, gs, ga, at', ⟨rfl, rfl, fun vs e => by cases e; rfl⟩, rfl, rfl, delH_same, rfl, J1.bare, hr, q⟩
end Mir
end

set_option maxHeartbeats 4000000
section
namespace Law_k95
open PySem PySem.Spec PyProof.Rows L2 Mir
noncomputable section

def L : List Kin := [⟨"ReceiptError", true, ["ReceiptError", "ValueError", "Exception", "BaseException", "object"]⟩, ⟨"BadOther", true, ["BadOther", "ReceiptError", "ValueError", "Exception", "BaseException", "object"]⟩, ⟨"NotWish", true, ["NotWish", "ReceiptError", "ValueError", "Exception", "BaseException", "object"]⟩, ⟨"NotFitting", true, ["NotFitting", "ReceiptError", "ValueError", "Exception", "BaseException", "object"]⟩, ⟨"NotMoney", true, ["NotMoney", "ReceiptError", "ValueError", "Exception", "BaseException", "object"]⟩, ⟨"BadTimes", true, ["BadTimes", "ReceiptError", "ValueError", "Exception", "BaseException", "object"]⟩, ⟨"BadBy", true, ["BadBy", "ReceiptError", "ValueError", "Exception", "BaseException", "object"]⟩, ⟨"NoAmounts", true, ["NoAmounts", "ReceiptError", "ValueError", "Exception", "BaseException", "object"]⟩, ⟨"NotEven", true, ["NotEven", "ReceiptError", "ValueError", "Exception", "BaseException", "object"]⟩, ⟨"BadAnswer", true, ["BadAnswer", "ReceiptError", "ValueError", "Exception", "BaseException", "object"]⟩, ⟨"BadWholeText", true, ["BadWholeText", "ReceiptError", "ValueError", "Exception", "BaseException", "object"]⟩, ⟨"BadRing", true, ["BadRing", "ReceiptError", "ValueError", "Exception", "BaseException", "object"]⟩, ⟨"BadRanks", true, ["BadRanks", "ReceiptError", "ValueError", "Exception", "BaseException", "object"]⟩, ⟨"BadFees", true, ["BadFees", "ReceiptError", "ValueError", "Exception", "BaseException", "object"]⟩, ⟨"BadPart", true, ["BadPart", "ReceiptError", "ValueError", "Exception", "BaseException", "object"]⟩, ⟨"BadGuesses", true, ["BadGuesses", "ReceiptError", "ValueError", "Exception", "BaseException", "object"]⟩, ⟨"BadFilling", true, ["BadFilling", "ReceiptError", "ValueError", "Exception", "BaseException", "object"]⟩, ⟨"NoFilling", true, ["NoFilling", "ReceiptError", "ValueError", "Exception", "BaseException", "object"]⟩, ⟨"BadMost", true, ["BadMost", "ReceiptError", "ValueError", "Exception", "BaseException", "object"]⟩, ⟨"BadOthers", true, ["BadOthers", "ReceiptError", "ValueError", "Exception", "BaseException", "object"]⟩, ⟨"BadMany", true, ["BadMany", "ReceiptError", "ValueError", "Exception", "BaseException", "object"]⟩, ⟨"NotSingle", true, ["NotSingle", "ReceiptError", "ValueError", "Exception", "BaseException", "object"]⟩, ⟨"BadEdit", true, ["BadEdit", "ReceiptError", "ValueError", "Exception", "BaseException", "object"]⟩, ⟨"BadDesk", true, ["BadDesk", "ReceiptError", "ValueError", "Exception", "BaseException", "object"]⟩, ⟨"BadDeskText", true, ["BadDeskText", "ReceiptError", "ValueError", "Exception", "BaseException", "object"]⟩, ⟨"NothingToUndo", true, ["NothingToUndo", "ReceiptError", "ValueError", "Exception", "BaseException", "object"]⟩, ⟨"NothingToRedo", true, ["NothingToRedo", "ReceiptError", "ValueError", "Exception", "BaseException", "object"]⟩, ⟨"BadGoods", true, ["BadGoods", "ReceiptError", "ValueError", "Exception", "BaseException", "object"]⟩, ⟨"WrongReceipts", true, ["WrongReceipts", "ReceiptError", "ValueError", "Exception", "BaseException", "object"]⟩, ⟨"BadReceipts", true, ["BadReceipts", "ReceiptError", "ValueError", "Exception", "BaseException", "object"]⟩, ⟨"BadIndex", true, ["BadIndex", "ReceiptError", "ValueError", "Exception", "BaseException", "object"]⟩, ⟨"BadPlaces", true, ["BadPlaces", "ReceiptError", "ValueError", "Exception", "BaseException", "object"]⟩, ⟨"BadPrices", true, ["BadPrices", "ReceiptError", "ValueError", "Exception", "BaseException", "object"]⟩, ⟨"BadBundle", true, ["BadBundle", "ReceiptError", "ValueError", "Exception", "BaseException", "object"]⟩, ⟨"BadMoney", true, ["BadMoney", "ReceiptError", "ValueError", "Exception", "BaseException", "object"]⟩, ⟨"BadGood", true, ["BadGood", "ReceiptError", "ValueError", "Exception", "BaseException", "object"]⟩, ⟨"OneGood", true, ["OneGood", "ReceiptError", "ValueError", "Exception", "BaseException", "object"]⟩, ⟨"BadWeights", true, ["BadWeights", "ReceiptError", "ValueError", "Exception", "BaseException", "object"]⟩, ⟨"BadReceiptsText", true, ["BadReceiptsText", "ReceiptError", "ValueError", "Exception", "BaseException", "object"]⟩, ⟨"BadNumbers", true, ["BadNumbers", "ReceiptError", "ValueError", "Exception", "BaseException", "object"]⟩, ⟨"BadNumbersText", true, ["BadNumbersText", "ReceiptError", "ValueError", "Exception", "BaseException", "object"]⟩, ⟨"NoReceipts", true, ["NoReceipts", "ReceiptError", "ValueError", "Exception", "BaseException", "object"]⟩, ⟨"WrongChoices", true, ["WrongChoices", "ReceiptError", "ValueError", "Exception", "BaseException", "object"]⟩, ⟨"BadChoices", true, ["BadChoices", "ReceiptError", "ValueError", "Exception", "BaseException", "object"]⟩, ⟨"BadMenu", true, ["BadMenu", "ReceiptError", "ValueError", "Exception", "BaseException", "object"]⟩, ⟨"NoLevels", true, ["NoLevels", "ReceiptError", "ValueError", "Exception", "BaseException", "object"]⟩, ⟨"BadThing", true, ["BadThing", "ReceiptError", "ValueError", "Exception", "BaseException", "object"]⟩, ⟨"NotWhole", true, ["NotWhole", "ReceiptError", "ValueError", "Exception", "BaseException", "object"]⟩, ⟨"BadSieves", true, ["BadSieves", "ReceiptError", "ValueError", "Exception", "BaseException", "object"]⟩, ⟨"NotAll", true, ["NotAll", "ReceiptError", "ValueError", "Exception", "BaseException", "object"]⟩, ⟨"BadOrders", true, ["BadOrders", "ReceiptError", "ValueError", "Exception", "BaseException", "object"]⟩, ⟨"NoOrders", true, ["NoOrders", "ReceiptError", "ValueError", "Exception", "BaseException", "object"]⟩, ⟨"WrongRecords", true, ["WrongRecords", "ReceiptError", "ValueError", "Exception", "BaseException", "object"]⟩, ⟨"BadRecords", true, ["BadRecords", "ReceiptError", "ValueError", "Exception", "BaseException", "object"]⟩, ⟨"BadOutput", true, ["BadOutput", "ReceiptError", "ValueError", "Exception", "BaseException", "object"]⟩]
structure En (P : Program) (w : World) (K : PySem.W.Frag) (mg : Str → Option Value) (base : Heap) : Prop where
  cl : ∀ k ∈ L, ClF K k.x (He.ga K k.name)
  n_IndexError : mg "IndexError" = none
  n_KeyError : mg "KeyError" = none
  n_TypeError : mg "TypeError" = none
  n_ValueError : mg "ValueError" = none
  n_abs : mg "abs" = none
  n_all : mg "all" = none
  n_bool : mg "bool" = none
  n_dict : mg "dict" = none
  n_int : mg "int" = none
  n_isinstance : mg "isinstance" = none
  n_len : mg "len" = none
  n_list : mg "list" = none
  n_max : mg "max" = none
  n_range : mg "range" = none
  n_str : mg "str" = none
  n_tuple : mg "tuple" = none
  n_zip : mg "zip" = none
  g_BadAnswer : mg "BadAnswer" = some (.ref (He.ga K "BadAnswer"))
  g_BadBundle : mg "BadBundle" = some (.ref (He.ga K "BadBundle"))
  g_BadBy : mg "BadBy" = some (.ref (He.ga K "BadBy"))
  g_BadChoices : mg "BadChoices" = some (.ref (He.ga K "BadChoices"))
  g_BadDesk : mg "BadDesk" = some (.ref (He.ga K "BadDesk"))
  g_BadDeskText : mg "BadDeskText" = some (.ref (He.ga K "BadDeskText"))
  g_BadEdit : mg "BadEdit" = some (.ref (He.ga K "BadEdit"))
  g_BadFees : mg "BadFees" = some (.ref (He.ga K "BadFees"))
  g_BadFilling : mg "BadFilling" = some (.ref (He.ga K "BadFilling"))
  g_BadGood : mg "BadGood" = some (.ref (He.ga K "BadGood"))
  g_BadGoods : mg "BadGoods" = some (.ref (He.ga K "BadGoods"))
  g_BadGuesses : mg "BadGuesses" = some (.ref (He.ga K "BadGuesses"))
  g_BadIndex : mg "BadIndex" = some (.ref (He.ga K "BadIndex"))
  g_BadMany : mg "BadMany" = some (.ref (He.ga K "BadMany"))
  g_BadMenu : mg "BadMenu" = some (.ref (He.ga K "BadMenu"))
  g_BadMoney : mg "BadMoney" = some (.ref (He.ga K "BadMoney"))
  g_BadMost : mg "BadMost" = some (.ref (He.ga K "BadMost"))
  g_BadNumbers : mg "BadNumbers" = some (.ref (He.ga K "BadNumbers"))
  g_BadNumbersText : mg "BadNumbersText" = some (.ref (He.ga K "BadNumbersText"))
  g_BadOrders : mg "BadOrders" = some (.ref (He.ga K "BadOrders"))
  g_BadOther : mg "BadOther" = some (.ref (He.ga K "BadOther"))
  g_BadOthers : mg "BadOthers" = some (.ref (He.ga K "BadOthers"))
  g_BadOutput : mg "BadOutput" = some (.ref (He.ga K "BadOutput"))
  g_BadPart : mg "BadPart" = some (.ref (He.ga K "BadPart"))
  g_BadPlaces : mg "BadPlaces" = some (.ref (He.ga K "BadPlaces"))
  g_BadPrices : mg "BadPrices" = some (.ref (He.ga K "BadPrices"))
  g_BadRanks : mg "BadRanks" = some (.ref (He.ga K "BadRanks"))
  g_BadReceipts : mg "BadReceipts" = some (.ref (He.ga K "BadReceipts"))
  g_BadReceiptsText : mg "BadReceiptsText" = some (.ref (He.ga K "BadReceiptsText"))
  g_BadRecords : mg "BadRecords" = some (.ref (He.ga K "BadRecords"))
  g_BadRing : mg "BadRing" = some (.ref (He.ga K "BadRing"))
  g_BadSieves : mg "BadSieves" = some (.ref (He.ga K "BadSieves"))
  g_BadThing : mg "BadThing" = some (.ref (He.ga K "BadThing"))
  g_BadTimes : mg "BadTimes" = some (.ref (He.ga K "BadTimes"))
  g_BadWeights : mg "BadWeights" = some (.ref (He.ga K "BadWeights"))
  g_BadWholeText : mg "BadWholeText" = some (.ref (He.ga K "BadWholeText"))
  g_NoAmounts : mg "NoAmounts" = some (.ref (He.ga K "NoAmounts"))
  g_NoFilling : mg "NoFilling" = some (.ref (He.ga K "NoFilling"))
  g_NoLevels : mg "NoLevels" = some (.ref (He.ga K "NoLevels"))
  g_NoOrders : mg "NoOrders" = some (.ref (He.ga K "NoOrders"))
  g_NoReceipts : mg "NoReceipts" = some (.ref (He.ga K "NoReceipts"))
  g_NotAll : mg "NotAll" = some (.ref (He.ga K "NotAll"))
  g_NotEven : mg "NotEven" = some (.ref (He.ga K "NotEven"))
  g_NotFitting : mg "NotFitting" = some (.ref (He.ga K "NotFitting"))
  g_NotMoney : mg "NotMoney" = some (.ref (He.ga K "NotMoney"))
  g_NotSingle : mg "NotSingle" = some (.ref (He.ga K "NotSingle"))
  g_NotWhole : mg "NotWhole" = some (.ref (He.ga K "NotWhole"))
  g_NotWish : mg "NotWish" = some (.ref (He.ga K "NotWish"))
  g_NothingToRedo : mg "NothingToRedo" = some (.ref (He.ga K "NothingToRedo"))
  g_NothingToUndo : mg "NothingToUndo" = some (.ref (He.ga K "NothingToUndo"))
  g_OneGood : mg "OneGood" = some (.ref (He.ga K "OneGood"))
  g_ReceiptError : mg "ReceiptError" = some (.ref (He.ga K "ReceiptError"))
  g_WrongChoices : mg "WrongChoices" = some (.ref (He.ga K "WrongChoices"))
  g_WrongReceipts : mg "WrongReceipts" = some (.ref (He.ga K "WrongReceipts"))
  g_WrongRecords : mg "WrongRecords" = some (.ref (He.ga K "WrongRecords"))
  k_BadAnswer : KitF K (He.ga K) L (.ref (He.ga K "BadAnswer")) "BadAnswer"
  k_BadBundle : KitF K (He.ga K) L (.ref (He.ga K "BadBundle")) "BadBundle"
  k_BadBy : KitF K (He.ga K) L (.ref (He.ga K "BadBy")) "BadBy"
  k_BadChoices : KitF K (He.ga K) L (.ref (He.ga K "BadChoices")) "BadChoices"
  k_BadDesk : KitF K (He.ga K) L (.ref (He.ga K "BadDesk")) "BadDesk"
  k_BadDeskText : KitF K (He.ga K) L (.ref (He.ga K "BadDeskText")) "BadDeskText"
  k_BadEdit : KitF K (He.ga K) L (.ref (He.ga K "BadEdit")) "BadEdit"
  k_BadFees : KitF K (He.ga K) L (.ref (He.ga K "BadFees")) "BadFees"
  k_BadFilling : KitF K (He.ga K) L (.ref (He.ga K "BadFilling")) "BadFilling"
  k_BadGood : KitF K (He.ga K) L (.ref (He.ga K "BadGood")) "BadGood"
  k_BadGoods : KitF K (He.ga K) L (.ref (He.ga K "BadGoods")) "BadGoods"
  k_BadGuesses : KitF K (He.ga K) L (.ref (He.ga K "BadGuesses")) "BadGuesses"
  k_BadIndex : KitF K (He.ga K) L (.ref (He.ga K "BadIndex")) "BadIndex"
  k_BadMany : KitF K (He.ga K) L (.ref (He.ga K "BadMany")) "BadMany"
  k_BadMenu : KitF K (He.ga K) L (.ref (He.ga K "BadMenu")) "BadMenu"
  k_BadMoney : KitF K (He.ga K) L (.ref (He.ga K "BadMoney")) "BadMoney"
  k_BadMost : KitF K (He.ga K) L (.ref (He.ga K "BadMost")) "BadMost"
  k_BadNumbers : KitF K (He.ga K) L (.ref (He.ga K "BadNumbers")) "BadNumbers"
  k_BadNumbersText : KitF K (He.ga K) L (.ref (He.ga K "BadNumbersText")) "BadNumbersText"
  k_BadOrders : KitF K (He.ga K) L (.ref (He.ga K "BadOrders")) "BadOrders"
  k_BadOther : KitF K (He.ga K) L (.ref (He.ga K "BadOther")) "BadOther"
  k_BadOthers : KitF K (He.ga K) L (.ref (He.ga K "BadOthers")) "BadOthers"
  k_BadOutput : KitF K (He.ga K) L (.ref (He.ga K "BadOutput")) "BadOutput"
  k_BadPart : KitF K (He.ga K) L (.ref (He.ga K "BadPart")) "BadPart"
  k_BadPlaces : KitF K (He.ga K) L (.ref (He.ga K "BadPlaces")) "BadPlaces"
  k_BadPrices : KitF K (He.ga K) L (.ref (He.ga K "BadPrices")) "BadPrices"
  k_BadRanks : KitF K (He.ga K) L (.ref (He.ga K "BadRanks")) "BadRanks"
  k_BadReceipts : KitF K (He.ga K) L (.ref (He.ga K "BadReceipts")) "BadReceipts"
  k_BadReceiptsText : KitF K (He.ga K) L (.ref (He.ga K "BadReceiptsText")) "BadReceiptsText"
  k_BadRecords : KitF K (He.ga K) L (.ref (He.ga K "BadRecords")) "BadRecords"
  k_BadRing : KitF K (He.ga K) L (.ref (He.ga K "BadRing")) "BadRing"
  k_BadSieves : KitF K (He.ga K) L (.ref (He.ga K "BadSieves")) "BadSieves"
  k_BadThing : KitF K (He.ga K) L (.ref (He.ga K "BadThing")) "BadThing"
  k_BadTimes : KitF K (He.ga K) L (.ref (He.ga K "BadTimes")) "BadTimes"
  k_BadWeights : KitF K (He.ga K) L (.ref (He.ga K "BadWeights")) "BadWeights"
  k_BadWholeText : KitF K (He.ga K) L (.ref (He.ga K "BadWholeText")) "BadWholeText"
  k_NoAmounts : KitF K (He.ga K) L (.ref (He.ga K "NoAmounts")) "NoAmounts"
  k_NoFilling : KitF K (He.ga K) L (.ref (He.ga K "NoFilling")) "NoFilling"
  k_NoLevels : KitF K (He.ga K) L (.ref (He.ga K "NoLevels")) "NoLevels"
  k_NoOrders : KitF K (He.ga K) L (.ref (He.ga K "NoOrders")) "NoOrders"
  k_NoReceipts : KitF K (He.ga K) L (.ref (He.ga K "NoReceipts")) "NoReceipts"
  k_NotAll : KitF K (He.ga K) L (.ref (He.ga K "NotAll")) "NotAll"
  k_NotEven : KitF K (He.ga K) L (.ref (He.ga K "NotEven")) "NotEven"
  k_NotFitting : KitF K (He.ga K) L (.ref (He.ga K "NotFitting")) "NotFitting"
  k_NotMoney : KitF K (He.ga K) L (.ref (He.ga K "NotMoney")) "NotMoney"
  k_NotSingle : KitF K (He.ga K) L (.ref (He.ga K "NotSingle")) "NotSingle"
  k_NotWhole : KitF K (He.ga K) L (.ref (He.ga K "NotWhole")) "NotWhole"
  k_NotWish : KitF K (He.ga K) L (.ref (He.ga K "NotWish")) "NotWish"
  k_NothingToRedo : KitF K (He.ga K) L (.ref (He.ga K "NothingToRedo")) "NothingToRedo"
  k_NothingToUndo : KitF K (He.ga K) L (.ref (He.ga K "NothingToUndo")) "NothingToUndo"
  k_OneGood : KitF K (He.ga K) L (.ref (He.ga K "OneGood")) "OneGood"
  k_ReceiptError : KitF K (He.ga K) L (.ref (He.ga K "ReceiptError")) "ReceiptError"
  k_WrongChoices : KitF K (He.ga K) L (.ref (He.ga K "WrongChoices")) "WrongChoices"
  k_WrongReceipts : KitF K (He.ga K) L (.ref (He.ga K "WrongReceipts")) "WrongReceipts"
  k_WrongRecords : KitF K (He.ga K) L (.ref (He.ga K "WrongRecords")) "WrongRecords"
  k_IndexError : KitF K (He.ga K) L (.type "IndexError") "IndexError"
  k_KeyError : KitF K (He.ga K) L (.type "KeyError") "KeyError"
  k_TypeError : KitF K (He.ga K) L (.type "TypeError") "TypeError"
  k_ValueError : KitF K (He.ga K) L (.type "ValueError") "ValueError"
  k_bool : KitF K (He.ga K) L (.type "bool") "bool"
  k_dict : KitF K (He.ga K) L (.type "dict") "dict"
  k_int : KitF K (He.ga K) L (.type "int") "int"
  k_list : KitF K (He.ga K) L (.type "list") "list"
  k_str : KitF K (He.ga K) L (.type "str") "str"
  k_tuple : KitF K (He.ga K) L (.type "tuple") "tuple"
  d__law_pick : Df K mg "_law_pick" (top 60)
  d__law_between : Df K mg "_law_between" (top 61)
  d__law_same : Df K mg "_law_same" (top 62)
  d__law_kinds_of : Df K mg "_law_kinds_of" (top 63)
  d__law_others : Df K mg "_law_others" (top 64)
  d__law_is_other : Df K mg "_law_is_other" (top 65)
  d__law_made_a : Df K mg "_law_made_a" (top 66)
  d__law_made_b : Df K mg "_law_made_b" (top 67)
  d__law_made_at : Df K mg "_law_made_at" (top 68)
  d__law_object : Df K mg "_law_object" (top 69)
  d__law_start : Df K mg "_law_start" (top 59)
  d__law_very : Df K mg "_law_very" (top 70)
  d__law_caught : Df K mg "_law_caught" (top 71)
  d_law : Df K mg "law" (top 72)
  mx_BadAnswer : MxC P w K mg base "BadAnswer" "answer" "answer"
  mx_BadBundle : MxC P w K mg base "BadBundle" "bundle" "bundle"
  mx_BadBy : MxC P w K mg base "BadBy" "by" "by"
  mx_BadChoices : MxC P w K mg base "BadChoices" "choices" "choices"
  mx_BadDesk : MxC P w K mg base "BadDesk" "desk" "desk"
  mx_BadDeskText : MxC P w K mg base "BadDeskText" "line" "line"
  mx_BadEdit : MxC P w K mg base "BadEdit" "edit" "edit"
  mx_BadFees : MxC P w K mg base "BadFees" "fees" "fees"
  mx_BadFilling : MxC P w K mg base "BadFilling" "filling" "filling"
  mx_BadGood : MxC P w K mg base "BadGood" "good" "good"
  mx_BadGoods : MxC P w K mg base "BadGoods" "index" "index"
  mx_BadGuesses : MxC P w K mg base "BadGuesses" "guesses" "guesses"
  mx_BadIndex : MxC P w K mg base "BadIndex" "index" "index"
  mx_BadMany : MxC P w K mg base "BadMany" "many" "many"
  mx_BadMenu : MxC P w K mg base "BadMenu" "menu" "menu"
  mx_BadMoney : MxC P w K mg base "BadMoney" "money" "money"
  mx_BadMost : MxC P w K mg base "BadMost" "most" "most"
  mx_BadNumbers : MxC P w K mg base "BadNumbers" "index" "index"
  mx_BadNumbersText : MxC P w K mg base "BadNumbersText" "line" "line"
  mx_BadOrders : MxC P w K mg base "BadOrders" "orders" "orders"
  mx_BadOther : MxC P w K mg base "BadOther" "other" "other"
  mx_BadOthers : MxC P w K mg base "BadOthers" "others" "others"
  mx_BadOutput : MxC P w K mg base "BadOutput" "output" "output"
  mx_BadPart : MxC P w K mg base "BadPart" "part" "part"
  mx_BadPlaces : MxC P w K mg base "BadPlaces" "places" "places"
  mx_BadPrices : MxC P w K mg base "BadPrices" "prices" "prices"
  mx_BadRanks : MxC P w K mg base "BadRanks" "ranks" "ranks"
  mx_BadReceipts : MxC P w K mg base "BadReceipts" "receipts" "receipts"
  mx_BadReceiptsText : MxC P w K mg base "BadReceiptsText" "line" "line"
  mx_BadRecords : MxC P w K mg base "BadRecords" "records" "records"
  mx_BadRing : MxC P w K mg base "BadRing" "ring" "ring"
  mx_BadSieves : MxC P w K mg base "BadSieves" "sieves" "sieves"
  mx_BadThing : MxC P w K mg base "BadThing" "thing" "thing"
  mx_BadTimes : MxC P w K mg base "BadTimes" "times" "times"
  mx_BadWeights : MxC P w K mg base "BadWeights" "weights" "weights"
  mx_BadWholeText : MxC P w K mg base "BadWholeText" "line" "line"
  mx_NoAmounts : MxC P w K mg base "NoAmounts" "index" "index"
  mx_NoFilling : MxC P w K mg base "NoFilling" "guesses" "guesses"
  mx_NoLevels : MxC P w K mg base "NoLevels" "choices" "choices"
  mx_NoOrders : MxC P w K mg base "NoOrders" "choices" "choices"
  mx_NoReceipts : MxC P w K mg base "NoReceipts" "receipts" "receipts"
  mx_NotAll : MxC P w K mg base "NotAll" "choices" "choices"
  mx_NotEven : MxC P w K mg base "NotEven" "numbers" "numbers"
  mx_NotFitting : MxC P w K mg base "NotFitting" "receipts" "receipts"
  mx_NotMoney : MxC P w K mg base "NotMoney" "receipts" "receipts"
  mx_NotSingle : MxC P w K mg base "NotSingle" "choices" "choices"
  mx_NotWhole : MxC P w K mg base "NotWhole" "choices" "choices"
  mx_NotWish : MxC P w K mg base "NotWish" "numbers" "numbers"
  mx_OneGood : MxC P w K mg base "OneGood" "good" "good"
  mx_WrongChoices : MxC P w K mg base "WrongChoices" "index" "index"
  mx_WrongReceipts : MxC P w K mg base "WrongReceipts" "index" "index"
  mx_WrongRecords : MxC P w K mg base "WrongRecords" "index" "index"
  x0_NothingToRedo : PySem.W.excIn K (He.ga K "NothingToRedo") [.type "ValueError", .type "Exception", .type "BaseException", .type "object"] "ValueError.__new__" = true ∧ PySem.W.keepIn K (.ref (He.ga K "NothingToRedo")) = true
  x0_NothingToUndo : PySem.W.excIn K (He.ga K "NothingToUndo") [.type "ValueError", .type "Exception", .type "BaseException", .type "object"] "ValueError.__new__" = true ∧ PySem.W.keepIn K (.ref (He.ga K "NothingToUndo")) = true
  x0_ReceiptError : PySem.W.excIn K (He.ga K "ReceiptError") [.type "ValueError", .type "Exception", .type "BaseException", .type "object"] "ValueError.__new__" = true ∧ PySem.W.keepIn K (.ref (He.ga K "ReceiptError")) = true
  xat_choices : ∀ n ∈ (["NotSingle"] : List Str), XfC K (He.ga K n) ∧ PySem.W.findIn K (.ref (He.ga K n)) "choices" = some none
  xat_desk : ∀ n ∈ (["BadDesk"] : List Str), XfC K (He.ga K n) ∧ PySem.W.findIn K (.ref (He.ga K n)) "desk" = some none
  xat_edit : ∀ n ∈ (["BadEdit"] : List Str), XfC K (He.ga K n) ∧ PySem.W.findIn K (.ref (He.ga K n)) "edit" = some none
  xat_fees : ∀ n ∈ (["BadFees"] : List Str), XfC K (He.ga K n) ∧ PySem.W.findIn K (.ref (He.ga K n)) "fees" = some none
  xat_filling : ∀ n ∈ (["BadFilling"] : List Str), XfC K (He.ga K n) ∧ PySem.W.findIn K (.ref (He.ga K n)) "filling" = some none
  xat_guesses : ∀ n ∈ (["BadGuesses", "NoFilling"] : List Str), XfC K (He.ga K n) ∧ PySem.W.findIn K (.ref (He.ga K n)) "guesses" = some none
  xat_line : ∀ n ∈ (["BadDeskText"] : List Str), XfC K (He.ga K n) ∧ PySem.W.findIn K (.ref (He.ga K n)) "line" = some none
  xat_many : ∀ n ∈ (["BadMany"] : List Str), XfC K (He.ga K n) ∧ PySem.W.findIn K (.ref (He.ga K n)) "many" = some none
  xat_most : ∀ n ∈ (["BadMost"] : List Str), XfC K (He.ga K n) ∧ PySem.W.findIn K (.ref (He.ga K n)) "most" = some none
  xat_others : ∀ n ∈ (["BadOthers"] : List Str), XfC K (He.ga K n) ∧ PySem.W.findIn K (.ref (He.ga K n)) "others" = some none
  xat_part : ∀ n ∈ (["BadPart"] : List Str), XfC K (He.ga K n) ∧ PySem.W.findIn K (.ref (He.ga K n)) "part" = some none
section
variable {P : Program} {w : World} {K : PySem.W.Frag} {mg : Str → Option Value} {base : Heap} {fnv : V → (List D → M D) → Prop}
abbrev N__law_pick : List Str := [("state" : Str), ("many" : Str), ("cell" : Str), ("digit" : Str), ("mixed" : Str)]
def m__law_pick : MS := (S.seq (S.stI 2 (E.bin D.add (E.stI 2) (E.cst (.int 1)))) (S.seq (S.while_ (E.tand (E.tst (E.bin D.eq (E.stI 1) (E.cst (.int 0)))) E.stNe) (S.seq (S.asg 2 (E.un D.absD E.stPop)) (S.seq (S.stI 3 (E.bin D.mod (E.un D.intD (E.bin D.add (E.bin D.add (E.bin D.mul (E.stI 3) (E.cst (.int 6151))) (E.var 2)) (E.cst (.int 5)))) (E.cst (.int 2147483647)))) (S.stI 1 (E.ite (E.tst (E.bin D.ge (E.var 2) (E.bin D.pow (E.cst (.int 10)) (E.cst (.int 18))))) (E.var 2) (E.cst (.int 0))))))) (S.seq (S.cond (E.tst (E.bin D.gt (E.stI 1) (E.cst (.int 0)))) (S.seq (S.asg 3 (E.bin D.mod (E.un D.intD (E.stI 1)) (E.var 1))) (S.seq (S.stI 1 (E.bin D.fdiv (E.stI 1) (E.var 1))) (S.ret (E.var 3)))) S.skip) (S.seq (S.asg 4 (E.bin D.mod (E.un D.intD (E.bin D.pow (E.bin D.add (E.bin D.add (E.stI 3) (E.bin D.mul (E.cst (.int 7907)) (E.stI 2))) (E.cst (.int 104723))) (E.cst (.int 5)))) (E.cst (.int 2147483629)))) (S.ret (E.bin D.mod (E.bin D.mod (E.un D.intD (E.bin D.pow (E.bin D.add (E.bin D.add (E.bin D.mul (E.var 4) (E.cst (.int 48271))) (E.bin D.mul (E.cst (.int 30011)) (E.stI 2))) (E.cst (.int 31))) (E.cst (.int 3)))) (E.cst (.int 1000000007))) (E.var 1)))))))
def F__law_pick : Fn := Fn.mk [.st, .d] 3 false m__law_pick
theorem ok__law_pick (T : En P w K mg base) : Cal P w K mg base "_law_pick" [("state" : Str), ("many" : Str)] 2 (SpF (Ct.of (He.ga K) fnv) F__law_pick .fz) := by
  obtain ⟨fd, F, hg⟩ := T.d__law_pick
  have nd : N__law_pick.Nodup := by decide
  refine Cal.of (N := N__law_pick) (kd := [.st, .d]) (n := 3) (b := false) (m := m__law_pick) (Γ' := []) (mo := .fz) F hg ⟨rfl, rfl, rfl, nd, rfl, by decide +kernel, by decide +kernel⟩ rfl rfl (fun _ _ _ _ _ _ us hl => match us, hl with | [_, _], _ => rfl) (fun h => nomatch h) (fun cdv A outer s H E hr S G0 H0 => ?_)
  have hr2 := hr
  exact (gs_cons (gs_stI (i := 0) (k := 2) (by decide) rfl rfl (.inl rfl) (ge_bin (os_add rfl rfl) (ge_stI (i := 0) (k := 2) (by decide) rfl rfl (.inl rfl)) ge_int))
    (gs_cons (gs_while own_cx (gt_w (gw_and (gt_cmp (os_eq hr.units) (ge_stI (i := 0) (k := 1) (by decide) rfl rfl (.inl rfl)) ge_int (nomark _)) (gw_and1 (gt_stNe (i := 0) hr.units rfl rfl (.inl rfl))))) (gs_post (gs_cons (gs_asg (i := 2) (m := .fz) (by decide) nd rfl (.inl rfl) (ge_b1 oc_abs rfl T.n_abs boot_abs (ge_stPop (i := 0) rfl rfl (.inl rfl) rfl)))
    (gs_cons (gs_stI (i := 0) (k := 3) (by decide) rfl rfl (.inl rfl) (ge_bin (os_mod) (ge_t1 oc_int rfl T.n_int boot_int (ge_bin (os_add rfl rfl) (ge_bin (os_add rfl rfl) (ge_bin (os_mul rfl) (ge_stI (i := 0) (k := 3) (by decide) rfl rfl (.inl rfl)) ge_int) (ge_var (i := 2) rfl rfl (.inl rfl))) ge_int)) ge_int))
    (gs_one (gs_stI (i := 0) (k := 1) (by decide) rfl rfl (.inl rfl) (ge_ite (gt_cmp (os_ge) (ge_var (i := 2) rfl rfl (.inl rfl)) (ge_bin (os_pow) ge_int ge_int) (nomark _)) (ge_var (i := 2) rfl rfl (.inl rfl)) ge_int))))) (fun g => wk_forget 2 (wk_refl) g)))
    (gs_cons (gs_if (gt_cmp (os_gt) (ge_stI (i := 0) (k := 1) (by decide) rfl rfl (.inl rfl)) ge_int (nomark _)) (gs_cons (gs_asg (i := 3) (m := .fz) (by decide) nd rfl (.inl rfl) (ge_bin (os_mod) (ge_t1 oc_int rfl T.n_int boot_int (ge_stI (i := 0) (k := 1) (by decide) rfl rfl (.inl rfl))) (ge_var (i := 1) rfl rfl (.inl rfl))))
    (gs_cons (gs_stI (i := 0) (k := 1) (by decide) rfl rfl (.inl rfl) (ge_bin (os_fdiv) (ge_stI (i := 0) (k := 1) (by decide) rfl rfl (.inl rfl)) (ge_var (i := 1) rfl rfl (.inl rfl))))
    (gs_one (gs_ret (ge_var (i := 3) rfl rfl (.inl rfl)))))) gs_nil)
    (gs_cons (gs_asg (i := 4) (m := .fz) (by decide) nd rfl (.inl rfl) (ge_bin (os_mod) (ge_t1 oc_int rfl T.n_int boot_int (ge_bin (os_pow) (ge_bin (os_add rfl rfl) (ge_bin (os_add rfl rfl) (ge_stI (i := 0) (k := 3) (by decide) rfl rfl (.inl rfl)) (ge_bin (os_mul rfl) ge_int (ge_stI (i := 0) (k := 2) (by decide) rfl rfl (.inl rfl)))) ge_int) ge_int)) ge_int))
    (gs_one (gs_ret (ge_bin (os_mod) (ge_bin (os_mod) (ge_t1 oc_int rfl T.n_int boot_int (ge_bin (os_pow) (ge_bin (os_add rfl rfl) (ge_bin (os_add rfl rfl) (ge_bin (os_mul rfl) (ge_var (i := 4) rfl rfl (.inl rfl)) ge_int) (ge_bin (os_mul rfl) ge_int (ge_stI (i := 0) (k := 2) (by decide) rfl rfl (.inl rfl)))) ge_int) ge_int)) ge_int) (ge_var (i := 1) rfl rfl (.inl rfl)))))))))

abbrev N__law_between : List Str := [("state" : Str), ("low" : Str), ("high" : Str)]
def m__law_between : MS := (S.ret (E.bin D.add (E.var 1) (E.call F__law_pick (E.aval (fun _ => .st) (E.acons (E.bin D.add (E.bin D.max2 (E.bin D.sub (E.var 2) (E.var 1)) (E.cst (.int 0))) (E.cst (.int 1))) E.anil)))))
def F__law_between : Fn := Fn.mk [.st, .d, .d] 0 false m__law_between
theorem ok__law_between (T : En P w K mg base) : Cal P w K mg base "_law_between" [("state" : Str), ("low" : Str), ("high" : Str)] 3 (SpF (Ct.of (He.ga K) fnv) F__law_between .fz) := by
  obtain ⟨fd, F, hg⟩ := T.d__law_between
  have nd : N__law_between.Nodup := by decide
  refine Cal.of (N := N__law_between) (kd := [.st, .d, .d]) (n := 0) (b := false) (m := m__law_between) (Γ' := []) (mo := .fz) F hg ⟨rfl, rfl, rfl, nd, rfl, by decide +kernel, by decide +kernel⟩ rfl rfl (fun _ _ _ _ _ _ us hl => match us, hl with | [_, _, _], _ => rfl) (fun h => nomatch h) (fun cdv A outer s H E hr S G0 H0 => ?_)
  have hr2 := hr
  exact (gs_one (gs_ret (ge_bin (os_add rfl rfl) (ge_var (i := 1) rfl rfl (.inl rfl)) (ge_callC (ok__law_pick T) (hr.mono (by decide)) rfl passes_cx (ga_st (i := 0) rfl (ga_cons (ge_bin (os_add rfl rfl) (ge_b2 (oc_max2 rfl) rfl T.n_max boot_max (ge_bin (os_sub) (ge_var (i := 2) rfl rfl (.inl rfl)) (ge_var (i := 1) rfl rfl (.inl rfl))) ge_int) ge_int) ga_nil) rfl (.inl rfl))))))

abbrev N__law_same : List Str := [("found" : Str), ("due" : Str), ("key" : Str), ("mine" : Str), ("theirs" : Str)]
def m__law_same (R : Fn) : MS := (S.seq (S.cond (E.tst (E.un (D.isaD L ["list", "tuple"]) (E.var 1))) (S.seq (S.cond (E.tor (E.tst (E.bin D.ne (E.un (D.isaD L ["list"]) (E.var 0)) (E.un (D.isaD L ["list"]) (E.var 1)))) (E.tst (E.bin D.ne (E.un (D.isaD L ["tuple"]) (E.var 0)) (E.un (D.isaD L ["tuple"]) (E.var 1))))) (S.ret (E.cst (.bl false))) S.skip) (S.ret (E.and (E.bin D.eq (E.un D.lenD (E.var 0)) (E.un D.lenD (E.var 1))) (E.un D.allD (E.comp (E.it2 D.zip (E.var 0) (E.var 1)) (bindT [3, 4]) E.yes (E.call R (E.acons (E.var 3) (E.acons (E.var 4) E.anil)))))))) S.skip) (S.seq (S.cond (E.tst (E.un (D.isaD L ["dict"]) (E.var 1))) (S.seq (S.cond (E.tor (E.tnot (E.tst (E.un (D.isaD L ["dict"]) (E.var 0)))) (E.tnot (E.tst (E.call R (E.acons (E.un D.listD (E.var 0)) (E.acons (E.un D.listD (E.var 1)) E.anil)))))) (S.ret (E.cst (.bl false))) S.skip) (S.ret (E.un D.allD (E.comp (E.keysV 1) (bind1 2) E.yes (E.call R (E.acons (E.bin D.idx (E.var 0) (E.var 2)) (E.acons (E.bin D.idx (E.var 1) (E.var 2)) E.anil))))))) S.skip) (S.seq (S.cond (E.tst (E.bin D.isN (E.var 1) (E.cst .non))) (S.ret (E.bin D.isN (E.var 0) (E.cst .non))) S.skip) (S.seq (S.cond (E.tst (E.un (D.isaD L ["bool"]) (E.var 1))) (S.ret (E.and (E.un (D.isaD L ["bool"]) (E.var 0)) (E.bin D.eq (E.var 0) (E.var 1)))) S.skip) (S.seq (S.cond (E.tst (E.un (D.isaD L ["int"]) (E.var 1))) (S.ret (E.and (E.un (D.isaD L ["int"]) (E.var 0)) (E.and (E.not (E.un (D.isaD L ["bool"]) (E.var 0))) (E.bin D.eq (E.var 0) (E.var 1))))) S.skip) (S.ret (E.and (E.un (D.isaD L ["str"]) (E.var 0)) (E.bin D.eq (E.var 0) (E.var 1)))))))))
def F__law_same : Nat → Fn
  | 0 => Fn.mk [.d, .d] 3 false (fun _ => M.stuck)
  | i + 1 => Fn.mk [.d, .d] 3 false (m__law_same (F__law_same i))
theorem ok__law_same (T : En P w K mg base) : ∀ i : Nat, Cal P w K mg base "_law_same" [("found" : Str), ("due" : Str)] (2 + i) (SpF (Ct.of (He.ga K) fnv) (F__law_same i) .fz)
  | 0 => by
    obtain ⟨fd, F, hg⟩ := T.d__law_same
    have nd : N__law_same.Nodup := by decide
    exact Cal.of (N := N__law_same) (kd := [.d, .d]) (n := 3) (b := false) (m := fun _ => M.stuck) (Γ' := []) (mo := .fz) F hg ⟨rfl, rfl, rfl, nd, rfl, by decide +kernel, by decide +kernel⟩ rfl rfl (fun _ _ _ _ _ _ us hl => match us, hl with | [_, _], _ => rfl) (fun h => nomatch h) (fun cdv A outer s H E hr S G0 H0 => gss_any)
  | i + 1 => by
    obtain ⟨fd, F, hg⟩ := T.d__law_same
    have nd : N__law_same.Nodup := by decide
    have ih := ok__law_same T i
    refine Cal.of (N := N__law_same) (kd := [.d, .d]) (n := 3) (b := false) (m := m__law_same (F__law_same i)) (Γ' := []) (mo := .fz) F hg ⟨rfl, rfl, rfl, nd, rfl, by decide +kernel, by decide +kernel⟩ rfl rfl (fun _ _ _ _ _ _ us hl => match us, hl with | [_, _], _ => rfl) (fun h => nomatch h) (fun cdv A outer s H E hr S G0 H0 => ?_)
    have hr2 : Room (2 + _) _ := hr.mono (show 2 + 0 ≤ 2 + i by omega)
    exact (gs_cons (gs_if (gt_val (ge_isaT (L := L) (ts := ["list", "tuple"]) (pa_cls (pe_bltn (v := .ty "list") rfl T.n_list boot_list rfl) (pa_cls (pe_bltn (v := .ty "tuple") rfl T.n_tuple boot_tuple rfl) pa_cls0)) (.cons (.ty _) (.cons (.ty _) .nil)) (.cons T.k_list (.cons T.k_tuple .nil)) T.cl (sz (n := 2)) rfl T.n_isinstance (ge_var (i := 1) rfl rfl (.inr (.inl rfl))))) (gs_cons (gs_if (gt_w (gw_or (gt_cmp (os_ne hr.units) (ge_isa1 (L := L) (t := "list") (pe_bltn (v := .ty "list") rfl T.n_list boot_list rfl) (.ty _) T.k_list T.cl rfl T.n_isinstance (ge_var (i := 0) rfl rfl (.inr (.inl rfl)))) (ge_isa1 (L := L) (t := "list") (pe_bltn (v := .ty "list") rfl T.n_list boot_list rfl) (.ty _) T.k_list T.cl rfl T.n_isinstance (ge_var (i := 1) rfl rfl (.inr (.inl rfl)))) (nomark _)) (gw_or1 (gt_cmp (os_ne hr.units) (ge_isa1 (L := L) (t := "tuple") (pe_bltn (v := .ty "tuple") rfl T.n_tuple boot_tuple rfl) (.ty _) T.k_tuple T.cl rfl T.n_isinstance (ge_var (i := 0) rfl rfl (.inr (.inl rfl)))) (ge_isa1 (L := L) (t := "tuple") (pe_bltn (v := .ty "tuple") rfl T.n_tuple boot_tuple rfl) (.ty _) T.k_tuple T.cl rfl T.n_isinstance (ge_var (i := 1) rfl rfl (.inr (.inl rfl)))) (nomark _))))) (gs_one (gs_ret ge_bl)) gs_nil)
    (gs_one (gs_ret (ge_and (ge_cmp (os_eq hr.units) (ge_b1 oc_len rfl T.n_len boot_len (ge_var (i := 0) rfl rfl (.inr (.inl rfl)))) (ge_b1 oc_len rfl T.n_len boot_len (ge_var (i := 1) rfl rfl (.inr (.inl rfl)))) (nomark _)) (ge_one (ge_b1 (oc_all rfl) rfl T.n_all boot_all (ge_comp (own := [("mine", 3), ("theirs", 4)]) (m := .fz) rfl nd (gi_vw (gi_zip rfl T.n_zip (ge_var (i := 0) rfl rfl (.inr (.inl rfl))) (ge_var (i := 1) rfl rfl (.inr (.inl rfl))))) (blkOk_by (by kernel_rfl)) (by decide) (fun _ _ _ _ _ => (gtg_tup (is := [3, 4]) rfl (gts_cons (i := 3) (by decide) nd rfl (.inl rfl) (gts_cons (i := 4) (by decide) nd rfl (.inl rfl) gts_nil)) rfl)) (fun _ _ _ _ _ => gts_yes) (fun _ _ _ _ _ => (ge_callC ih hr rfl passL (ga_cons (ge_var (i := 3) rfl rfl (.inl rfl)) (ga_cons (ge_var (i := 4) rfl rfl (.inl rfl)) ga_nil))))))))))) gs_nil)
    (gs_cons (gs_if (gt_val (ge_isa1 (L := L) (t := "dict") (pe_bltn (v := .ty "dict") rfl T.n_dict boot_dict rfl) (.ty _) T.k_dict T.cl rfl T.n_isinstance (ge_var (i := 1) rfl rfl (.inr (.inl rfl))))) (gs_cons (gs_if (gt_w (gw_or (gt_not (gt_val (ge_isa1 (L := L) (t := "dict") (pe_bltn (v := .ty "dict") rfl T.n_dict boot_dict rfl) (.ty _) T.k_dict T.cl rfl T.n_isinstance (ge_var (i := 0) rfl rfl (.inr (.inl rfl)))))) (gw_or1 (gt_not (gt_val (ge_callC ih hr rfl passes_cx (ga_cons (ge_fz (ge_t1 (oc_list rfl rfl) rfl T.n_list boot_list (ge_var (i := 0) rfl rfl (.inr (.inl rfl))))) (ga_cons (ge_fz (ge_t1 (oc_list rfl rfl) rfl T.n_list boot_list (ge_var (i := 1) rfl rfl (.inr (.inl rfl))))) ga_nil)))))))) (gs_one (gs_ret ge_bl)) gs_nil)
    (gs_one (gs_ret (ge_b1 (oc_all rfl) rfl T.n_all boot_all (ge_compD (i := 1) (own := [("key", 2)]) (m := .fz) rfl rfl rfl (.inr (.inl rfl)) rfl nd (blkOk_by (by kernel_rfl)) (by decide) (fun _ _ _ _ _ _ _ => (gtg_name (i := 2) (by decide) nd rfl (.inl rfl))) (fun _ _ _ _ _ _ _ => gts_yes) (fun _ _ _ _ _ _ _ => (ge_callC ih hr rfl passL (ga_cons (ge_idx hr.u1 rfl (ge_var (i := 0) rfl rfl (.inr (.inl rfl))) (ge_var (i := 2) rfl rfl (.inl rfl)) (fun _ _ => rfl)) (ga_cons (ge_idx hr.u1 rfl (ge_var (i := 1) rfl rfl (.inr (.inl rfl))) (ge_var (i := 2) rfl rfl (.inl rfl)) (fun _ _ => rfl)) ga_nil))))))))) gs_nil)
    (gs_cons (gs_if (gt_cmp (os_isN) (ge_var (i := 1) rfl rfl (.inr (.inl rfl))) ge_non (nomark _)) (gs_one (gs_ret (ge_cmp (os_isN) (ge_var (i := 0) rfl rfl (.inr (.inl rfl))) ge_non (nomark _)))) gs_nil)
    (gs_cons (gs_if (gt_val (ge_isa1 (L := L) (t := "bool") (pe_bltn (v := .ty "bool") rfl T.n_bool boot_bool rfl) (.ty _) T.k_bool T.cl rfl T.n_isinstance (ge_var (i := 1) rfl rfl (.inr (.inl rfl))))) (gs_one (gs_ret (ge_and (ge_isa1 (L := L) (t := "bool") (pe_bltn (v := .ty "bool") rfl T.n_bool boot_bool rfl) (.ty _) T.k_bool T.cl rfl T.n_isinstance (ge_var (i := 0) rfl rfl (.inr (.inl rfl)))) (ge_one (ge_cmp (os_eq hr.units) (ge_var (i := 0) rfl rfl (.inr (.inl rfl))) (ge_var (i := 1) rfl rfl (.inr (.inl rfl))) (nomark _)))))) gs_nil)
    (gs_cons (gs_if (gt_val (ge_isa1 (L := L) (t := "int") (pe_bltn (v := .ty "int") rfl T.n_int boot_int rfl) (.ty _) T.k_int T.cl rfl T.n_isinstance (ge_var (i := 1) rfl rfl (.inr (.inl rfl))))) (gs_one (gs_ret (ge_and (ge_isa1 (L := L) (t := "int") (pe_bltn (v := .ty "int") rfl T.n_int boot_int rfl) (.ty _) T.k_int T.cl rfl T.n_isinstance (ge_var (i := 0) rfl rfl (.inr (.inl rfl)))) (ge_and (ge_not (ge_isa1 (L := L) (t := "bool") (pe_bltn (v := .ty "bool") rfl T.n_bool boot_bool rfl) (.ty _) T.k_bool T.cl rfl T.n_isinstance (ge_var (i := 0) rfl rfl (.inr (.inl rfl))))) (ge_one (ge_cmp (os_eq hr.units) (ge_var (i := 0) rfl rfl (.inr (.inl rfl))) (ge_var (i := 1) rfl rfl (.inr (.inl rfl))) (nomark _))))))) gs_nil)
    (gs_one (gs_ret (ge_and (ge_isa1 (L := L) (t := "str") (pe_bltn (v := .ty "str") rfl T.n_str boot_str rfl) (.ty _) T.k_str T.cl rfl T.n_isinstance (ge_var (i := 0) rfl rfl (.inr (.inl rfl)))) (ge_one (ge_cmp (os_eq hr.units) (ge_var (i := 0) rfl rfl (.inr (.inl rfl))) (ge_var (i := 1) rfl rfl (.inr (.inl rfl))) (nomark _)))))))))))

abbrev N__law_kinds_of : List Str := [("e" : Str), ("told" : Str), ("k" : Str)]
def m__law_kinds_of : MS := (S.seq (S.asg 1 (E.list (E.dcons (E.un (D.isaD L ["BadFees"]) (E.var 0)) (E.dcons (E.un (D.isaD L ["BadPart"]) (E.var 0)) (E.dcons (E.un (D.isaD L ["BadGuesses"]) (E.var 0)) (E.dcons (E.un (D.isaD L ["BadFilling"]) (E.var 0)) E.dnil)))))) (S.seq (S.extend 1 (E.list (E.dcons (E.un (D.isaD L ["NoFilling"]) (E.var 0)) (E.dcons (E.un (D.isaD L ["BadMost"]) (E.var 0)) (E.dcons (E.un (D.isaD L ["BadOthers"]) (E.var 0)) (E.dcons (E.un (D.isaD L ["BadMany"]) (E.var 0)) E.dnil)))))) (S.seq (S.extend 1 (E.list (E.dcons (E.un (D.isaD L ["NotSingle"]) (E.var 0)) (E.dcons (E.un (D.isaD L ["BadEdit"]) (E.var 0)) (E.dcons (E.un (D.isaD L ["BadDesk"]) (E.var 0)) (E.dcons (E.un (D.isaD L ["BadDeskText"]) (E.var 0)) E.dnil)))))) (S.seq (S.extend 1 (E.list (E.dcons (E.un (D.isaD L ["NothingToUndo"]) (E.var 0)) (E.dcons (E.un (D.isaD L ["NothingToRedo"]) (E.var 0)) E.dnil)))) (S.ret (E.comp (E.it1 D.range1 (E.cst (.int 14))) (bind1 2) (E.tst (E.bin D.idx (E.var 1) (E.var 2))) (E.var 2)))))))
def F__law_kinds_of : Fn := Fn.mk [.d] 2 false m__law_kinds_of
theorem ok__law_kinds_of (T : En P w K mg base) : Cal P w K mg base "_law_kinds_of" [("e" : Str)] 2 (SpF (Ct.of (He.ga K) fnv) F__law_kinds_of .fz) := by
  obtain ⟨fd, F, hg⟩ := T.d__law_kinds_of
  have nd : N__law_kinds_of.Nodup := by decide
  refine Cal.of (N := N__law_kinds_of) (kd := [.d]) (n := 2) (b := false) (m := m__law_kinds_of) (Γ' := []) (mo := .fz) F hg ⟨rfl, rfl, rfl, nd, rfl, by decide +kernel, by decide +kernel⟩ rfl rfl (fun _ _ _ _ _ _ us hl => match us, hl with | [_], _ => rfl) (fun h => nomatch h) (fun cdv A outer s H E hr S G0 H0 => ?_)
  have hr2 := hr
  exact (gs_cons (gs_asg (i := 1) (m := (.lst .fz)) (by decide) nd rfl (.inr rfl) (ge_list (n := 4) (m := .fz) sz (gd_cons (ge_isa1 (L := L) (t := "BadFees") (pe_glob (v := .ref (He.ga K "BadFees")) rfl T.g_BadFees rfl) (.own _) T.k_BadFees T.cl rfl T.n_isinstance (ge_var (i := 0) rfl rfl (.inl rfl))) (gd_cons (ge_isa1 (L := L) (t := "BadPart") (pe_glob (v := .ref (He.ga K "BadPart")) rfl T.g_BadPart rfl) (.own _) T.k_BadPart T.cl rfl T.n_isinstance (ge_var (i := 0) rfl rfl (.inl rfl))) (gd_cons (ge_isa1 (L := L) (t := "BadGuesses") (pe_glob (v := .ref (He.ga K "BadGuesses")) rfl T.g_BadGuesses rfl) (.own _) T.k_BadGuesses T.cl rfl T.n_isinstance (ge_var (i := 0) rfl rfl (.inl rfl))) (gd_cons (ge_isa1 (L := L) (t := "BadFilling") (pe_glob (v := .ref (He.ga K "BadFilling")) rfl T.g_BadFilling rfl) (.own _) T.k_BadFilling T.cl rfl T.n_isinstance (ge_var (i := 0) rfl rfl (.inl rfl))) gd_nil))))))
    (gs_cons (gs_extendW (i := 1) rfl rfl (ge_list (n := 4) (m := .fz) sz (gd_cons (ge_isa1 (L := L) (t := "NoFilling") (pe_glob (v := .ref (He.ga K "NoFilling")) rfl T.g_NoFilling rfl) (.own _) T.k_NoFilling T.cl rfl T.n_isinstance (ge_var (i := 0) rfl rfl (.inl rfl))) (gd_cons (ge_isa1 (L := L) (t := "BadMost") (pe_glob (v := .ref (He.ga K "BadMost")) rfl T.g_BadMost rfl) (.own _) T.k_BadMost T.cl rfl T.n_isinstance (ge_var (i := 0) rfl rfl (.inl rfl))) (gd_cons (ge_isa1 (L := L) (t := "BadOthers") (pe_glob (v := .ref (He.ga K "BadOthers")) rfl T.g_BadOthers rfl) (.own _) T.k_BadOthers T.cl rfl T.n_isinstance (ge_var (i := 0) rfl rfl (.inl rfl))) (gd_cons (ge_isa1 (L := L) (t := "BadMany") (pe_glob (v := .ref (He.ga K "BadMany")) rfl T.g_BadMany rfl) (.own _) T.k_BadMany T.cl rfl T.n_isinstance (ge_var (i := 0) rfl rfl (.inl rfl))) gd_nil))))) rfl (.inr (.inl rfl)))
    (gs_cons (gs_extendW (i := 1) rfl rfl (ge_list (n := 4) (m := .fz) sz (gd_cons (ge_isa1 (L := L) (t := "NotSingle") (pe_glob (v := .ref (He.ga K "NotSingle")) rfl T.g_NotSingle rfl) (.own _) T.k_NotSingle T.cl rfl T.n_isinstance (ge_var (i := 0) rfl rfl (.inl rfl))) (gd_cons (ge_isa1 (L := L) (t := "BadEdit") (pe_glob (v := .ref (He.ga K "BadEdit")) rfl T.g_BadEdit rfl) (.own _) T.k_BadEdit T.cl rfl T.n_isinstance (ge_var (i := 0) rfl rfl (.inl rfl))) (gd_cons (ge_isa1 (L := L) (t := "BadDesk") (pe_glob (v := .ref (He.ga K "BadDesk")) rfl T.g_BadDesk rfl) (.own _) T.k_BadDesk T.cl rfl T.n_isinstance (ge_var (i := 0) rfl rfl (.inl rfl))) (gd_cons (ge_isa1 (L := L) (t := "BadDeskText") (pe_glob (v := .ref (He.ga K "BadDeskText")) rfl T.g_BadDeskText rfl) (.own _) T.k_BadDeskText T.cl rfl T.n_isinstance (ge_var (i := 0) rfl rfl (.inl rfl))) gd_nil))))) rfl (.inr (.inl rfl)))
    (gs_cons (gs_extendW (i := 1) rfl rfl (ge_list (n := 2) (m := .fz) sz (gd_cons (ge_isa1 (L := L) (t := "NothingToUndo") (pe_glob (v := .ref (He.ga K "NothingToUndo")) rfl T.g_NothingToUndo rfl) (.own _) T.k_NothingToUndo T.cl rfl T.n_isinstance (ge_var (i := 0) rfl rfl (.inl rfl))) (gd_cons (ge_isa1 (L := L) (t := "NothingToRedo") (pe_glob (v := .ref (He.ga K "NothingToRedo")) rfl T.g_NothingToRedo rfl) (.own _) T.k_NothingToRedo T.cl rfl T.n_isinstance (ge_var (i := 0) rfl rfl (.inl rfl))) gd_nil))) rfl (.inr (.inl rfl)))
    (gs_one (gs_ret (ge_fz (ge_comp (own := [("k", 2)]) (m := .fz) rfl nd (gi_vw (gi_range1 rfl T.n_range ge_int)) (blkOk_by (by kernel_rfl)) (by decide) (fun _ _ _ _ _ => (gtg_name (i := 2) (by decide) nd rfl (.inl rfl))) (fun _ _ _ _ _ => (gts_if (gt_val (ge_idx hr.u1 rfl (ge_varV (i := 1) rfl rfl (.inr (.inl rfl))) (ge_var (i := 2) rfl rfl (.inl rfl)) (fun _ _ => rfl))))) (fun _ _ _ _ _ => (ge_var (i := 2) rfl rfl (.inl rfl)))))))))))

abbrev N__law_others : List Str := [("x" : Str), ("told" : Str)]
def m__law_others : MS := (S.seq (S.asg 1 (E.list (E.dcons (E.un (D.mkX "BadOther" "other") (E.var 0)) (E.dcons (E.un (D.mkX "NotWish" "numbers") (E.var 0)) (E.dcons (E.un (D.mkX "NotFitting" "receipts") (E.var 0)) (E.dcons (E.un (D.mkX "NotMoney" "receipts") (E.var 0)) (E.dcons (E.un (D.mkX "BadTimes" "times") (E.var 0)) (E.dcons (E.un (D.mkX "BadBy" "by") (E.var 0)) (E.dcons (E.un (D.mkX "NoAmounts" "index") (E.var 0)) (E.dcons (E.un (D.mkX "NotEven" "numbers") (E.var 0)) E.dnil)))))))))) (S.seq (S.extend 1 (E.list (E.dcons (E.un (D.mkX "BadAnswer" "answer") (E.var 0)) (E.dcons (E.un (D.mkX "BadWholeText" "line") (E.var 0)) (E.dcons (E.un (D.mkX "BadRing" "ring") (E.var 0)) (E.dcons (E.un (D.mkX "BadRanks" "ranks") (E.var 0)) (E.dcons (E.un (D.mkX "BadGoods" "index") (E.var 0)) (E.dcons (E.un (D.mkX "WrongReceipts" "index") (E.var 0)) (E.dcons (E.un (D.mkX "BadReceipts" "receipts") (E.var 0)) (E.dcons (E.un (D.mkX "BadIndex" "index") (E.var 0)) E.dnil)))))))))) (S.seq (S.extend 1 (E.list (E.dcons (E.un (D.mkX "BadPlaces" "places") (E.var 0)) (E.dcons (E.un (D.mkX "BadPrices" "prices") (E.var 0)) (E.dcons (E.un (D.mkX "BadBundle" "bundle") (E.var 0)) (E.dcons (E.un (D.mkX "BadMoney" "money") (E.var 0)) (E.dcons (E.un (D.mkX "BadGood" "good") (E.var 0)) (E.dcons (E.un (D.mkX "OneGood" "good") (E.var 0)) (E.dcons (E.un (D.mkX "BadWeights" "weights") (E.var 0)) (E.dcons (E.un (D.mkX "BadReceiptsText" "line") (E.var 0)) E.dnil)))))))))) (S.seq (S.extend 1 (E.list (E.dcons (E.un (D.mkX "BadNumbers" "index") (E.var 0)) (E.dcons (E.un (D.mkX "BadNumbersText" "line") (E.var 0)) (E.dcons (E.un (D.mkX "NoReceipts" "receipts") (E.var 0)) (E.dcons (E.un (D.mkX "WrongChoices" "index") (E.var 0)) (E.dcons (E.un (D.mkX "BadChoices" "choices") (E.var 0)) (E.dcons (E.un (D.mkX "BadMenu" "menu") (E.var 0)) (E.dcons (E.un (D.mkX "NoLevels" "choices") (E.var 0)) (E.dcons (E.un (D.mkX "BadThing" "thing") (E.var 0)) E.dnil)))))))))) (S.seq (S.extend 1 (E.list (E.dcons (E.un (D.mkX "NotWhole" "choices") (E.var 0)) (E.dcons (E.un (D.mkX "BadSieves" "sieves") (E.var 0)) (E.dcons (E.un (D.mkX "NotAll" "choices") (E.var 0)) (E.dcons (E.un (D.mkX "BadOrders" "orders") (E.var 0)) (E.dcons (E.un (D.mkX "NoOrders" "choices") (E.var 0)) (E.dcons (E.un (D.mkX "WrongRecords" "index") (E.var 0)) (E.dcons (E.un (D.mkX "BadRecords" "records") (E.var 0)) (E.dcons (E.un (D.mkX "BadOutput" "output") (E.var 0)) E.dnil)))))))))) (S.ret (E.var 1)))))))
def F__law_others : Fn := Fn.mk [.d] 1 false m__law_others
theorem ok__law_others (T : En P w K mg base) : Cal P w K mg base "_law_others" [("x" : Str)] 3 (SpF (Ct.of (He.ga K) fnv) F__law_others .fz) := by
  obtain ⟨fd, F, hg⟩ := T.d__law_others
  have nd : N__law_others.Nodup := by decide
  refine Cal.of (N := N__law_others) (kd := [.d]) (n := 1) (b := false) (m := m__law_others) (Γ' := []) (mo := .fz) F hg ⟨rfl, rfl, rfl, nd, rfl, by decide +kernel, by decide +kernel⟩ rfl rfl (fun _ _ _ _ _ _ us hl => match us, hl with | [_], _ => rfl) (fun h => nomatch h) (fun cdv A outer s H E hr S G0 H0 => ?_)
  have hr2 := hr
  exact (gs_cons (gs_asg (i := 1) (m := (.lst .fz)) (by decide) nd rfl (.inl rfl) (ge_list (n := 8) (m := .fz) sz (gd_cons (T.mx_BadOther.ge rfl hr2 rfl T.g_BadOther (ge_var (i := 0) rfl rfl (.inl rfl))) (gd_cons (T.mx_NotWish.ge rfl hr2 rfl T.g_NotWish (ge_var (i := 0) rfl rfl (.inl rfl))) (gd_cons (T.mx_NotFitting.ge rfl hr2 rfl T.g_NotFitting (ge_var (i := 0) rfl rfl (.inl rfl))) (gd_cons (T.mx_NotMoney.ge rfl hr2 rfl T.g_NotMoney (ge_var (i := 0) rfl rfl (.inl rfl))) (gd_cons (T.mx_BadTimes.ge rfl hr2 rfl T.g_BadTimes (ge_var (i := 0) rfl rfl (.inl rfl))) (gd_cons (T.mx_BadBy.ge rfl hr2 rfl T.g_BadBy (ge_var (i := 0) rfl rfl (.inl rfl))) (gd_cons (T.mx_NoAmounts.ge rfl hr2 rfl T.g_NoAmounts (ge_var (i := 0) rfl rfl (.inl rfl))) (gd_cons (T.mx_NotEven.ge rfl hr2 rfl T.g_NotEven (ge_var (i := 0) rfl rfl (.inl rfl))) gd_nil))))))))))
    (gs_cons (gs_extendW (i := 1) rfl rfl (ge_list (n := 8) (m := .fz) sz (gd_cons (T.mx_BadAnswer.ge rfl hr2 rfl T.g_BadAnswer (ge_var (i := 0) rfl rfl (.inl rfl))) (gd_cons (T.mx_BadWholeText.ge rfl hr2 rfl T.g_BadWholeText (ge_var (i := 0) rfl rfl (.inl rfl))) (gd_cons (T.mx_BadRing.ge rfl hr2 rfl T.g_BadRing (ge_var (i := 0) rfl rfl (.inl rfl))) (gd_cons (T.mx_BadRanks.ge rfl hr2 rfl T.g_BadRanks (ge_var (i := 0) rfl rfl (.inl rfl))) (gd_cons (T.mx_BadGoods.ge rfl hr2 rfl T.g_BadGoods (ge_var (i := 0) rfl rfl (.inl rfl))) (gd_cons (T.mx_WrongReceipts.ge rfl hr2 rfl T.g_WrongReceipts (ge_var (i := 0) rfl rfl (.inl rfl))) (gd_cons (T.mx_BadReceipts.ge rfl hr2 rfl T.g_BadReceipts (ge_var (i := 0) rfl rfl (.inl rfl))) (gd_cons (T.mx_BadIndex.ge rfl hr2 rfl T.g_BadIndex (ge_var (i := 0) rfl rfl (.inl rfl))) gd_nil))))))))) rfl (.inl rfl))
    (gs_cons (gs_extendW (i := 1) rfl rfl (ge_list (n := 8) (m := .fz) sz (gd_cons (T.mx_BadPlaces.ge rfl hr2 rfl T.g_BadPlaces (ge_var (i := 0) rfl rfl (.inl rfl))) (gd_cons (T.mx_BadPrices.ge rfl hr2 rfl T.g_BadPrices (ge_var (i := 0) rfl rfl (.inl rfl))) (gd_cons (T.mx_BadBundle.ge rfl hr2 rfl T.g_BadBundle (ge_var (i := 0) rfl rfl (.inl rfl))) (gd_cons (T.mx_BadMoney.ge rfl hr2 rfl T.g_BadMoney (ge_var (i := 0) rfl rfl (.inl rfl))) (gd_cons (T.mx_BadGood.ge rfl hr2 rfl T.g_BadGood (ge_var (i := 0) rfl rfl (.inl rfl))) (gd_cons (T.mx_OneGood.ge rfl hr2 rfl T.g_OneGood (ge_var (i := 0) rfl rfl (.inl rfl))) (gd_cons (T.mx_BadWeights.ge rfl hr2 rfl T.g_BadWeights (ge_var (i := 0) rfl rfl (.inl rfl))) (gd_cons (T.mx_BadReceiptsText.ge rfl hr2 rfl T.g_BadReceiptsText (ge_var (i := 0) rfl rfl (.inl rfl))) gd_nil))))))))) rfl (.inl rfl))
    (gs_cons (gs_extendW (i := 1) rfl rfl (ge_list (n := 8) (m := .fz) sz (gd_cons (T.mx_BadNumbers.ge rfl hr2 rfl T.g_BadNumbers (ge_var (i := 0) rfl rfl (.inl rfl))) (gd_cons (T.mx_BadNumbersText.ge rfl hr2 rfl T.g_BadNumbersText (ge_var (i := 0) rfl rfl (.inl rfl))) (gd_cons (T.mx_NoReceipts.ge rfl hr2 rfl T.g_NoReceipts (ge_var (i := 0) rfl rfl (.inl rfl))) (gd_cons (T.mx_WrongChoices.ge rfl hr2 rfl T.g_WrongChoices (ge_var (i := 0) rfl rfl (.inl rfl))) (gd_cons (T.mx_BadChoices.ge rfl hr2 rfl T.g_BadChoices (ge_var (i := 0) rfl rfl (.inl rfl))) (gd_cons (T.mx_BadMenu.ge rfl hr2 rfl T.g_BadMenu (ge_var (i := 0) rfl rfl (.inl rfl))) (gd_cons (T.mx_NoLevels.ge rfl hr2 rfl T.g_NoLevels (ge_var (i := 0) rfl rfl (.inl rfl))) (gd_cons (T.mx_BadThing.ge rfl hr2 rfl T.g_BadThing (ge_var (i := 0) rfl rfl (.inl rfl))) gd_nil))))))))) rfl (.inl rfl))
    (gs_cons (gs_extendW (i := 1) rfl rfl (ge_list (n := 8) (m := .fz) sz (gd_cons (T.mx_NotWhole.ge rfl hr2 rfl T.g_NotWhole (ge_var (i := 0) rfl rfl (.inl rfl))) (gd_cons (T.mx_BadSieves.ge rfl hr2 rfl T.g_BadSieves (ge_var (i := 0) rfl rfl (.inl rfl))) (gd_cons (T.mx_NotAll.ge rfl hr2 rfl T.g_NotAll (ge_var (i := 0) rfl rfl (.inl rfl))) (gd_cons (T.mx_BadOrders.ge rfl hr2 rfl T.g_BadOrders (ge_var (i := 0) rfl rfl (.inl rfl))) (gd_cons (T.mx_NoOrders.ge rfl hr2 rfl T.g_NoOrders (ge_var (i := 0) rfl rfl (.inl rfl))) (gd_cons (T.mx_WrongRecords.ge rfl hr2 rfl T.g_WrongRecords (ge_var (i := 0) rfl rfl (.inl rfl))) (gd_cons (T.mx_BadRecords.ge rfl hr2 rfl T.g_BadRecords (ge_var (i := 0) rfl rfl (.inl rfl))) (gd_cons (T.mx_BadOutput.ge rfl hr2 rfl T.g_BadOutput (ge_var (i := 0) rfl rfl (.inl rfl))) gd_nil))))))))) rfl (.inl rfl))
    (gs_frz 1 (.lst .fz) rfl (.inl (by decide)) (gs_one (gs_ret (ge_var (i := 1) rfl rfl (.inl rfl))))))))))

abbrev N__law_is_other : List Str := [("e" : Str), ("told" : Str)]
def m__law_is_other : MS := (S.seq (S.asg 1 (E.list (E.dcons (E.un (D.isaD L ["BadOther", "NotWish", "NotFitting", "NotMoney", "BadTimes", "BadBy", "NoAmounts", "NotEven", "BadAnswer"]) (E.var 0)) E.dnil))) (S.seq (S.append 1 (E.un (D.isaD L ["BadWholeText", "BadRing", "BadRanks", "BadGoods", "WrongReceipts", "BadReceipts", "BadIndex", "BadPlaces", "BadPrices"]) (E.var 0))) (S.seq (S.append 1 (E.un (D.isaD L ["BadBundle", "BadMoney", "BadGood", "OneGood", "BadWeights", "BadReceiptsText", "BadNumbers", "BadNumbersText", "NoReceipts"]) (E.var 0))) (S.seq (S.append 1 (E.un (D.isaD L ["WrongChoices", "BadChoices", "BadMenu", "NoLevels", "BadThing", "NotWhole", "BadSieves", "NotAll", "BadOrders"]) (E.var 0))) (S.seq (S.append 1 (E.un (D.isaD L ["NoOrders", "WrongRecords", "BadRecords", "BadOutput"]) (E.var 0))) (S.ret (E.bin D.inn (E.cst (.bl true)) (E.var 1))))))))
def F__law_is_other : Fn := Fn.mk [.d] 1 false m__law_is_other
theorem ok__law_is_other (T : En P w K mg base) : Cal P w K mg base "_law_is_other" [("e" : Str)] 2 (SpF (Ct.of (He.ga K) fnv) F__law_is_other .fz) := by
  obtain ⟨fd, F, hg⟩ := T.d__law_is_other
  have nd : N__law_is_other.Nodup := by decide
  refine Cal.of (N := N__law_is_other) (kd := [.d]) (n := 1) (b := false) (m := m__law_is_other) (Γ' := []) (mo := .fz) F hg ⟨rfl, rfl, rfl, nd, rfl, by decide +kernel, by decide +kernel⟩ rfl rfl (fun _ _ _ _ _ _ us hl => match us, hl with | [_], _ => rfl) (fun h => nomatch h) (fun cdv A outer s H E hr S G0 H0 => ?_)
  have hr2 := hr
  exact (gs_cons (gs_asg (i := 1) (m := (.lst .fz)) (by decide) nd rfl (.inl rfl) (ge_list (n := 1) (m := .fz) sz (gd_cons (ge_isaT (L := L) (ts := ["BadOther", "NotWish", "NotFitting", "NotMoney", "BadTimes", "BadBy", "NoAmounts", "NotEven", "BadAnswer"]) (pa_cls (pe_glob (v := .ref (He.ga K "BadOther")) rfl T.g_BadOther rfl) (pa_cls (pe_glob (v := .ref (He.ga K "NotWish")) rfl T.g_NotWish rfl) (pa_cls (pe_glob (v := .ref (He.ga K "NotFitting")) rfl T.g_NotFitting rfl) (pa_cls (pe_glob (v := .ref (He.ga K "NotMoney")) rfl T.g_NotMoney rfl) (pa_cls (pe_glob (v := .ref (He.ga K "BadTimes")) rfl T.g_BadTimes rfl) (pa_cls (pe_glob (v := .ref (He.ga K "BadBy")) rfl T.g_BadBy rfl) (pa_cls (pe_glob (v := .ref (He.ga K "NoAmounts")) rfl T.g_NoAmounts rfl) (pa_cls (pe_glob (v := .ref (He.ga K "NotEven")) rfl T.g_NotEven rfl) (pa_cls (pe_glob (v := .ref (He.ga K "BadAnswer")) rfl T.g_BadAnswer rfl) pa_cls0))))))))) (.cons (.own _) (.cons (.own _) (.cons (.own _) (.cons (.own _) (.cons (.own _) (.cons (.own _) (.cons (.own _) (.cons (.own _) (.cons (.own _) .nil))))))))) (.cons T.k_BadOther (.cons T.k_NotWish (.cons T.k_NotFitting (.cons T.k_NotMoney (.cons T.k_BadTimes (.cons T.k_BadBy (.cons T.k_NoAmounts (.cons T.k_NotEven (.cons T.k_BadAnswer .nil))))))))) T.cl (sz (n := 9)) rfl T.n_isinstance (ge_var (i := 0) rfl rfl (.inl rfl))) gd_nil)))
    (gs_cons (gs_appendW (i := 1) rfl (ge_isaT (L := L) (ts := ["BadWholeText", "BadRing", "BadRanks", "BadGoods", "WrongReceipts", "BadReceipts", "BadIndex", "BadPlaces", "BadPrices"]) (pa_cls (pe_glob (v := .ref (He.ga K "BadWholeText")) rfl T.g_BadWholeText rfl) (pa_cls (pe_glob (v := .ref (He.ga K "BadRing")) rfl T.g_BadRing rfl) (pa_cls (pe_glob (v := .ref (He.ga K "BadRanks")) rfl T.g_BadRanks rfl) (pa_cls (pe_glob (v := .ref (He.ga K "BadGoods")) rfl T.g_BadGoods rfl) (pa_cls (pe_glob (v := .ref (He.ga K "WrongReceipts")) rfl T.g_WrongReceipts rfl) (pa_cls (pe_glob (v := .ref (He.ga K "BadReceipts")) rfl T.g_BadReceipts rfl) (pa_cls (pe_glob (v := .ref (He.ga K "BadIndex")) rfl T.g_BadIndex rfl) (pa_cls (pe_glob (v := .ref (He.ga K "BadPlaces")) rfl T.g_BadPlaces rfl) (pa_cls (pe_glob (v := .ref (He.ga K "BadPrices")) rfl T.g_BadPrices rfl) pa_cls0))))))))) (.cons (.own _) (.cons (.own _) (.cons (.own _) (.cons (.own _) (.cons (.own _) (.cons (.own _) (.cons (.own _) (.cons (.own _) (.cons (.own _) .nil))))))))) (.cons T.k_BadWholeText (.cons T.k_BadRing (.cons T.k_BadRanks (.cons T.k_BadGoods (.cons T.k_WrongReceipts (.cons T.k_BadReceipts (.cons T.k_BadIndex (.cons T.k_BadPlaces (.cons T.k_BadPrices .nil))))))))) T.cl (sz (n := 9)) rfl T.n_isinstance (ge_var (i := 0) rfl rfl (.inl rfl))) rfl (.inl rfl))
    (gs_cons (gs_appendW (i := 1) rfl (ge_isaT (L := L) (ts := ["BadBundle", "BadMoney", "BadGood", "OneGood", "BadWeights", "BadReceiptsText", "BadNumbers", "BadNumbersText", "NoReceipts"]) (pa_cls (pe_glob (v := .ref (He.ga K "BadBundle")) rfl T.g_BadBundle rfl) (pa_cls (pe_glob (v := .ref (He.ga K "BadMoney")) rfl T.g_BadMoney rfl) (pa_cls (pe_glob (v := .ref (He.ga K "BadGood")) rfl T.g_BadGood rfl) (pa_cls (pe_glob (v := .ref (He.ga K "OneGood")) rfl T.g_OneGood rfl) (pa_cls (pe_glob (v := .ref (He.ga K "BadWeights")) rfl T.g_BadWeights rfl) (pa_cls (pe_glob (v := .ref (He.ga K "BadReceiptsText")) rfl T.g_BadReceiptsText rfl) (pa_cls (pe_glob (v := .ref (He.ga K "BadNumbers")) rfl T.g_BadNumbers rfl) (pa_cls (pe_glob (v := .ref (He.ga K "BadNumbersText")) rfl T.g_BadNumbersText rfl) (pa_cls (pe_glob (v := .ref (He.ga K "NoReceipts")) rfl T.g_NoReceipts rfl) pa_cls0))))))))) (.cons (.own _) (.cons (.own _) (.cons (.own _) (.cons (.own _) (.cons (.own _) (.cons (.own _) (.cons (.own _) (.cons (.own _) (.cons (.own _) .nil))))))))) (.cons T.k_BadBundle (.cons T.k_BadMoney (.cons T.k_BadGood (.cons T.k_OneGood (.cons T.k_BadWeights (.cons T.k_BadReceiptsText (.cons T.k_BadNumbers (.cons T.k_BadNumbersText (.cons T.k_NoReceipts .nil))))))))) T.cl (sz (n := 9)) rfl T.n_isinstance (ge_var (i := 0) rfl rfl (.inl rfl))) rfl (.inl rfl))
    (gs_cons (gs_appendW (i := 1) rfl (ge_isaT (L := L) (ts := ["WrongChoices", "BadChoices", "BadMenu", "NoLevels", "BadThing", "NotWhole", "BadSieves", "NotAll", "BadOrders"]) (pa_cls (pe_glob (v := .ref (He.ga K "WrongChoices")) rfl T.g_WrongChoices rfl) (pa_cls (pe_glob (v := .ref (He.ga K "BadChoices")) rfl T.g_BadChoices rfl) (pa_cls (pe_glob (v := .ref (He.ga K "BadMenu")) rfl T.g_BadMenu rfl) (pa_cls (pe_glob (v := .ref (He.ga K "NoLevels")) rfl T.g_NoLevels rfl) (pa_cls (pe_glob (v := .ref (He.ga K "BadThing")) rfl T.g_BadThing rfl) (pa_cls (pe_glob (v := .ref (He.ga K "NotWhole")) rfl T.g_NotWhole rfl) (pa_cls (pe_glob (v := .ref (He.ga K "BadSieves")) rfl T.g_BadSieves rfl) (pa_cls (pe_glob (v := .ref (He.ga K "NotAll")) rfl T.g_NotAll rfl) (pa_cls (pe_glob (v := .ref (He.ga K "BadOrders")) rfl T.g_BadOrders rfl) pa_cls0))))))))) (.cons (.own _) (.cons (.own _) (.cons (.own _) (.cons (.own _) (.cons (.own _) (.cons (.own _) (.cons (.own _) (.cons (.own _) (.cons (.own _) .nil))))))))) (.cons T.k_WrongChoices (.cons T.k_BadChoices (.cons T.k_BadMenu (.cons T.k_NoLevels (.cons T.k_BadThing (.cons T.k_NotWhole (.cons T.k_BadSieves (.cons T.k_NotAll (.cons T.k_BadOrders .nil))))))))) T.cl (sz (n := 9)) rfl T.n_isinstance (ge_var (i := 0) rfl rfl (.inl rfl))) rfl (.inl rfl))
    (gs_cons (gs_appendW (i := 1) rfl (ge_isaT (L := L) (ts := ["NoOrders", "WrongRecords", "BadRecords", "BadOutput"]) (pa_cls (pe_glob (v := .ref (He.ga K "NoOrders")) rfl T.g_NoOrders rfl) (pa_cls (pe_glob (v := .ref (He.ga K "WrongRecords")) rfl T.g_WrongRecords rfl) (pa_cls (pe_glob (v := .ref (He.ga K "BadRecords")) rfl T.g_BadRecords rfl) (pa_cls (pe_glob (v := .ref (He.ga K "BadOutput")) rfl T.g_BadOutput rfl) pa_cls0)))) (.cons (.own _) (.cons (.own _) (.cons (.own _) (.cons (.own _) .nil)))) (.cons T.k_NoOrders (.cons T.k_WrongRecords (.cons T.k_BadRecords (.cons T.k_BadOutput .nil)))) T.cl (sz (n := 4)) rfl T.n_isinstance (ge_var (i := 0) rfl rfl (.inl rfl))) rfl (.inl rfl))
    (gs_one (gs_ret (ge_cmp ((os_in hr.u65)) ge_bl (ge_varV (i := 1) rfl rfl (.inl rfl)) (by with_unfolding_all rfl)))))))))

abbrev N__law_made_a : List Str := [("at" : Str), ("x" : Str), ("made" : Str)]
def m__law_made_a : MS := (S.seq (S.cond (E.tst (E.bin D.eq (E.var 0) (E.cst (.int 0)))) (S.seq (S.asg 2 (E.un (D.mkX "BadFees" "fees") (E.var 1))) (S.ret (E.tuple (E.dcons (E.var 2) (E.dcons (E.un (D.xat ["BadFees"] "fees") (E.var 2)) E.dnil))))) S.skip) (S.seq (S.cond (E.tst (E.bin D.eq (E.var 0) (E.cst (.int 1)))) (S.seq (S.asg 2 (E.un (D.mkX "BadPart" "part") (E.var 1))) (S.ret (E.tuple (E.dcons (E.var 2) (E.dcons (E.un (D.xat ["BadPart"] "part") (E.var 2)) E.dnil))))) S.skip) (S.seq (S.cond (E.tst (E.bin D.eq (E.var 0) (E.cst (.int 2)))) (S.seq (S.asg 2 (E.un (D.mkX "BadGuesses" "guesses") (E.var 1))) (S.ret (E.tuple (E.dcons (E.var 2) (E.dcons (E.un (D.xat ["BadGuesses", "NoFilling"] "guesses") (E.var 2)) E.dnil))))) S.skip) (S.seq (S.cond (E.tst (E.bin D.eq (E.var 0) (E.cst (.int 3)))) (S.seq (S.asg 2 (E.un (D.mkX "BadFilling" "filling") (E.var 1))) (S.ret (E.tuple (E.dcons (E.var 2) (E.dcons (E.un (D.xat ["BadFilling"] "filling") (E.var 2)) E.dnil))))) S.skip) (S.seq (S.cond (E.tst (E.bin D.eq (E.var 0) (E.cst (.int 4)))) (S.seq (S.asg 2 (E.un (D.mkX "NoFilling" "guesses") (E.var 1))) (S.ret (E.tuple (E.dcons (E.var 2) (E.dcons (E.un (D.xat ["BadGuesses", "NoFilling"] "guesses") (E.var 2)) E.dnil))))) S.skip) (S.seq (S.asg 2 (E.un (D.mkX "BadMost" "most") (E.var 1))) (S.ret (E.tuple (E.dcons (E.var 2) (E.dcons (E.un (D.xat ["BadMost"] "most") (E.var 2)) E.dnil))))))))))
def F__law_made_a : Fn := Fn.mk [.d, .d] 1 false m__law_made_a
theorem ok__law_made_a (T : En P w K mg base) : Cal P w K mg base "_law_made_a" [("at" : Str), ("x" : Str)] 3 (SpF (Ct.of (He.ga K) fnv) F__law_made_a .fz) := by
  obtain ⟨fd, F, hg⟩ := T.d__law_made_a
  have nd : N__law_made_a.Nodup := by decide
  refine Cal.of (N := N__law_made_a) (kd := [.d, .d]) (n := 1) (b := false) (m := m__law_made_a) (Γ' := []) (mo := .fz) F hg ⟨rfl, rfl, rfl, nd, rfl, by decide +kernel, by decide +kernel⟩ rfl rfl (fun _ _ _ _ _ _ us hl => match us, hl with | [_, _], _ => rfl) (fun h => nomatch h) (fun cdv A outer s H E hr S G0 H0 => ?_)
  have hr2 := hr
  exact (gs_cons (gs_if (gt_cmp (os_eq hr.units) (ge_var (i := 0) rfl rfl (.inl rfl)) ge_int (nomark _)) (gs_cons (gs_asg (i := 2) (m := .fz) (by decide) nd rfl (.inl rfl) (T.mx_BadFees.ge rfl hr2 rfl T.g_BadFees (ge_var (i := 1) rfl rfl (.inl rfl))))
    (gs_one (gs_ret (ge_fz (ge_tuple (ms := [.fz, .fz]) sz (gd_cons (ge_var (i := 2) rfl rfl (.inl rfl)) (gd_cons (ge_xat T.xat_fees (ge_var (i := 2) rfl rfl (.inl rfl))) gd_nil))))))) gs_nil)
    (gs_cons (gs_if (gt_cmp (os_eq hr.units) (ge_var (i := 0) rfl rfl (.inl rfl)) ge_int (nomark _)) (gs_cons (gs_asg (i := 2) (m := .fz) (by decide) nd rfl (.inl rfl) (T.mx_BadPart.geK rfl hr2 rfl T.g_BadPart (ge_var (i := 1) rfl rfl (.inl rfl))))
    (gs_one (gs_ret (ge_fz (ge_tuple (ms := [.fz, .fz]) sz (gd_cons (ge_var (i := 2) rfl rfl (.inl rfl)) (gd_cons (ge_xat T.xat_part (ge_var (i := 2) rfl rfl (.inl rfl))) gd_nil))))))) gs_nil)
    (gs_cons (gs_if (gt_cmp (os_eq hr.units) (ge_var (i := 0) rfl rfl (.inl rfl)) ge_int (nomark _)) (gs_cons (gs_asg (i := 2) (m := .fz) (by decide) nd rfl (.inl rfl) (T.mx_BadGuesses.ge rfl hr2 rfl T.g_BadGuesses (ge_var (i := 1) rfl rfl (.inl rfl))))
    (gs_one (gs_ret (ge_fz (ge_tuple (ms := [.fz, .fz]) sz (gd_cons (ge_var (i := 2) rfl rfl (.inl rfl)) (gd_cons (ge_xat T.xat_guesses (ge_var (i := 2) rfl rfl (.inl rfl))) gd_nil))))))) gs_nil)
    (gs_cons (gs_if (gt_cmp (os_eq hr.units) (ge_var (i := 0) rfl rfl (.inl rfl)) ge_int (nomark _)) (gs_cons (gs_asg (i := 2) (m := .fz) (by decide) nd rfl (.inl rfl) (T.mx_BadFilling.ge rfl hr2 rfl T.g_BadFilling (ge_var (i := 1) rfl rfl (.inl rfl))))
    (gs_one (gs_ret (ge_fz (ge_tuple (ms := [.fz, .fz]) sz (gd_cons (ge_var (i := 2) rfl rfl (.inl rfl)) (gd_cons (ge_xat T.xat_filling (ge_var (i := 2) rfl rfl (.inl rfl))) gd_nil))))))) gs_nil)
    (gs_cons (gs_if (gt_cmp (os_eq hr.units) (ge_var (i := 0) rfl rfl (.inl rfl)) ge_int (nomark _)) (gs_cons (gs_asg (i := 2) (m := .fz) (by decide) nd rfl (.inl rfl) (T.mx_NoFilling.geK rfl hr2 rfl T.g_NoFilling (ge_var (i := 1) rfl rfl (.inl rfl))))
    (gs_one (gs_ret (ge_fz (ge_tuple (ms := [.fz, .fz]) sz (gd_cons (ge_var (i := 2) rfl rfl (.inl rfl)) (gd_cons (ge_xat T.xat_guesses (ge_var (i := 2) rfl rfl (.inl rfl))) gd_nil))))))) gs_nil)
    (gs_cons (gs_asg (i := 2) (m := .fz) (by decide) nd rfl (.inl rfl) (T.mx_BadMost.ge rfl hr2 rfl T.g_BadMost (ge_var (i := 1) rfl rfl (.inl rfl))))
    (gs_one (gs_ret (ge_fz (ge_tuple (ms := [.fz, .fz]) sz (gd_cons (ge_var (i := 2) rfl rfl (.inl rfl)) (gd_cons (ge_xat T.xat_most (ge_var (i := 2) rfl rfl (.inl rfl))) gd_nil))))))))))))

abbrev N__law_made_b : List Str := [("at" : Str), ("x" : Str), ("made" : Str)]
def m__law_made_b : MS := (S.seq (S.cond (E.tst (E.bin D.eq (E.var 0) (E.cst (.int 6)))) (S.seq (S.asg 2 (E.un (D.mkX "BadOthers" "others") (E.var 1))) (S.ret (E.tuple (E.dcons (E.var 2) (E.dcons (E.un (D.xat ["BadOthers"] "others") (E.var 2)) E.dnil))))) S.skip) (S.seq (S.cond (E.tst (E.bin D.eq (E.var 0) (E.cst (.int 7)))) (S.seq (S.asg 2 (E.un (D.mkX "BadMany" "many") (E.var 1))) (S.ret (E.tuple (E.dcons (E.var 2) (E.dcons (E.un (D.xat ["BadMany"] "many") (E.var 2)) E.dnil))))) S.skip) (S.seq (S.cond (E.tst (E.bin D.eq (E.var 0) (E.cst (.int 8)))) (S.seq (S.asg 2 (E.un (D.mkX "NotSingle" "choices") (E.var 1))) (S.ret (E.tuple (E.dcons (E.var 2) (E.dcons (E.un (D.xat ["NotSingle"] "choices") (E.var 2)) E.dnil))))) S.skip) (S.seq (S.cond (E.tst (E.bin D.eq (E.var 0) (E.cst (.int 9)))) (S.seq (S.asg 2 (E.un (D.mkX "BadEdit" "edit") (E.var 1))) (S.ret (E.tuple (E.dcons (E.var 2) (E.dcons (E.un (D.xat ["BadEdit"] "edit") (E.var 2)) E.dnil))))) S.skip) (S.seq (S.cond (E.tst (E.bin D.eq (E.var 0) (E.cst (.int 10)))) (S.seq (S.asg 2 (E.un (D.mkX "BadDesk" "desk") (E.var 1))) (S.ret (E.tuple (E.dcons (E.var 2) (E.dcons (E.un (D.xat ["BadDesk"] "desk") (E.var 2)) E.dnil))))) S.skip) (S.seq (S.asg 2 (E.un (D.mkX "BadDeskText" "line") (E.var 1))) (S.ret (E.tuple (E.dcons (E.var 2) (E.dcons (E.un (D.xat ["BadDeskText"] "line") (E.var 2)) E.dnil))))))))))
def F__law_made_b : Fn := Fn.mk [.d, .d] 1 false m__law_made_b
theorem ok__law_made_b (T : En P w K mg base) : Cal P w K mg base "_law_made_b" [("at" : Str), ("x" : Str)] 3 (SpF (Ct.of (He.ga K) fnv) F__law_made_b .fz) := by
  obtain ⟨fd, F, hg⟩ := T.d__law_made_b
  have nd : N__law_made_b.Nodup := by decide
  refine Cal.of (N := N__law_made_b) (kd := [.d, .d]) (n := 1) (b := false) (m := m__law_made_b) (Γ' := []) (mo := .fz) F hg ⟨rfl, rfl, rfl, nd, rfl, by decide +kernel, by decide +kernel⟩ rfl rfl (fun _ _ _ _ _ _ us hl => match us, hl with | [_, _], _ => rfl) (fun h => nomatch h) (fun cdv A outer s H E hr S G0 H0 => ?_)
  have hr2 := hr
  exact (gs_cons (gs_if (gt_cmp (os_eq hr.units) (ge_var (i := 0) rfl rfl (.inl rfl)) ge_int (nomark _)) (gs_cons (gs_asg (i := 2) (m := .fz) (by decide) nd rfl (.inl rfl) (T.mx_BadOthers.ge rfl hr2 rfl T.g_BadOthers (ge_var (i := 1) rfl rfl (.inl rfl))))
    (gs_one (gs_ret (ge_fz (ge_tuple (ms := [.fz, .fz]) sz (gd_cons (ge_var (i := 2) rfl rfl (.inl rfl)) (gd_cons (ge_xat T.xat_others (ge_var (i := 2) rfl rfl (.inl rfl))) gd_nil))))))) gs_nil)
    (gs_cons (gs_if (gt_cmp (os_eq hr.units) (ge_var (i := 0) rfl rfl (.inl rfl)) ge_int (nomark _)) (gs_cons (gs_asg (i := 2) (m := .fz) (by decide) nd rfl (.inl rfl) (T.mx_BadMany.geK rfl hr2 rfl T.g_BadMany (ge_var (i := 1) rfl rfl (.inl rfl))))
    (gs_one (gs_ret (ge_fz (ge_tuple (ms := [.fz, .fz]) sz (gd_cons (ge_var (i := 2) rfl rfl (.inl rfl)) (gd_cons (ge_xat T.xat_many (ge_var (i := 2) rfl rfl (.inl rfl))) gd_nil))))))) gs_nil)
    (gs_cons (gs_if (gt_cmp (os_eq hr.units) (ge_var (i := 0) rfl rfl (.inl rfl)) ge_int (nomark _)) (gs_cons (gs_asg (i := 2) (m := .fz) (by decide) nd rfl (.inl rfl) (T.mx_NotSingle.ge rfl hr2 rfl T.g_NotSingle (ge_var (i := 1) rfl rfl (.inl rfl))))
    (gs_one (gs_ret (ge_fz (ge_tuple (ms := [.fz, .fz]) sz (gd_cons (ge_var (i := 2) rfl rfl (.inl rfl)) (gd_cons (ge_xat T.xat_choices (ge_var (i := 2) rfl rfl (.inl rfl))) gd_nil))))))) gs_nil)
    (gs_cons (gs_if (gt_cmp (os_eq hr.units) (ge_var (i := 0) rfl rfl (.inl rfl)) ge_int (nomark _)) (gs_cons (gs_asg (i := 2) (m := .fz) (by decide) nd rfl (.inl rfl) (T.mx_BadEdit.ge rfl hr2 rfl T.g_BadEdit (ge_var (i := 1) rfl rfl (.inl rfl))))
    (gs_one (gs_ret (ge_fz (ge_tuple (ms := [.fz, .fz]) sz (gd_cons (ge_var (i := 2) rfl rfl (.inl rfl)) (gd_cons (ge_xat T.xat_edit (ge_var (i := 2) rfl rfl (.inl rfl))) gd_nil))))))) gs_nil)
    (gs_cons (gs_if (gt_cmp (os_eq hr.units) (ge_var (i := 0) rfl rfl (.inl rfl)) ge_int (nomark _)) (gs_cons (gs_asg (i := 2) (m := .fz) (by decide) nd rfl (.inl rfl) (T.mx_BadDesk.geK rfl hr2 rfl T.g_BadDesk (ge_var (i := 1) rfl rfl (.inl rfl))))
    (gs_one (gs_ret (ge_fz (ge_tuple (ms := [.fz, .fz]) sz (gd_cons (ge_var (i := 2) rfl rfl (.inl rfl)) (gd_cons (ge_xat T.xat_desk (ge_var (i := 2) rfl rfl (.inl rfl))) gd_nil))))))) gs_nil)
    (gs_cons (gs_asg (i := 2) (m := .fz) (by decide) nd rfl (.inl rfl) (T.mx_BadDeskText.ge rfl hr2 rfl T.g_BadDeskText (ge_var (i := 1) rfl rfl (.inl rfl))))
    (gs_one (gs_ret (ge_fz (ge_tuple (ms := [.fz, .fz]) sz (gd_cons (ge_var (i := 2) rfl rfl (.inl rfl)) (gd_cons (ge_xat T.xat_line (ge_var (i := 2) rfl rfl (.inl rfl))) gd_nil))))))))))))

abbrev N__law_made_at : List Str := [("at" : Str), ("x" : Str)]
def m__law_made_at : MS := (S.seq (S.cond (E.tst (E.bin D.lt (E.var 0) (E.cst (.int 12)))) (S.ret (E.ite (E.tst (E.bin D.lt (E.var 0) (E.cst (.int 6)))) (E.call F__law_made_a (E.acons (E.var 0) (E.acons (E.var 1) E.anil))) (E.call F__law_made_b (E.acons (E.var 0) (E.acons (E.var 1) E.anil))))) S.skip) (S.ret (E.tuple (E.dcons (E.bin D.idx (E.list (E.dcons (E.cst (.xc "NothingToUndo" [] [])) (E.dcons (E.cst (.xc "NothingToRedo" [] [])) E.dnil))) (E.bin D.sub (E.var 0) (E.cst (.int 12)))) (E.dcons (E.var 1) E.dnil)))))
def F__law_made_at : Fn := Fn.mk [.d, .d] 0 false m__law_made_at
theorem ok__law_made_at (T : En P w K mg base) : Cal P w K mg base "_law_made_at" [("at" : Str), ("x" : Str)] 4 (SpF (Ct.of (He.ga K) fnv) F__law_made_at .fz) := by
  obtain ⟨fd, F, hg⟩ := T.d__law_made_at
  have nd : N__law_made_at.Nodup := by decide
  refine Cal.of (N := N__law_made_at) (kd := [.d, .d]) (n := 0) (b := false) (m := m__law_made_at) (Γ' := []) (mo := .fz) F hg ⟨rfl, rfl, rfl, nd, rfl, by decide +kernel, by decide +kernel⟩ rfl rfl (fun _ _ _ _ _ _ us hl => match us, hl with | [_, _], _ => rfl) (fun h => nomatch h) (fun cdv A outer s H E hr S G0 H0 => ?_)
  have hr2 := hr
  exact (gs_cons (gs_if (gt_cmp (os_lt) (ge_var (i := 0) rfl rfl (.inl rfl)) ge_int (nomark _)) (gs_one (gs_ret (ge_ite (gt_cmp (os_lt) (ge_var (i := 0) rfl rfl (.inl rfl)) ge_int (nomark _)) (ge_callC (ok__law_made_a T) (hr.mono (by decide)) rfl passes_cx (ga_cons (ge_var (i := 0) rfl rfl (.inl rfl)) (ga_cons (ge_var (i := 1) rfl rfl (.inl rfl)) ga_nil))) (ge_callC (ok__law_made_b T) (hr.mono (by decide)) rfl passes_cx (ga_cons (ge_var (i := 0) rfl rfl (.inl rfl)) (ga_cons (ge_var (i := 1) rfl rfl (.inl rfl)) ga_nil)))))) gs_nil)
    (gs_one (gs_ret (ge_fz (ge_tuple (ms := [.fz, .fz]) sz (gd_cons (ge_idx hr.u1 rfl (ge_list (n := 2) (m := .fz) sz (gd_cons (ge_xv0 rfl PySem.F.excBase_ValueError T.x0_NothingToUndo.1 T.x0_NothingToUndo.2 rfl T.g_NothingToUndo) (gd_cons (ge_xv0 rfl PySem.F.excBase_ValueError T.x0_NothingToRedo.1 T.x0_NothingToRedo.2 rfl T.g_NothingToRedo) gd_nil))) (ge_bin (os_sub) (ge_var (i := 0) rfl rfl (.inl rfl)) ge_int) (fun _ _ => rfl)) (gd_cons (ge_var (i := 1) rfl rfl (.inl rfl)) gd_nil)))))))

abbrev N__law_object : List Str := [("state" : Str), ("way" : Str)]
def m__law_object : MS := (S.seq (S.asg 1 (E.call F__law_pick (E.aval (fun _ => .st) (E.acons (E.cst (.int 7)) E.anil)))) (S.seq (S.cond (E.tst (E.bin D.lt (E.var 1) (E.cst (.int 2)))) (S.ret (E.imm (E.bin D.idx (E.list (E.dcons (E.call F__law_between (E.aval (fun _ => .st) (E.acons (E.un D.neg (E.cst (.int 9))) (E.acons (E.cst (.int 9)) E.anil)))) (E.dcons (E.bin D.add (E.cst (.str "w")) (E.un D.strD (E.call F__law_pick (E.aval (fun _ => .st) (E.acons (E.cst (.int 99)) E.anil))))) E.dnil))) (E.var 1)))) S.skip) (S.seq (S.cond (E.tst (E.bin D.lt (E.var 1) (E.cst (.int 5)))) (S.ret (E.imm (E.bin D.idx (E.list (E.dcons (E.cst .non) (E.dcons (E.bin D.eq (E.call F__law_pick (E.aval (fun _ => .st) (E.acons (E.cst (.int 2)) E.anil))) (E.cst (.int 0))) (E.dcons (E.tuple (E.dcons (E.cst (.int 1)) (E.dcons (E.call F__law_pick (E.aval (fun _ => .st) (E.acons (E.cst (.int 9)) E.anil))) E.dnil))) E.dnil)))) (E.bin D.sub (E.var 1) (E.cst (.int 2)))))) S.skip) (S.ret (E.ite (E.tst (E.bin D.eq (E.var 1) (E.cst (.int 5)))) (E.list (E.dcons (E.call F__law_pick (E.aval (fun _ => .st) (E.acons (E.cst (.int 9)) E.anil))) (E.dcons (E.list (E.dcons (E.cst (.int 1)) E.dnil)) E.dnil))) (E.bin D.dict1 (E.cst (.str "a")) (E.call F__law_pick (E.aval (fun _ => .st) (E.acons (E.cst (.int 9)) E.anil)))))))))
def F__law_object : Fn := Fn.mk [.st] 1 false m__law_object
theorem ok__law_object (T : En P w K mg base) : Cal P w K mg base "_law_object" [("state" : Str)] 4 (SpF (Ct.of (He.ga K) fnv) F__law_object .mx) := by
  obtain ⟨fd, F, hg⟩ := T.d__law_object
  have nd : N__law_object.Nodup := by decide
  refine Cal.of (N := N__law_object) (kd := [.st]) (n := 1) (b := false) (m := m__law_object) (Γ' := []) (mo := .mx) F hg ⟨rfl, rfl, rfl, nd, rfl, by decide +kernel, by decide +kernel⟩ rfl rfl (fun _ _ _ _ _ _ us hl => match us, hl with | [_], _ => rfl) (fun h => nomatch h) (fun cdv A outer s H E hr S G0 H0 => ?_)
  have hr2 := hr
  exact (gs_cons (gs_asg (i := 1) (m := .fz) (by decide) nd rfl (.inl rfl) (ge_callC (ok__law_pick T) (hr.mono (by decide)) rfl passes_cx (ga_st (i := 0) rfl (ga_cons ge_int ga_nil) rfl (.inl rfl))))
    (gs_cons (gs_if (gt_cmp (os_lt) (ge_var (i := 1) rfl rfl (.inl rfl)) ge_int (nomark _)) (gs_one (gs_ret (ge_mx0 (ge_idx hr.u1 rfl (ge_list (n := 2) (m := .fz) sz (gd_cons (ge_callC (ok__law_between T) (hr.mono (by decide)) rfl passes_cx (ga_st (i := 0) rfl (ga_cons (ge_neg ge_int) (ga_cons ge_int ga_nil)) rfl (.inl rfl))) (gd_cons (ge_bin (os_add rfl rfl) ge_str (ge_t1 oc_str rfl T.n_str boot_str (ge_callC (ok__law_pick T) (hr.mono (by decide)) rfl passes_cx (ga_st (i := 0) rfl (ga_cons ge_int ga_nil) rfl (.inl rfl))))) gd_nil))) (ge_var (i := 1) rfl rfl (.inl rfl)) (fun _ _ => rfl))))) gs_nil)
    (gs_cons (gs_if (gt_cmp (os_lt) (ge_var (i := 1) rfl rfl (.inl rfl)) ge_int (nomark _)) (gs_one (gs_ret (ge_mx0 (ge_idx hr.u1 rfl (ge_list (n := 3) (m := .fz) sz (gd_cons ge_non (gd_cons (ge_cmp (os_eq hr.units) (ge_callC (ok__law_pick T) (hr.mono (by decide)) rfl passes_cx (ga_st (i := 0) rfl (ga_cons ge_int ga_nil) rfl (.inl rfl))) ge_int (nomark _)) (gd_cons (ge_fz (ge_tuple (ms := [.fz, .fz]) sz (gd_cons ge_int (gd_cons (ge_callC (ok__law_pick T) (hr.mono (by decide)) rfl passes_cx (ga_st (i := 0) rfl (ga_cons ge_int ga_nil) rfl (.inl rfl))) gd_nil)))) gd_nil)))) (ge_bin (os_sub) (ge_var (i := 1) rfl rfl (.inl rfl)) ge_int) (fun _ _ => rfl))))) gs_nil)
    (gs_one (gs_ret (ge_ite (gt_cmp (os_eq hr.units) (ge_var (i := 1) rfl rfl (.inl rfl)) ge_int (nomark _)) (ge_mxL (ge_list (n := 2) (m := .fz) sz (gd_cons (ge_callC (ok__law_pick T) (hr.mono (by decide)) rfl passes_cx (ga_st (i := 0) rfl (ga_cons ge_int ga_nil) rfl (.inl rfl))) (gd_cons (ge_fz (ge_list (n := 1) (m := .fz) sz (gd_cons ge_int gd_nil))) gd_nil)))) (ge_mxD (ge_dict1 ge_str (ge_callC (ok__law_pick T) (hr.mono (by decide)) rfl passes_cx (ga_st (i := 0) rfl (ga_cons ge_int ga_nil) rfl (.inl rfl)))))))))))

def noSt : Stmt := .Pass ⟨0, 0, 0, 0⟩
abbrev N_caught : List Str := [("x" : Str), ("told" : Str), ("plain" : Str), ("e" : Str)]
abbrev cxCaught (P : Program) (w : World) (K : PySem.W.Frag) (mg : Str → Option Value) (base : Heap) (cdv : Value) (A : Around) (outer : List Env) (s : Shared) (H : Hp) (E : XK) : Cx := cxOf (L2.CX P w) P w K mg base N_caught "_law_caught" (defScope (top 71)) (He.ga K "_law_caught") cdv A outer s H E
abbrev roomCaught (K : PySem.W.Frag) (k : Nat) (cdv : Value) (A : Around) (s : Shared) : Prop := Room k (A.deeper (envOfC "_law_caught" (defScope (top 71)) s.heap.objs.size (He.ga K "_law_caught") cdv))
def m_caught : MS := (S.seq (S.asg 2 (E.cst (.xc "ReceiptError" [] []))) (S.ret (E.tuple (E.dcons (E.var 1) (E.dcons (E.call F__law_kinds_of (E.acons (E.var 2) E.anil)) (E.dcons (E.call F__law_is_other (E.acons (E.var 2) E.anil)) (E.dcons (E.un (D.isaD L ["ValueError"]) (E.var 2)) E.dnil)))))))
theorem gs_caught (T : En P w K mg base) {cdv : Value} {A : Around} {outer : List Env} {s : Shared} {H : Hp} {E : XK} (hr : roomCaught K 10 cdv A s) (S : Option (Addr × Addr)) (G0 H0 : Hp) :
    GSs (cxCaught P w K mg base cdv A outer s H E) ⟨He.ga K, S, [], G0, H0, E, fnv⟩ [.ow .fz, .ow .fz, .un, .un] ((defBody (top 71)).drop 1) m_caught [] .fz := by
  have nd : N_caught.Nodup := by decide
  have hr2 := hr
  exact (gs_cons (gs_asg (i := 2) (m := .fz) (by decide) nd rfl (.inl rfl) (ge_xv0 rfl PySem.F.excBase_ValueError T.x0_ReceiptError.1 T.x0_ReceiptError.2 rfl T.g_ReceiptError))
    (gs_one (gs_ret (ge_fz (ge_tuple (ms := [.fz, .fz, .fz, .fz]) sz (gd_cons (ge_var (i := 1) rfl rfl (.inl rfl)) (gd_cons (ge_callC (ok__law_kinds_of T) (hr.mono (by decide)) rfl passes_cx (ga_cons (ge_var (i := 2) rfl rfl (.inl rfl)) ga_nil)) (gd_cons (ge_callC (ok__law_is_other T) (hr.mono (by decide)) rfl passes_cx (ga_cons (ge_var (i := 2) rfl rfl (.inl rfl)) ga_nil)) (gd_cons (ge_isa1 (L := L) (t := "ValueError") (pe_bltn (v := .ty "ValueError") rfl T.n_ValueError boot_ValueError rfl) (.ty _) T.k_ValueError T.cl rfl T.n_isinstance (ge_var (i := 2) rfl rfl (.inl rfl))) gd_nil)))))))))
def forBody : Stmt → List Stmt
  | .For (body := b) .. => b
  | _ => []
def blk : List Stmt := forBody ((defBody (top 72)).getD 1 noSt)
abbrev N_law : List Str := [("script" : Str), ("state" : Str), ("k" : Str), ("at" : Str), ("one" : Str), ("two" : Str), ("made" : Str), ("kept" : Str), ("other" : Str), ("others" : Str), ("e" : Str)]
abbrev cxLaw (P : Program) (w : World) (K : PySem.W.Frag) (mg : Str → Option Value) (base : Heap) (cdv : Value) (A : Around) (outer : List Env) (s : Shared) (H : Hp) (E : XK) : Cx := cxOf (L2.CX P w) P w K mg base N_law "law" (defScope (top 72)) (He.ga K "law") cdv A outer s H E
abbrev roomLaw (K : PySem.W.Frag) (k : Nat) (cdv : Value) (A : Around) (s : Shared) : Prop := Room k (A.deeper (envOfC "law" (defScope (top 72)) s.heap.objs.size (He.ga K "law") cdv))
def m_at : MS := (S.asg 3 (E.ite (E.tst (E.bin D.lt (E.var 2) (E.cst (.int 14)))) (E.bin D.mod (E.un D.intD (E.bin D.add (E.var 2) (E.call F__law_pick (E.aval (fun _ => .st) (E.acons (E.cst (.int 14)) E.anil))))) (E.cst (.int 14))) (E.bin D.sub (E.var 2) (E.cst (.int 14)))))
theorem gs_at (T : En P w K mg base) {cdv : Value} {A : Around} {outer : List Env} {s : Shared} {H : Hp} {E : XK} (hr : roomLaw K 20 cdv A s) (S : Option (Addr × Addr)) (G0 H0 : Hp) :
    GS (cxLaw P w K mg base cdv A outer s H E) ⟨He.ga K, S, [], G0, H0, E, fnv⟩ [.un, .st, .ow .fz, .un, .un, .un, .un, .un, .un, .un, .un] (blk.getD 0 noSt) m_at [.un, .st, .ow .fz, .ow .fz, .un, .un, .un, .un, .un, .un, .un] .fz := by
  have nd : N_law.Nodup := by decide
  have hr2 := hr
  exact (gs_asg (i := 3) (m := .fz) (by decide) nd rfl (.inl rfl) (ge_ite (gt_cmp (os_lt) (ge_var (i := 2) rfl rfl (.inl rfl)) ge_int (nomark _)) (ge_bin (os_mod) (ge_t1 oc_int rfl T.n_int boot_int (ge_bin (os_add rfl rfl) (ge_var (i := 2) rfl rfl (.inl rfl)) (ge_callC (ok__law_pick T) (hr.mono (by decide)) rfl passes_cx (ga_st (i := 1) rfl (ga_cons ge_int ga_nil) rfl (.inl rfl))))) ge_int) (ge_bin (os_sub) (ge_var (i := 2) rfl rfl (.inl rfl)) ge_int)))
def m_two : MS := (S.par [4, 5] (E.dcons (E.call F__law_object (E.aval (fun _ => .st) E.anil)) (E.dcons (E.call F__law_object (E.aval (fun _ => .st) E.anil)) E.dnil)))
theorem gs_two (T : En P w K mg base) {cdv : Value} {A : Around} {outer : List Env} {s : Shared} {H : Hp} {E : XK} (hr : roomLaw K 20 cdv A s) (S : Option (Addr × Addr)) (G0 H0 : Hp) :
    GS (cxLaw P w K mg base cdv A outer s H E) ⟨He.ga K, S, [], G0, H0, E, fnv⟩ [.un, .st, .ow .fz, .ow .fz, .un, .un, .un, .un, .un, .un, .un] (blk.getD 1 noSt) m_two [.un, .st, .ow .fz, .ow .fz, .ow .mx, .ow .mx, .un, .un, .un, .un, .un] .fz := by
  have nd : N_law.Nodup := by decide
  have hr2 := hr
  exact (gs_par2 (i := 4) (j := 5) rfl nd rfl rfl (by decide) (by decide) (by decide) rfl rfl (gd_cons (id (ge_callC (ok__law_object T) (hr.mono (by decide)) rfl passes_cx (ga_st (i := 1) rfl ga_nil rfl (.inl rfl)))) (gd_cons (id (ge_callC (ok__law_object T) (hr.mono (by decide)) rfl passes_cx (ga_st (i := 1) rfl ga_nil rfl (.inl rfl)))) gd_nil)) (by rfl))
def m_mid0 : MS := (S.asgT [6, 7] (E.call F__law_made_at (E.acons (E.var 3) (E.acons (E.var 4) E.anil))))
theorem gs_mid0 (T : En P w K mg base) {cdv : Value} {A : Around} {outer : List Env} {s : Shared} {H : Hp} {E : XK} (hr : roomLaw K 20 cdv A s) (S : Option (Addr × Addr)) (G0 H0 : Hp) :
    GS (cxLaw P w K mg base cdv A outer s H E) ⟨He.ga K, S, [], G0, H0, E, fnv⟩ [.un, .st, .ow .fz, .ow .fz, .ow .fz, .ow .fz, .un, .un, .un, .un, .un] (blk.getD 2 noSt) m_mid0 [.un, .st, .ow .fz, .ow .fz, .ow .fz, .ow .fz, .ow .fz, .ow .fz, .un, .un, .un] .fz := by
  have nd : N_law.Nodup := by decide
  have hr2 := hr
  exact (gs_asgT (is := [6, 7]) (gtg_tup (is := [6, 7]) rfl (gts_cons (i := 6) (by decide) nd rfl (.inl rfl) (gts_cons (i := 7) (by decide) nd rfl (.inl rfl) gts_nil)) rfl) (ge_callC (ok__law_made_at T) (hr.mono (by decide)) rfl passes_cx (ga_cons (ge_var (i := 3) rfl rfl (.inl rfl)) (ga_cons (ge_var (i := 4) rfl rfl (.inl rfl)) ga_nil))))
def m_mid1 : MS := (S.asgT [8, 9] (E.call F__law_made_at (E.acons (E.var 3) (E.acons (E.var 5) E.anil))))
theorem gs_mid1 (T : En P w K mg base) {cdv : Value} {A : Around} {outer : List Env} {s : Shared} {H : Hp} {E : XK} (hr : roomLaw K 20 cdv A s) (S : Option (Addr × Addr)) (G0 H0 : Hp) :
    GS (cxLaw P w K mg base cdv A outer s H E) ⟨He.ga K, S, [], G0, H0, E, fnv⟩ [.un, .st, .ow .fz, .ow .fz, .ow .fz, .ow .fz, .ow .fz, .ow .fz, .un, .un, .un] (blk.getD 3 noSt) m_mid1 [.un, .st, .ow .fz, .ow .fz, .ow .fz, .ow .fz, .ow .fz, .ow .fz, .ow .fz, .ow .fz, .un] .fz := by
  have nd : N_law.Nodup := by decide
  have hr2 := hr
  exact (gs_asgT (is := [8, 9]) (gtg_tup (is := [8, 9]) rfl (gts_cons (i := 8) (by decide) nd rfl (.inl rfl) (gts_cons (i := 9) (by decide) nd rfl (.inl rfl) gts_nil)) rfl) (ge_callC (ok__law_made_at T) (hr.mono (by decide)) rfl passes_cx (ga_cons (ge_var (i := 3) rfl rfl (.inl rfl)) (ga_cons (ge_var (i := 5) rfl rfl (.inl rfl)) ga_nil))))
def m_mid2 : MS := (S.cond (E.tor (E.tnot (E.tst (E.un (D.isaD L ["ReceiptError"]) (E.var 6)))) (E.tor (E.tnot (E.tst (E.un (D.isaD L ["ValueError"]) (E.var 6)))) (E.tst (E.bin D.ne (E.call F__law_kinds_of (E.acons (E.var 6) E.anil)) (E.list (E.dcons (E.var 3) E.dnil)))))) (S.ret (E.cst (.bl false))) S.skip)
theorem gs_mid2 (T : En P w K mg base) {cdv : Value} {A : Around} {outer : List Env} {s : Shared} {H : Hp} {E : XK} (hr : roomLaw K 20 cdv A s) (S : Option (Addr × Addr)) (G0 H0 : Hp) :
    GS (cxLaw P w K mg base cdv A outer s H E) ⟨He.ga K, S, [], G0, H0, E, fnv⟩ [.un, .st, .ow .fz, .ow .fz, .ow .fz, .ow .fz, .ow .fz, .ow .fz, .ow .fz, .ow .fz, .un] (blk.getD 4 noSt) m_mid2 [.un, .st, .ow .fz, .ow .fz, .ow .fz, .ow .fz, .ow .fz, .ow .fz, .ow .fz, .ow .fz, .un] .fz := by
  have nd : N_law.Nodup := by decide
  have hr2 := hr
  exact (gs_if (gt_w (gw_or (gt_not (gt_val (ge_isa1 (L := L) (t := "ReceiptError") (pe_glob (v := .ref (He.ga K "ReceiptError")) rfl T.g_ReceiptError rfl) (.own _) T.k_ReceiptError T.cl rfl T.n_isinstance (ge_var (i := 6) rfl rfl (.inl rfl))))) (gw_or (gt_not (gt_val (ge_isa1 (L := L) (t := "ValueError") (pe_bltn (v := .ty "ValueError") rfl T.n_ValueError boot_ValueError rfl) (.ty _) T.k_ValueError T.cl rfl T.n_isinstance (ge_var (i := 6) rfl rfl (.inl rfl))))) (gw_or1 (gt_cmp (os_ne hr.units) (ge_callC (ok__law_kinds_of T) (hr.mono (by decide)) rfl passes_cx (ga_cons (ge_var (i := 6) rfl rfl (.inl rfl)) ga_nil)) (ge_list (n := 1) (m := .fz) sz (gd_cons (ge_var (i := 3) rfl rfl (.inl rfl)) gd_nil)) (nomark _)))))) (gs_one (gs_ret ge_bl)) gs_nil)
def m_mid3 : MS := (S.cond (E.tor (E.tst (E.call F__law_is_other (E.acons (E.var 6) E.anil))) (E.tor (E.tst (E.un (D.isaD L ["KeyError", "IndexError", "TypeError"]) (E.var 6))) (E.tnot (E.tst (E.un (D.isaD L ["ReceiptError"]) (E.var 8)))))) (S.ret (E.cst (.bl false))) S.skip)
theorem gs_mid3 (T : En P w K mg base) {cdv : Value} {A : Around} {outer : List Env} {s : Shared} {H : Hp} {E : XK} (hr : roomLaw K 20 cdv A s) (S : Option (Addr × Addr)) (G0 H0 : Hp) :
    GS (cxLaw P w K mg base cdv A outer s H E) ⟨He.ga K, S, [], G0, H0, E, fnv⟩ [.un, .st, .ow .fz, .ow .fz, .ow .fz, .ow .fz, .ow .fz, .ow .fz, .ow .fz, .ow .fz, .un] (blk.getD 5 noSt) m_mid3 [.un, .st, .ow .fz, .ow .fz, .ow .fz, .ow .fz, .ow .fz, .ow .fz, .ow .fz, .ow .fz, .un] .fz := by
  have nd : N_law.Nodup := by decide
  have hr2 := hr
  exact (gs_if (gt_w (gw_or (gt_val (ge_callC (ok__law_is_other T) (hr.mono (by decide)) rfl passes_cx (ga_cons (ge_var (i := 6) rfl rfl (.inl rfl)) ga_nil))) (gw_or (gt_val (ge_isaT (L := L) (ts := ["KeyError", "IndexError", "TypeError"]) (pa_cls (pe_bltn (v := .ty "KeyError") rfl T.n_KeyError boot_KeyError rfl) (pa_cls (pe_bltn (v := .ty "IndexError") rfl T.n_IndexError boot_IndexError rfl) (pa_cls (pe_bltn (v := .ty "TypeError") rfl T.n_TypeError boot_TypeError rfl) pa_cls0))) (.cons (.ty _) (.cons (.ty _) (.cons (.ty _) .nil))) (.cons T.k_KeyError (.cons T.k_IndexError (.cons T.k_TypeError .nil))) T.cl (sz (n := 3)) rfl T.n_isinstance (ge_var (i := 6) rfl rfl (.inl rfl)))) (gw_or1 (gt_not (gt_val (ge_isa1 (L := L) (t := "ReceiptError") (pe_glob (v := .ref (He.ga K "ReceiptError")) rfl T.g_ReceiptError rfl) (.own _) T.k_ReceiptError T.cl rfl T.n_isinstance (ge_var (i := 8) rfl rfl (.inl rfl))))))))) (gs_one (gs_ret ge_bl)) gs_nil)
end
end
end Law_k95
end

set_option maxHeartbeats 4000000
section
namespace Law_k95
open PySem PySem.Spec PyProof.Rows L2 Mir
noncomputable section
/-- what may be drawn, changed and changed back -/
structure OkD (d : D) : Prop where
  kin : ∃ ks, D.kinds L d = some ks
  lst : ∀ xs, d = .lst xs → xs.length < 1000
  dct : ∀ t ks vs, d = .dct t ks vs → t = false ∧ ks.length < 1000 ∧ DK.k (.inr "more") ∉ ks
  imm : d.imm = true → ∀ ks, D.kinds L d = some ks → ks.contains ("list" : Str) = false ∧ ks.contains ("dict" : Str) = false
  same : ∀ ds, F__law_same 6 [.d d, .d d] ds = .ok (.bl true) ds
section
variable {P : Program} {w : World} {K : PySem.W.Frag} {mg : Str → Option Value} {base : Heap} {fnv : V → (List D → M D) → Prop}
/-- _law_very(x, x): the thing is at last as it was -/
def spVery (cA : Str → Addr) : Sp := fun vs H Q _ => ∃ (G : Hp) (d : D) (x : V) (as : List Addr), vs = [x, x] ∧ Same G H ∧ (∀ a ∈ as, G a = none) ∧ RepO cA G H .mx d x as ∧ OkD d ∧
  ∀ H', (∀ b o, b ∉ as → H b = some o → H' b = some o) → RepO cA G H' .mx d x as → Q (.bl true) H'
theorem drop_put {kvs : List (L2.Key × V)} {k : L2.Key} {v : V} (h : DK.k k ∉ kvs.map (fun p => DK.k p.1)) : valV (putK kvs k v) k = some v ∧ dropK (putK kvs k v) k = kvs ∧ (putK kvs k v).length = kvs.length + 1 := by
  have ne : ∀ p ∈ kvs, p.1 ≠ k := fun p hp z => h (List.mem_map.mpr ⟨p, hp, by rw [z]⟩)
  have no : (kvs.any fun kv => decide (kv.1 = k)) = false := by
    rw [List.any_eq_false]
    intro p hp
    simpa using ne p hp
  have e : putK kvs k v = kvs ++ [(k, v)] := by
    unfold putK
    rw [no]
    rfl
  rw [e]
  refine ⟨?_, ?_, by simp⟩
  · unfold valV
    rw [List.find?_append]
    have : (kvs.find? fun kv => decide (kv.1 = k)) = none := by
      rw [List.find?_eq_none]
      intro p hp
      simpa using ne p hp
    rw [this]
    simp
  · unfold dropK
    rw [List.filter_append]
    have : kvs.filter (fun kv => decide (kv.1 ≠ k)) = kvs := by
      rw [List.filter_eq_self]
      intro p hp
      simpa using ne p hp
    rw [this]
    simp
theorem ok_very (T : En P w K mg base) : Cal P w K mg base "_law_very" [("found" : Str), ("due" : Str)] 12 (spVery (He.ga K)) := by
  obtain ⟨fd, F, hg⟩ := T.d__law_very
  obtain ⟨fS, fdS, F1, hmS, hkS, hbS⟩ := ok__law_same (fnv := fun _ _ => False) T 6
  have nd : [("found" : Str), ("due" : Str), ("same" : Str)].Nodup := by decide
  refine ⟨_, fd, F.ok (N := [("found" : Str), ("due" : Str), ("same" : Str)]) ⟨rfl, rfl, rfl, nd, rfl, by decide +kernel, by decide +kernel⟩ (fun vs H Q E ⟨G, d, x, as, e, _⟩ => by rw [e]; rfl) (fun cdv A outer s H vs Q E hr ⟨G, d, x, as, e, sub, hG, r, ok, hq⟩ => ?_), hg, F.kp, F.bindsN (fun _ _ _ _ _ _ us hl => match us, hl with | [_, _], _ => rfl)⟩
  subst e
  refine ⟨_, pss_cons (ps_if (pt_val (pe_callB call_ik rfl T.n_isinstance (by decide +kernel) (pa_cons (pe_var (i := 1) rfl (.inl rfl)) (pa_cons (pe_bltn (v := .ty "list") rfl T.n_list boot_list rfl) pa_nil))))
      (pss_cons (ps_expr (pe_bm PySem.F.plainAttrs_list PySem.F.slot_list_append PySem.F.type_list_append mt_append (pe_var (i := 1) rfl (.inl rfl)) (pa_cons pe_str pa_nil)))
        (pss_cons (ps_set (i := 2) nd rfl (.inl rfl) (pe_and (pe_callB call_ik rfl T.n_isinstance (by decide +kernel) (pa_cons (pe_var (i := 0) rfl (.inl rfl)) (pa_cons (pe_bltn (v := .ty "list") rfl T.n_list boot_list rfl) pa_nil)))
            (pe_and (pe_cmpR op_eq (pe_callB call_len rfl T.n_len boot_len (pa_cons (pe_var (i := 0) rfl (.inl rfl)) pa_nil)) (pe_callB call_len rfl T.n_len boot_len (pa_cons (pe_var (i := 1) rfl (.inl rfl)) pa_nil)) (nomark _))
              (pe_one (pe_cmpR op_eq (pe_ix (r := rIx K) ix_seq (pe_var (i := 0) rfl (.inl rfl)) (pe_un un_neg pe_int) (fun _ _ => rfl)) pe_str (nomark _))))))
          (pss_cons (ps_expr (pe_bm0 PySem.F.plainAttrs_list PySem.F.slot_list_pop PySem.F.type_list_pop mt_pop (pe_var (i := 1) rfl (.inl rfl))))
            (pss_one (ps_ret (pe_and (pe_var (i := 2) rfl (.inl rfl)) (pe_one (pe_call F1 (hr.mono (by decide)) rfl hmS hkS hbS .nil passes_cx (pa_cons (pe_var (i := 0) rfl (.inl rfl)) (pa_cons (pe_var (i := 1) rfl (.inl rfl)) pa_nil)))))))))) pss_nil)
    (pss_cons (ps_if (pt_val (pe_callB call_ik rfl T.n_isinstance (by decide +kernel) (pa_cons (pe_var (i := 1) rfl (.inl rfl)) (pa_cons (pe_bltn (v := .ty "dict") rfl T.n_dict boot_dict rfl) pa_nil))))
        (pss_cons (ps_asg pe_int (pg_sub (pe_var (i := 1) rfl (.inl rfl)) pe_str (set_dict hr.u1)))
          (pss_cons (ps_set (i := 2) nd rfl (.inl rfl) (pe_and (pe_callB call_ik rfl T.n_isinstance (by decide +kernel) (pa_cons (pe_var (i := 0) rfl (.inl rfl)) (pa_cons (pe_bltn (v := .ty "dict") rfl T.n_dict boot_dict rfl) pa_nil)))
              (pe_and (pe_cmpR (op_in_dict hr.u1) pe_str (pe_var (i := 0) rfl (.inl rfl)) (by with_unfolding_all rfl))
                (pe_one (pe_cmpR op_eq (pe_callB call_lenRK rfl T.n_len boot_len (pa_cons (pe_var (i := 0) rfl (.inl rfl)) pa_nil)) (pe_callB call_lenRK rfl T.n_len boot_len (pa_cons (pe_var (i := 1) rfl (.inl rfl)) pa_nil)) (nomark _))))))
            (pss_cons (ps_expr (pe_dpop1 (pe_var (i := 1) rfl (.inl rfl)) pe_str ⟨rfl, rfl, rfl, rfl⟩))
              (pss_one (ps_ret (pe_and (pe_var (i := 2) rfl (.inl rfl)) (pe_one (pe_call F1 (hr.mono (by decide)) rfl hmS hkS hbS .nil passes_cx (pa_cons (pe_var (i := 0) rfl (.inl rfl)) (pa_cons (pe_var (i := 1) rfl (.inl rfl)) pa_nil)))))))))) pss_nil)
      (pss_one (ps_ret (pe_call F1 (hr.mono (by decide)) rfl hmS hkS hbS .nil passes_cx (pa_cons (pe_var (i := 0) rfl (.inl rfl)) (pa_cons (pe_var (i := 1) rfl (.inl rfl)) pa_nil)))))), ?_⟩
  have e0 : L2.start [("found" : Str), ("due" : Str), ("same" : Str)] [x, x] = [some x, some x, none] := rfl
  rw [e0]
  have cl := T.cl
  -- what isinstance says of x
  have isa : ∀ {H1 : Hp} {dd : D} {ks : List Str} {t : String} {Qb : VK}, Rep (He.ga K) H1 dd x → D.kinds L dd = some ks → KitF K (He.ga K) L (.type t) t → Qb (.bl (ks.contains (t : Str))) H1 → rIk K [x, .ty t] H1 Qb := fun {H1 dd ks t Qb} r1 hk kit q => by
    obtain ⟨tv, ty, ki⟩ := kind_ty (X := cxOf (L2.CX P w) P w K mg base [("found" : Str), ("due" : Str), ("same" : Str)] "_law_very" (defScope (top 70)) (He.ga K "_law_very") cdv A outer s H E) (c := Ct.of (He.ga K) fun _ _ => False) r1 hk cl
    exact ⟨x, .ty t, tv, .type t, _, rfl, .ty _, ty, ki _ _ kit, q⟩
  -- the last call
  have fin : ∀ (σ : L2.St) (H1 : Hp) (Q' : VK), σ[0]? = some (some x) → σ[1]? = some (some x) → (∀ b o, b ∉ as → H b = some o → H1 b = some o) → RepO (He.ga K) G H1 .mx d x as → (∀ H', Q (.bl true) H' → Q' (.bl true) H') → tCall (SpF (Ct.of (He.ga K) fun _ _ => False) (F__law_same 6) .fz) [] E (tCons (tVar 0) (tCons (tVar 1) tNil)) σ H1 Q' := fun σ H1 Q' s0 s1 hk hr1 hQ => by
    refine ⟨x, s0, x, s1, none, frz G H1 as, [.d d, .d d], ⟨[], 0, 0, 0⟩, ?_, trivial, ?_, ?_⟩
    · have sm : Same G H1 := fun b o q => hk b o (fun z => by rw [hG b z] at q; cases q) (sub _ _ q)
      exact frz_sub sm
    · have sm : Same G H1 := fun b o q => hk b o (fun z => by rw [hG b z] at q; cases q) (sub _ _ q)
      have r2 : Rep (He.ga K) (frz G H1 as) d x := hr1.into (frz_same sm) fun a ha o q => by rw [frz_in ha, q]
      exact .cons (.d r2) (.cons (.d r2) .nil)
    · rw [ok.same]
      intro v G' H' e' s' r'
      have r' := r'.fz
      simp only [Rep] at r'
      subst r'
      refine hQ H' (hq H' (fun b o hb q => e'.h b o (fun z => by cases z) (by simp) (hk b o hb q)) (hr1.agree (Same.refl _) fun a ha => ?_))
      obtain ⟨o, q⟩ := hr1.there a ha
      rw [q, e'.h a o (fun z => by cases z) (by simp) q]
  obtain ⟨ks, hks⟩ := ok.kin
  have r0 := r
  simp only [RepO] at r
  rcases r with ⟨rfl, hi, r1⟩ | ⟨a, xs, vs, rfl, rfl, rfl, r1, r2⟩ | ⟨a, t, kk, xs, vs, rfl, rfl, rfl, r1, r2⟩
  · -- it can't be changed
    have r1' := r1.mono sub
    have hl : ks.contains ("list" : Str) = false ∧ ks.contains ("dict" : Str) = false := ok.imm hi ks hks
    refine ⟨x, rfl, ?_⟩
    dsimp only [tCons, tC, tNil]
    refine isa r1' hks T.k_list ?_
    rw [hl.1]
    refine ⟨false, rfl, iteF ?_⟩
    refine ⟨x, rfl, ?_⟩
    dsimp only [tCons, tC, tNil]
    refine isa r1' hks T.k_dict ?_
    rw [hl.2]
    refine ⟨false, rfl, iteF ?_⟩
    exact fin _ H _ rfl rfl (fun b o _ q => q) r0 fun H' q => q
  · -- a list
    cases hks
    have rl : Rep (He.ga K) H (.lst xs) (.ref a) := by
      simp only [Rep]
      exact ⟨a, vs, rfl, r1, r2.mono sub⟩
    have hz := ok.lst xs rfl
    have hz2 : vs.length < 1000 := by rw [r2.length]; exact hz
    refine ⟨.ref a, rfl, ?_⟩
    dsimp only [tCons, tC, tNil]
    refine isa rl rfl T.k_list ?_
    refine ⟨true, rfl, iteT ?_⟩
    refine ⟨.ref a, rfl, .inl ⟨rfl, vs, SqL.of r1⟩, a, vs, _, rfl, rfl, r1, by rw [sizeLine_eq]; omega, ?_⟩
    have g0 : G a = none := hG a (by simp)
    have sub1 : Same G (upd H a (.lst (vs ++ [.str "more"]))) := fun b o q => by
      rw [upd_ne fun z => by rw [z, g0] at q; cases q]
      exact sub _ _ q
    have r3 : RepL (He.ga K) G (xs ++ [.str "more"]) (vs ++ [.str "more"]) := r2.append (.cons (by simp only [Rep]) .nil)
    have rl1 : Rep (He.ga K) (upd H a (.lst (vs ++ [.str "more"]))) (.lst (xs ++ [.str "more"])) (.ref a) := by
      simp only [Rep]
      exact ⟨a, _, rfl, upd_same, r3.mono sub1⟩
    refine ⟨.ref a, rfl, ?_⟩
    dsimp only [tCons, tC, tNil]
    refine isa rl1 rfl T.k_list ?_
    refine ⟨true, rfl, ?_⟩
    rw [if_pos rfl]
    refine ⟨.ref a, rfl, .ref a, (vs ++ [V.str "more"]).length, rfl, .inl ⟨_, SqL.of upd_same, rfl⟩, ?_⟩
    refine ⟨.ref a, rfl, .ref a, (vs ++ [V.str "more"]).length, rfl, .inl ⟨_, SqL.of upd_same, rfl⟩, ?_⟩
    refine ⟨rfl, true, by simp, ?_⟩
    rw [if_pos rfl]
    refine ⟨.ref a, rfl, 1, rfl, .inl ⟨a, vs ++ [.str "more"], -1, .str "more", rfl, rfl, SqL.of upd_same, ?_, ?_⟩⟩
    · unfold L2.atI ixN
      rw [if_neg (by decide), if_pos (by rw [List.length_append, List.length_singleton]; omega), Option.bind_some, show ((-1 : Int) + ((vs ++ [V.str "more"]).length : Int)).toNat = vs.length by rw [List.length_append, List.length_singleton]; omega]
      simp
    refine ⟨rfl, ?_⟩
    rw [show decide (V.str "more" = V.str "more") = true by simp]
    refine ⟨.ref a, rfl, .inl ⟨rfl, _, SqL.of upd_same⟩, a, vs ++ [.str "more"], .str "more", rfl, rfl, upd_same, by simp, ?_⟩
    rw [upd_upd, List.dropLast_concat]
    refine ⟨.bl true, rfl, true, rfl, ?_⟩
    rw [if_pos rfl]
    refine fin _ _ _ rfl rfl (fun b o hb q => by rw [upd_ne (by simpa using hb)]; exact q) ?_ fun H' q => q
    simp only [RepO]
    exact .inr (.inl ⟨a, _, _, rfl, rfl, rfl, upd_same, r2⟩)
  · -- a dict
    cases hks
    obtain ⟨rfl, hz, hno⟩ := ok.dct _ _ _ rfl
    obtain ⟨kvs, r1, rfl, rfl⟩ := r1
    have g0 : G a = none := hG a (by simp)
    have rl : Rep (He.ga K) H (.dct false (kvs.map (fun p => DK.k p.1)) xs) (.ref a) := by
      simp only [Rep]
      exact ⟨a, _, rfl, ⟨kvs, .inl r1, rfl, rfl⟩, r2.mono sub⟩
    refine ⟨.ref a, rfl, ?_⟩
    dsimp only [tCons, tC, tNil]
    refine isa rl rfl T.k_list ?_
    refine ⟨false, rfl, iteF ?_⟩
    refine ⟨.ref a, rfl, ?_⟩
    dsimp only [tCons, tC, tNil]
    refine isa rl rfl T.k_dict ?_
    refine ⟨true, rfl, iteT ?_⟩
    have hz' : kvs.length < sizeLine := by
      rw [List.length_map] at hz
      rw [sizeLine_eq]
      omega
    refine ⟨.ref a, rfl, a, _, rfl, DPut.k (k := .inr "more") r1 hz', ?_⟩
    obtain ⟨d1, d2, d3⟩ := drop_put (v := V.int 1) hno
    obtain ⟨p1, p2⟩ := putK_rep (k := .inr "more") (d := .int 1) (v := .int 1) (cA := He.ga K) (G := G) (by simp only [Rep]) r2
    have sub1 : Same G (upd H a (.dK (putK kvs (.inr "more") (.int 1)))) := fun b o q => by
      rw [upd_ne fun z => by rw [z, g0] at q; cases q]
      exact sub _ _ q
    have rl1 : Rep (He.ga K) (upd H a (.dK (putK kvs (.inr "more") (.int 1)))) (.dct false ((putK kvs (.inr "more") (V.int 1)).map (fun p => DK.k p.1)) (D.putVs (.k (.inr "more")) (.int 1) (kvs.map (fun p => DK.k p.1)) xs)) (.ref a) := by
      simp only [Rep]
      exact ⟨a, _, rfl, ⟨_, .inl upd_same, rfl, rfl⟩, p2.mono sub1⟩
    refine ⟨.ref a, rfl, ?_⟩
    dsimp only [tCons, tC, tNil]
    refine isa rl1 rfl T.k_dict ?_
    refine ⟨true, rfl, ?_⟩
    rw [if_pos rfl]
    refine ⟨.ref a, rfl, a, some (.int 1), rfl, ?_, true, rfl, ?_⟩
    · have := DGet.k (H := upd H a (.dK (putK kvs (.inr "more") (V.int 1)))) (k := .inr "more") upd_same
      rw [d1] at this
      exact this
    rw [if_pos rfl]
    refine ⟨.ref a, rfl, a, _, rfl, .inl upd_same, ?_⟩
    refine ⟨.ref a, rfl, a, _, rfl, .inl upd_same, ?_⟩
    refine ⟨rfl, ?_⟩
    rw [show decide (V.int ((putK kvs (.inr "more") (V.int 1)).length : Int) = V.int ((putK kvs (.inr "more") (V.int 1)).length : Int)) = true by simp]
    refine ⟨.ref a, rfl, a, rfl, .inl ⟨_, .inl upd_same⟩, _, .inr "more", .int 1, upd_same, rfl, d1, ?_⟩
    rw [upd_upd, d2]
    refine ⟨.bl true, rfl, true, rfl, ?_⟩
    rw [if_pos rfl]
    refine fin _ _ _ rfl rfl (fun b o hb q => by rw [upd_ne (by simpa using hb)]; exact q) ?_ fun H' q => q
    simp only [RepO]
    exact .inr (.inr ⟨a, false, _, _, _, rfl, rfl, rfl, ⟨_, upd_same, rfl, rfl⟩, r2⟩)
end
end
end Law_k95
end

set_option maxHeartbeats 4000000
section
namespace Law_k95
open PySem PySem.Spec PyProof.Rows L2 Mir
noncomputable section
def ksM : List Str := ["BadMost", "ReceiptError", "ValueError", "Exception", "BaseException", "object"]
def kM : Kin := ⟨"BadMost", true, ksM⟩
theorem kM_in : kM ∈ L := by decide +kernel
/-- isinstance(e, C), e the exception that is handled, a BadMost -/
theorem pe_is {X : Cx} {a : Addr} {oe : Obj} {d : Option Addr} {n : Str} {C : Addr} {p1 p2 pos : Pos} {ce : Expr} (hold : Held X a oe) (hc : oe.cls = .ref (He.ga X.K "BadMost")) (hd : oe.dict = d) (xf : XcF X.K (He.ga X.K "BadMost")) (cl : PE X ce (tC (.ref C))) (kit : KitF X.K (He.ga X.K) L (.ref C) n)
    (hg : Gl X "isinstance") (hm : X.mg "isinstance" = none) (ev : PE X (.Name "e" p2) (tVar 0)) (he : starEach [.Name "e" p2, ce] X.env = (false, eval (.Name "e" p2) X.env) :: starEach [ce] X.env := by rfl) (he2 : starEach [ce] X.env = (false, eval ce X.env) :: starEach [] X.env := by rfl)
    (hpl : (backTo pos (starEach [ce] X.env)).any (·.1) = false := by rfl) :
    PE X (.Call (.Name "isinstance" p1) [.Name "e" p2, ce] [] pos) (fun σ H Q => σ[0]? = some (some (.ref a)) ∧ (∀ dx, d = some dx → ∃ fs, H dx = some (exd dx fs)) ∧ Q (.bl (ksM.contains n)) H) := by
  refine pe_imp (pe_callB (call_isA hold hc hd xf) hg hm (by decide +kernel) (pa_cons ev (pa_cons cl pa_nil he2) he) (by decide) (by decide) he hpl) fun σ H Q ⟨h1, h2, h3⟩ => ?_
  exact ⟨_, h1, .ref C, .ref C, _, rfl, .own _, h2, kit.ob kM kM_in, h3⟩
def toldL : List Bool := (["BadFees", "BadPart", "BadGuesses", "BadFilling", "NoFilling", "BadMost", "BadOthers", "BadMany", "NotSingle", "BadEdit", "BadDesk", "BadDeskText", "NothingToUndo", "NothingToRedo"] : List Str).map fun n => ksM.contains n
theorem told_eq : toldL = [false, false, false, false, false, true, false, false, false, false, false, false, false, false] := by decide +kernel
/-- _law_kinds_of(e) in the suite -/
def spKh (K : PySem.W.Frag) (a : Addr) (oe : Obj) : Sp := fun vs H Q _ => vs = [.ref a] ∧ oe.cls = .ref (He.ga K "BadMost") ∧ (∀ dx, oe.dict = some dx → ∃ fs, H dx = some (exd dx fs)) ∧ ∀ H' l, (∀ b o, H b = some o → H' b = some o) → H l = none → H' l = some (.lst [.int 5]) → Q (.ref l) H'
section
variable {P : Program} {w : World} {K : PySem.W.Frag} {mg : Str → Option Value} {base : Heap}
theorem ok_kindsA (T : En P w K mg base) : ∃ fd, FnA P w K mg base (L2.CX P w) 2 (He.ga K "_law_kinds_of") fd ["e"] (spKh K) ∧ mg "_law_kinds_of" = some (.ref (He.ga K "_law_kinds_of")) ∧ PySem.W.keepIn K (.ref (He.ga K "_law_kinds_of")) = true ∧ Binds K fd ["e"] [] := by
  obtain ⟨fd, F, hg⟩ := T.d__law_kinds_of
  have nd : N__law_kinds_of.Nodup := by decide
  have xf : XcF K (He.ga K "BadMost") := T.cl kM kM_in
  refine ⟨fd, fnA_of (N := N__law_kinds_of) F ⟨rfl, rfl, rfl, nd, rfl, by decide +kernel, by decide +kernel⟩ (fun a oe vs H Q E h => by rw [h.1]; rfl) (fun cdv A outer s H vs Q E a oe hot room h => ?_), hg, F.kp, F.bindsN (fun _ _ _ _ _ _ us hl => match us, hl with | [_], _ => rfl)⟩
  obtain ⟨rfl, hc, hfs, hq⟩ := h
  obtain ⟨d, hd⟩ : ∃ d, oe.dict = d := ⟨_, rfl⟩
  rw [hd] at hfs
  have hold : Held (L2H.cxH (L2.CX P w) P w K mg base N__law_kinds_of "_law_kinds_of" (defScope (top 63)) (He.ga K "_law_kinds_of") cdv A outer s H E (a, oe)) a oe := ⟨List.mem_singleton.mpr rfl, hot.1, hot.2⟩
  refine ⟨_, pss_cons (ps_set (i := 1) nd rfl (.inr rfl) (pe_lst (pa_cons (pe_is (d := d) hold hc hd xf (pe_glob (v := .ref (He.ga K "BadFees")) rfl T.g_BadFees rfl) T.k_BadFees rfl T.n_isinstance (pe_var (i := 0) rfl (.inl rfl))) (pa_cons (pe_is (d := d) hold hc hd xf (pe_glob (v := .ref (He.ga K "BadPart")) rfl T.g_BadPart rfl) T.k_BadPart rfl T.n_isinstance (pe_var (i := 0) rfl (.inl rfl))) (pa_cons (pe_is (d := d) hold hc hd xf (pe_glob (v := .ref (He.ga K "BadGuesses")) rfl T.g_BadGuesses rfl) T.k_BadGuesses rfl T.n_isinstance (pe_var (i := 0) rfl (.inl rfl))) (pa_cons (pe_is (d := d) hold hc hd xf (pe_glob (v := .ref (He.ga K "BadFilling")) rfl T.g_BadFilling rfl) T.k_BadFilling rfl T.n_isinstance (pe_var (i := 0) rfl (.inl rfl))) (pa_nil))))))) (pss_cons (ps_expr (pe_bm PySem.F.plainAttrs_list PySem.F.slot_list_extend PySem.F.type_list_extend mt_extend (pe_var (i := 1) rfl (.inr (.inl rfl))) (pa_cons (pe_lst (pa_cons (pe_is (d := d) hold hc hd xf (pe_glob (v := .ref (He.ga K "NoFilling")) rfl T.g_NoFilling rfl) T.k_NoFilling rfl T.n_isinstance (pe_var (i := 0) rfl (.inl rfl))) (pa_cons (pe_is (d := d) hold hc hd xf (pe_glob (v := .ref (He.ga K "BadMost")) rfl T.g_BadMost rfl) T.k_BadMost rfl T.n_isinstance (pe_var (i := 0) rfl (.inl rfl))) (pa_cons (pe_is (d := d) hold hc hd xf (pe_glob (v := .ref (He.ga K "BadOthers")) rfl T.g_BadOthers rfl) T.k_BadOthers rfl T.n_isinstance (pe_var (i := 0) rfl (.inl rfl))) (pa_cons (pe_is (d := d) hold hc hd xf (pe_glob (v := .ref (He.ga K "BadMany")) rfl T.g_BadMany rfl) T.k_BadMany rfl T.n_isinstance (pe_var (i := 0) rfl (.inl rfl))) (pa_nil)))))) pa_nil))) (pss_cons (ps_expr (pe_bm PySem.F.plainAttrs_list PySem.F.slot_list_extend PySem.F.type_list_extend mt_extend (pe_var (i := 1) rfl (.inr (.inl rfl))) (pa_cons (pe_lst (pa_cons (pe_is (d := d) hold hc hd xf (pe_glob (v := .ref (He.ga K "NotSingle")) rfl T.g_NotSingle rfl) T.k_NotSingle rfl T.n_isinstance (pe_var (i := 0) rfl (.inl rfl))) (pa_cons (pe_is (d := d) hold hc hd xf (pe_glob (v := .ref (He.ga K "BadEdit")) rfl T.g_BadEdit rfl) T.k_BadEdit rfl T.n_isinstance (pe_var (i := 0) rfl (.inl rfl))) (pa_cons (pe_is (d := d) hold hc hd xf (pe_glob (v := .ref (He.ga K "BadDesk")) rfl T.g_BadDesk rfl) T.k_BadDesk rfl T.n_isinstance (pe_var (i := 0) rfl (.inl rfl))) (pa_cons (pe_is (d := d) hold hc hd xf (pe_glob (v := .ref (He.ga K "BadDeskText")) rfl T.g_BadDeskText rfl) T.k_BadDeskText rfl T.n_isinstance (pe_var (i := 0) rfl (.inl rfl))) (pa_nil)))))) pa_nil))) (pss_cons (ps_expr (pe_bm PySem.F.plainAttrs_list PySem.F.slot_list_extend PySem.F.type_list_extend mt_extend (pe_var (i := 1) rfl (.inr (.inl rfl))) (pa_cons (pe_lst (pa_cons (pe_is (d := d) hold hc hd xf (pe_glob (v := .ref (He.ga K "NothingToUndo")) rfl T.g_NothingToUndo rfl) T.k_NothingToUndo rfl T.n_isinstance (pe_var (i := 0) rfl (.inl rfl))) (pa_cons (pe_is (d := d) hold hc hd xf (pe_glob (v := .ref (He.ga K "NothingToRedo")) rfl T.g_NothingToRedo rfl) T.k_NothingToRedo rfl T.n_isinstance (pe_var (i := 0) rfl (.inl rfl))) (pa_nil)))) pa_nil))) (pss_one (ps_ret (pe_lcA (own := [("k", 2)]) hold nd (pi_rangeA (n := 14) rfl T.n_range (by decide)) (blkOk_by (by kernel_rfl)) (fun _ _ _ _ _ => pg_name (i := 2) nd rfl (.inl rfl)) (fun _ _ _ _ _ => pts_one (pt_val (pe_ix (r := rIx K) ix_seq (pe_var (i := 1) rfl (.inr (.inl rfl))) (pe_var (i := 2) rfl (.inl rfl)) (fun _ _ => rfl)))) (fun _ _ _ _ _ => pe_var (i := 2) rfl (.inl rfl)))))))), ?_⟩
  have keep : ∀ {H1 : Hp} {l : Addr} {o : HO}, (∀ b o, H b = some o → H1 b = some o) → H l = none → ∀ b o', H b = some o' → upd H1 l o b = some o' := fun {H1 l o} k hl b o' q => by
    rw [upd_ne (fun z => by rw [z, hl] at q; cases q)]
    exact k b o' q
  have fl : ∀ {H1 : Hp}, (∀ b o, H b = some o → H1 b = some o) → ∀ dx, d = some dx → ∃ fs, H1 dx = some (exd dx fs) := fun {H1} k dx e => by
    obtain ⟨fs, q⟩ := hfs dx e
    exact ⟨fs, k _ _ q⟩
  have gone : ∀ {H1 : Hp} {m : Addr}, (∀ b o, H b = some o → H1 b = some o) → H1 m = none → H m = none := fun {H1 m} k hm => by
    cases z : H m with
    | none => rfl
    | some o => rw [k m o z] at hm; cases hm
  have k0 : ∀ b o, H b = some o → H b = some o := fun _ _ q => q
  refine ⟨rfl, fl k0, rfl, fl k0, rfl, fl k0, rfl, fl k0, sz (n := 4), fun l hl => ?_⟩
  have k1 := keep (o := .lst [.bl (ksM.contains "BadFees"), .bl (ksM.contains "BadPart"), .bl (ksM.contains "BadGuesses"), .bl (ksM.contains "BadFilling")]) k0 hl
  obtain ⟨H1, e1⟩ : ∃ H1, H1 = upd H l (.lst [.bl (ksM.contains "BadFees"), .bl (ksM.contains "BadPart"), .bl (ksM.contains "BadGuesses"), .bl (ksM.contains "BadFilling")]) := ⟨_, rfl⟩
  have l1 : H1 l = some (.lst [.bl (ksM.contains "BadFees"), .bl (ksM.contains "BadPart"), .bl (ksM.contains "BadGuesses"), .bl (ksM.contains "BadFilling")]) := by rw [e1, upd_same]
  rw [← e1] at k1 ⊢
  have nel : ∀ {H1 : Hp} {bs : List V} {m : Addr}, H1 l = some (.lst bs) → H1 m = none → l ≠ m := fun {H1 bs m} q hm z => by rw [z, hm] at q; cases q
  refine ⟨.ref l, rfl, .inl ⟨rfl, _, SqL.of l1⟩, rfl, fl k1, rfl, fl k1, rfl, fl k1, rfl, fl k1, sz (n := 4), fun m hm => ?_⟩
  refine ⟨l, m, _, _, rfl, rfl, by rw [upd_ne (nel l1 hm)]; exact l1, upd_same, by rw [sizeLine_eq]; simp, ?_⟩
  have k2 := fun bs => keep (o := .lst bs) (keep (o := .lst [.bl (ksM.contains "NoFilling"), .bl (ksM.contains "BadMost"), .bl (ksM.contains "BadOthers"), .bl (ksM.contains "BadMany")]) k1 (gone k1 hm)) (gone k0 hl)
  obtain ⟨H2, e2⟩ : ∃ H2, H2 = upd (upd H1 m (.lst [.bl (ksM.contains "NoFilling"), .bl (ksM.contains "BadMost"), .bl (ksM.contains "BadOthers"), .bl (ksM.contains "BadMany")])) l (.lst ([.bl (ksM.contains "BadFees"), .bl (ksM.contains "BadPart"), .bl (ksM.contains "BadGuesses"), .bl (ksM.contains "BadFilling")] ++ [.bl (ksM.contains "NoFilling"), .bl (ksM.contains "BadMost"), .bl (ksM.contains "BadOthers"), .bl (ksM.contains "BadMany")])) := ⟨_, rfl⟩
  have l2 := congrFun e2 l
  rw [upd_same] at l2
  have k2 := k2 ([.bl (ksM.contains "BadFees"), .bl (ksM.contains "BadPart"), .bl (ksM.contains "BadGuesses"), .bl (ksM.contains "BadFilling")] ++ [.bl (ksM.contains "NoFilling"), .bl (ksM.contains "BadMost"), .bl (ksM.contains "BadOthers"), .bl (ksM.contains "BadMany")])
  rw [← e2] at k2
  show (_ : Hp → Prop) (upd (upd H1 m (.lst [.bl (ksM.contains "NoFilling"), .bl (ksM.contains "BadMost"), .bl (ksM.contains "BadOthers"), .bl (ksM.contains "BadMany")])) l (.lst ([.bl (ksM.contains "BadFees"), .bl (ksM.contains "BadPart"), .bl (ksM.contains "BadGuesses"), .bl (ksM.contains "BadFilling")] ++ [.bl (ksM.contains "NoFilling"), .bl (ksM.contains "BadMost"), .bl (ksM.contains "BadOthers"), .bl (ksM.contains "BadMany")])))
  rw [← e2]
  clear e2
  refine ⟨.ref l, rfl, .inl ⟨rfl, _, SqL.of l2⟩, rfl, fl k2, rfl, fl k2, rfl, fl k2, rfl, fl k2, sz (n := 4), fun m hm => ?_⟩
  refine ⟨l, m, _, _, rfl, rfl, by rw [upd_ne (nel l2 hm)]; exact l2, upd_same, by rw [sizeLine_eq]; simp, ?_⟩
  have k3 := fun bs => keep (o := .lst bs) (keep (o := .lst [.bl (ksM.contains "NotSingle"), .bl (ksM.contains "BadEdit"), .bl (ksM.contains "BadDesk"), .bl (ksM.contains "BadDeskText")]) k2 (gone k2 hm)) (gone k0 hl)
  obtain ⟨H3, e3⟩ : ∃ H3, H3 = upd (upd H2 m (.lst [.bl (ksM.contains "NotSingle"), .bl (ksM.contains "BadEdit"), .bl (ksM.contains "BadDesk"), .bl (ksM.contains "BadDeskText")])) l (.lst ([.bl (ksM.contains "BadFees"), .bl (ksM.contains "BadPart"), .bl (ksM.contains "BadGuesses"), .bl (ksM.contains "BadFilling"), .bl (ksM.contains "NoFilling"), .bl (ksM.contains "BadMost"), .bl (ksM.contains "BadOthers"), .bl (ksM.contains "BadMany")] ++ [.bl (ksM.contains "NotSingle"), .bl (ksM.contains "BadEdit"), .bl (ksM.contains "BadDesk"), .bl (ksM.contains "BadDeskText")])) := ⟨_, rfl⟩
  have l3 := congrFun e3 l
  rw [upd_same] at l3
  have k3 := k3 ([.bl (ksM.contains "BadFees"), .bl (ksM.contains "BadPart"), .bl (ksM.contains "BadGuesses"), .bl (ksM.contains "BadFilling"), .bl (ksM.contains "NoFilling"), .bl (ksM.contains "BadMost"), .bl (ksM.contains "BadOthers"), .bl (ksM.contains "BadMany")] ++ [.bl (ksM.contains "NotSingle"), .bl (ksM.contains "BadEdit"), .bl (ksM.contains "BadDesk"), .bl (ksM.contains "BadDeskText")])
  rw [← e3] at k3
  show (_ : Hp → Prop) (upd (upd H2 m (.lst [.bl (ksM.contains "NotSingle"), .bl (ksM.contains "BadEdit"), .bl (ksM.contains "BadDesk"), .bl (ksM.contains "BadDeskText")])) l (.lst ([.bl (ksM.contains "BadFees"), .bl (ksM.contains "BadPart"), .bl (ksM.contains "BadGuesses"), .bl (ksM.contains "BadFilling"), .bl (ksM.contains "NoFilling"), .bl (ksM.contains "BadMost"), .bl (ksM.contains "BadOthers"), .bl (ksM.contains "BadMany")] ++ [.bl (ksM.contains "NotSingle"), .bl (ksM.contains "BadEdit"), .bl (ksM.contains "BadDesk"), .bl (ksM.contains "BadDeskText")])))
  rw [← e3]
  clear e3
  refine ⟨.ref l, rfl, .inl ⟨rfl, _, SqL.of l3⟩, rfl, fl k3, rfl, fl k3, sz (n := 2), fun m hm => ?_⟩
  refine ⟨l, m, _, _, rfl, rfl, by rw [upd_ne (nel l3 hm)]; exact l3, upd_same, by rw [sizeLine_eq]; simp, ?_⟩
  have k4 := fun bs => keep (o := .lst bs) (keep (o := .lst [.bl (ksM.contains "NothingToUndo"), .bl (ksM.contains "NothingToRedo")]) k3 (gone k3 hm)) (gone k0 hl)
  obtain ⟨H4, e4⟩ : ∃ H4, H4 = upd (upd H3 m (.lst [.bl (ksM.contains "NothingToUndo"), .bl (ksM.contains "NothingToRedo")])) l (.lst ([.bl (ksM.contains "BadFees"), .bl (ksM.contains "BadPart"), .bl (ksM.contains "BadGuesses"), .bl (ksM.contains "BadFilling"), .bl (ksM.contains "NoFilling"), .bl (ksM.contains "BadMost"), .bl (ksM.contains "BadOthers"), .bl (ksM.contains "BadMany"), .bl (ksM.contains "NotSingle"), .bl (ksM.contains "BadEdit"), .bl (ksM.contains "BadDesk"), .bl (ksM.contains "BadDeskText")] ++ [.bl (ksM.contains "NothingToUndo"), .bl (ksM.contains "NothingToRedo")])) := ⟨_, rfl⟩
  have l4 := congrFun e4 l
  rw [upd_same] at l4
  have k4 := k4 ([.bl (ksM.contains "BadFees"), .bl (ksM.contains "BadPart"), .bl (ksM.contains "BadGuesses"), .bl (ksM.contains "BadFilling"), .bl (ksM.contains "NoFilling"), .bl (ksM.contains "BadMost"), .bl (ksM.contains "BadOthers"), .bl (ksM.contains "BadMany"), .bl (ksM.contains "NotSingle"), .bl (ksM.contains "BadEdit"), .bl (ksM.contains "BadDesk"), .bl (ksM.contains "BadDeskText")] ++ [.bl (ksM.contains "NothingToUndo"), .bl (ksM.contains "NothingToRedo")])
  rw [← e4] at k4
  show (_ : Hp → Prop) (upd (upd H3 m (.lst [.bl (ksM.contains "NothingToUndo"), .bl (ksM.contains "NothingToRedo")])) l (.lst ([.bl (ksM.contains "BadFees"), .bl (ksM.contains "BadPart"), .bl (ksM.contains "BadGuesses"), .bl (ksM.contains "BadFilling"), .bl (ksM.contains "NoFilling"), .bl (ksM.contains "BadMost"), .bl (ksM.contains "BadOthers"), .bl (ksM.contains "BadMany"), .bl (ksM.contains "NotSingle"), .bl (ksM.contains "BadEdit"), .bl (ksM.contains "BadDesk"), .bl (ksM.contains "BadDeskText")] ++ [.bl (ksM.contains "NothingToUndo"), .bl (ksM.contains "NothingToRedo")])))
  rw [← e4]
  clear e4
  have l5 : H4 l = some (.lst (toldL.map V.bl)) := l4
  rw [told_eq] at l5
  refine fun r hr => ?_
  have nr : l ≠ r := fun z => by rw [z, hr] at l5; cases l5
  refine lc_range (lo := 0) (n := 14) (fun i H' => (∀ b o, H b = some o → H' b = some o) ∧ H' l = H4 l ∧ H' r = some (.lst (if i ≤ 5 then [] else [.int 5]))) ⟨keep k4 (gone k4 hr), by rw [upd_ne nr], upd_same⟩ (fun i H' lt p => ?_) fun H' p => ?_
  · obtain ⟨p1, p2, p3⟩ := p
    have at' : ∀ j : Nat, j < 14 → L2.atI (([false, false, false, false, false, true, false, false, false, false, false, false, false, false] : List Bool).map V.bl) (0 + (j : Int)) = some (.bl (decide (j = 5))) := fun j hj => match j, hj with
      | 0, _ => rfl
      | 1, _ => rfl
      | 2, _ => rfl
      | 3, _ => rfl
      | 4, _ => rfl
      | 5, _ => rfl
      | 6, _ => rfl
      | 7, _ => rfl
      | 8, _ => rfl
      | 9, _ => rfl
      | 10, _ => rfl
      | 11, _ => rfl
      | 12, _ => rfl
      | 13, _ => rfl
    refine ⟨rfl, .ref l, rfl, .int (0 + (i : Int)), rfl, .inl ⟨l, _, _, _, rfl, rfl, SqL.of (p2.trans l5), at' i lt, _, rfl, ?_⟩⟩
    by_cases h5 : i = 5
    · subst h5
      rw [if_pos (show decide (5 = 5) = true by decide)]
      refine ⟨.int (0 + (5 : Nat)), rfl, [], by rw [p3]; rfl, by rw [sizeLine_eq]; decide, fun b o q => ?_, ?_, ?_⟩
      · rw [upd_ne (fun z => by rw [z, gone k4 hr] at q; cases q)]
        exact p1 b o q
      · rw [upd_ne nr]
        exact p2
      · rw [upd_same]
        rfl
    · dsimp only
      rw [if_neg (show ¬(decide (i = 5) = true) by simpa using h5)]
      refine ⟨p1, p2, ?_⟩
      rw [p3]
      by_cases h6 : i ≤ 5
      · rw [if_pos h6, if_pos (by omega)]
      · rw [if_neg h6, if_neg (by omega)]
  · exact hq H' r p.1 (gone k4 hr) p.2.2
def F_caught : Fn := fun as => match as with
  | [.d _] => pure (.tup [.lst [.int 5], .lst [], .bl false, .bl true])
  | _ => M.stuck
theorem caught_run (x : D) (ds : DS) : m_caught [.d x, .d (.lst [.int 5]), .un, .un] ds = .ok (.rt (.tup [.lst [.int 5], .lst [], .bl false, .bl true])) ds := rfl
def kR : Kin := ⟨"ReceiptError", true, ["ReceiptError", "ValueError", "Exception", "BaseException", "object"]⟩
theorem kR_in : kR ∈ L := by decide +kernel
theorem exm_ok (T : En P w K mg base) : PySem.W.exmOne K (.ref (He.ga K "BadMost")) (.ref (He.ga K "ReceiptError")) = some true := by
  have h1 : PySem.W.kitOne K (.ref (He.ga K "BadMost")) (.ref (He.ga K "ReceiptError")) = some true := (T.k_ReceiptError.ob kM kM_in).trans (by decide +kernel)
  have h2 : PySem.W.kitOne K (.ref (He.ga K "ReceiptError")) (.ref (He.ga K "BadMost")) = some false := (T.k_BadMost.ob kR kR_in).trans (by decide +kernel)
  have ne : He.ga K "BadMost" ≠ He.ga K "ReceiptError" := fun z => by
    rw [z] at h2
    unfold PySem.W.kitOne at h2
    rw [if_pos (by simp)] at h2
    cases h2
  have xR : XcF K (He.ga K "ReceiptError") := T.cl kR kR_in
  unfold PySem.W.exmOne
  rw [if_pos (by rw [xR.xf.exC]; rfl)]
  unfold PySem.W.kitOne at h1
  rwa [if_neg (by simpa using ne)] at h1
abbrev tsC (K : PySem.W.Frag) (a : Addr) (cls : Value) (d : Option Addr) : TS := tAsg (fun σ H Q => σ[3]? = some (some (.ref a)) ∧ cls = .ref (He.ga K "BadMost") ∧ (∀ dx, d = some dx → ∃ fs, H dx = some (exd dx fs)) ∧
  ∀ H' l, (∀ b o, H b = some o → H' b = some o) → H l = none → H' l = some (.lst [.int 5]) → Q (.ref l) H') (gName 1)
abbrev tbC (X0 : Cx) (W : WX) : TS := fun _ σ H => tXv (He.ga X0.K "BadMost") "most" (tCons (tVar 0) tNil) σ H fun x H1 => ∃ (a C : Addr) (d : Option Addr), x = .ref a ∧ H1 a = some (exo a C d) ∧ Fr0 X0.H_0 a ∧ Raises X0 (.ref C) ∧ W (.ref C) d σ (delH H1 a)
theorem ok_caught (T : En P w K mg base) : Cal P w K mg base "_law_caught" [("x" : Str)] 12 (SpF (Ct.of (He.ga K) fnv) F_caught .fz) := by
  obtain ⟨fd, F, hg⟩ := T.d__law_caught
  obtain ⟨fdK, FK, mK, kK, bK⟩ := ok_kindsA T
  obtain ⟨fI, fdI, XI, FI, bI, _⟩ := T.mx_BadMost
  have nd : N_caught.Nodup := by decide
  have xM : XcF K (He.ga K "BadMost") := T.cl kM kM_in
  refine ⟨_, fd, F.ok (N := N_caught) ⟨rfl, rfl, rfl, nd, rfl, by decide +kernel, by decide +kernel⟩ (fun vs H Q E ⟨S, G, as, ds, _, _, r, h⟩ => ?_) (fun cdv A outer s H vs Q E hr ⟨S, G, as, ds, sub, st, r, h⟩ => ?_), hg, F.kp, F.bindsN (fun _ _ _ _ _ _ us hl => match us, hl with | [_], _ => rfl)⟩
  · match as, r, h with
    | [.d x], .cons _ .nil, _ => rfl
    | [], _, h => exact h.elim
    | [.un], _, h => exact h.elim
    | [.f _], _, h => exact h.elim
    | [.st], _, h => exact h.elim
    | a :: _ :: _, _, h => cases a <;> exact h.elim
  · have rest := fun (S : Option (Addr × Addr)) (G0 H0 : Hp) => gs_caught (fnv := fnv) T (hr.mono (by decide)) (E := E) (H := H) (s := s) (outer := outer) S G0 H0
    have rest' : PSs (cxCaught P w K mg base cdv A outer s H E) ((defBody (top 71)).drop 1) (fun Dn σ H' => ∃ S G0 H0, tGS ⟨He.ga K, S, [], G0, H0, E, fnv⟩ [.ow .fz, .ow .fz, .un, .un] m_caught [] .fz Dn σ H') :=
      ⟨fun pins s' σ H' Dn I ⟨S, G0, H0, h⟩ => (rest S G0 H0).run pins s' σ H' Dn I h⟩
    refine ⟨_, pss_cons (L2N.ps_try_as (tb := tbC (cxCaught P w K mg base cdv A outer s H E)) (ts := tsC K) (Wout := fun _ _ _ _ => False) (i := 3) rfl rfl nd rfl rfl ⟨rfl, by decide, .inl T.g_ReceiptError⟩ (fun u s' ⟨_, _, _, _, _, _, _, _, _, _, _, _, _, _, _, _, z⟩ => z.elim)
      (fun W pn xe tk _ => pss_one (L2N.ps_raise rfl tk (pmk_exoN (X := (cxCaught P w K mg base cdv A outer s H E).tr pn xe) rfl (pe_xv (x := "BadMost") (X := (cxCaught P w K mg base cdv A outer s H E).tr pn xe) XI FI (hr.mono (by decide)) bI rfl passF rfl T.g_BadMost (pa_cons (pe_var (i := 0) rfl (.inl rfl)) pa_nil)))))
      (fun a oe cls d pn hz hf => pss_one (ps_set (i := 1) nd rfl (.inl rfl) (pe_imp (pe_callA FK ⟨(hr.mono (j := 2) (by decide)).dp, (hr.mono (j := 2) (by decide)).un⟩ ⟨List.mem_cons_self .., rfl, by obtain ⟨vs, e⟩ := hf; exact ⟨vs, e, hz.2.2 vs e⟩⟩ rfl mK kK bK rfl passF (pa_cons (pe_var (i := 3) rfl (.inl rfl)) pa_nil))
        fun σ H Q ⟨h1, h2, h3, h4⟩ => ⟨_, h1, rfl, rfl, hz.1.trans h2, fun dx e => h3 dx (hz.2.1.symm.trans e), h4⟩))))
      rest', ?_⟩
    obtain ⟨x, v, rfl, rfl, rx⟩ : ∃ x v, as = [.d x] ∧ vs = [v] ∧ Rep (He.ga K) G x v := by
      match as, r, h with
      | [.d x], .cons (.d rx) .nil, _ => exact ⟨x, _, rfl, rfl, rx⟩
      | [], _, h => exact h.elim
      | [.un], _, h => exact h.elim
      | [.f _], _, h => exact h.elim
      | [.st], _, h => exact h.elim
      | a :: _ :: _, _, h => cases a <;> exact h.elim
    refine ⟨v, rfl, v, rfl, fun a dx ha hdx ne => ⟨a, He.ga K "BadMost", some dx, rfl, upd_same, fr0_none ha, raises_own XI.o.exC XI.o.tyC, ?_⟩⟩
    refine ⟨true, exm_ok T, fun _ a' ha' => ?_, fun z => nomatch z⟩
    have k1 : ∀ b o, H b = some o → delH (upd (upd H dx (exd dx [("most", v)])) a (exo a (He.ga K "BadMost") (some dx))) a b = some o := fun b o q => by
      rw [delH_ne (ne_of_none q ha), upd_ne (ne_of_none q ha), upd_ne (ne_of_none q hdx)]
      exact q
    refine ⟨rfl, rfl, fun dx' e => ⟨[("most", v)], ?_⟩, fun H' l k2 hl hl2 => ?_⟩
    · cases e
      rw [delH_ne ne, upd_ne ne, upd_same]
    have k3 : ∀ b o, H b = some o → H' b = some o := fun b o q => k2 b o (k1 b o q)
    have hlH : H l = none := by
      cases z : H l with
      | none => rfl
      | some o =>
        have := (k1 l o z).symm.trans hl
        cases this
    have hlG : G l = none := free_of sub hlH
    have sub2 : Same (upd G l (.lst [.int 5])) H' := fun b o q => by
      by_cases e : b = l
      · rw [e, upd_same] at q
        rw [e, hl2, q]
      · rw [upd_ne e] at q
        exact k3 b o (sub b o q)
    have e1 : Ext S G H (upd G l (.lst [.int 5])) H' := by
      refine ⟨fun b o q => by rw [upd_ne (ne_of_none q hlG)]; exact q, fun b o _ _ q => k3 b o q, fun b o q => ⟨o, k3 b o q⟩, fun b o q => ?_, sub2⟩
      by_cases e : b = l
      · exact .inr (by rw [e]; exact hlH)
      · rw [upd_ne e] at q
        exact .inl q
    have st2 : StOk S (upd G l (.lst [.int 5])) H' ds := by
      have nl : ∀ b ∈ stN S, b ≠ l := fun b hb => by
        obtain ⟨o, q⟩ := st.there hb
        exact ne_of_none q hlH
      refine st.at (fun b hb => upd_ne (nl b hb)) fun b hb => ?_
      obtain ⟨o, q⟩ := st.there hb
      rw [k3 b o q, q]
    -- behind the try: the names, the heap
    refine ⟨S, upd G l (.lst [.int 5]), H', upd G l (.lst [.int 5]), [.d x, .d (.lst [.int 5]), .un, .un], ds, ?_, ?_⟩
    · have es : ((((L2.start N_caught [v]).set 3 (some (.ref a'))).set 1 (some (.ref l))).set 3 none) = ([v, .ref l] : List V).map some ++ List.replicate 2 none := rfl
      rw [es]
      refine good_start (kd := [.d, .d]) (n := 2) (as := [.d x, .d (.lst [.int 5])]) rfl rfl sub2 st2 rfl (.cons (.d (rx.mono e1.g)) (.cons (.d ?_) .nil))
      simp only [Rep]
      exact ⟨l, [.int 5], rfl, upd_same, .cons (by simp only [Rep]) .nil⟩
    · rw [caught_run]
      intro u G' H'' e' s' r'
      exact (show OkQ _ G H fz Q (.tup [.lst [.int 5], .lst [], .bl false, .bl true]) ds from h) u G' H'' (e1.trans e') s' (.of_fz r'.fz)
end
end
end Law_k95
end

set_option maxHeartbeats 4000000
section
namespace Law_k95
open PySem PySem.Spec PyProof.Rows L2 Mir
noncomputable section
/-! ### statements by mirrors ahead of statements by hand -/
def tGX (c : Ct) (Γ : List Md) (m : MS) (Γ' : List Md) (u : TS) : TS := fun Dn σ H => ∃ G env ds, Good c Γ G H σ env ds ∧ Mir.Run (m env ds) (fun r ds' => match r with
  | .nx env' => ∀ σ' G' H', Same G G' → Good c Γ' G' H' σ' env' ds' → u Dn σ' H'
  | .rt _ => False) (fun _ _ _ _ => False)
theorem gx_nil {X : Cx} {c : Ct} {Γ : List Md} {rest : List Stmt} {u : TS} (h : PSs X rest u) : PSs X rest (tGX c Γ S.skip Γ u) :=
  pss_imp h fun Dn σ H ⟨G, env, ds, g, q⟩ => (show ∀ σ' G' H', Same G G' → Good c Γ G' H' σ' env ds → u Dn σ' H' from q) σ G H (Same.refl _) g
theorem gx_cons {X : Cx} {c : Ct} {Γ Γ1 Γ2 : List Md} {st : Stmt} {rest : List Stmt} {u : TS} {m1 m2 : MS} {mo : Ow} (h1 : GS X c Γ st m1 Γ1 mo) (h2 : PSs X rest (tGX c Γ1 m2 Γ2 u)) : PSs X (st :: rest) (tGX c Γ (S.seq m1 m2) Γ2 u) :=
  pss_imp (pss_cons h1 h2) fun Dn σ H ⟨G, env, ds, g, h⟩ => ⟨G, env, ds, g, h.bind.mono (fun r ds1 q => by
    cases r with
    | nx env' => exact fun σ' G' H' sm g' => ⟨G', env', ds1, g', Mir.Run.mono q (fun r ds2 z => by
        cases r with
        | nx e2 => exact fun σ2 G2 H2 sm2 g2 => z σ2 G2 H2 (sm.trans sm2) g2
        | rt d => exact z) fun _ _ _ _ z => z⟩
    | rt d => exact (show False from q).elim) fun _ _ _ _ q => q.elim⟩
/-! ### the names of what is made -/
def nmAt : Nat → Str
  | 0 => "BadFees" | 1 => "BadPart" | 2 => "BadGuesses" | 3 => "BadFilling" | 4 => "NoFilling" | 5 => "BadMost" | 6 => "BadOthers" | 7 => "BadMany" | 8 => "NotSingle" | 9 => "BadEdit" | 10 => "BadDesk" | 11 => "BadDeskText" | 12 => "NothingToUndo" | _ => "NothingToRedo"
def fldAt : Nat → Str
  | 0 => "fees" | 1 => "part" | 2 => "guesses" | 3 => "filling" | 4 => "guesses" | 5 => "most" | 6 => "others" | 7 => "many" | 8 => "choices" | 9 => "edit" | 10 => "desk" | _ => "line"
def madeD (n : Nat) (x : V) : D := if n < 12 then .xc (nmAt n) [fldAt n] [.raw x] else .xc (nmAt n) [] []
/-- the statements between: what is made of x and y -/
def m_mid : MS := S.seq m_mid0 (S.seq m_mid1 (S.seq m_mid2 (S.seq m_mid3 S.skip)))
theorem mid_run (n : Nat) (hn : n < 14) (x y : V) (ds : DS) (e0 e1 e2 e6 e7 e8 e9 e10 : Val) :
    m_mid [e0, e1, e2, .d (.int n), .d (.raw x), .d (.raw y), e6, e7, e8, e9, e10] ds = .ok (.nx [e0, e1, e2, .d (.int n), .d (.raw x), .d (.raw y), .d (madeD n x), .d (.raw x), .d (madeD n y), .d (.raw y), e10]) ds := by
  match n, hn with
  | 0, _ => rfl
  | 1, _ => rfl
  | 2, _ => rfl
  | 3, _ => rfl
  | 4, _ => rfl
  | 5, _ => rfl
  | 6, _ => rfl
  | 7, _ => rfl
  | 8, _ => rfl
  | 9, _ => rfl
  | 10, _ => rfl
  | 11, _ => rfl
  | 12, _ => rfl
  | 13, _ => rfl
/-- the block's names forgotten -/
def clr (e : List Val) : List Val := ((((((e.set 9 .un).set 8 .un).set 7 .un).set 6 .un).set 5 .un).set 4 .un).set 3 .un
/-- the block's mirror -/
def S_blk : Mir.MS := fun (env : List Val) => M.nox (m_at env) >>= fun r => match r with
  | .nx env1 => (match env1[3]? with
    | some (Val.d (D.int i)) => if 0 ≤ i ∧ i < 14 then M.nox ((E.call F__law_object (E.aval (fun _ => .st) E.anil)) env1) >>= fun d1 => M.nox ((E.call F__law_object (E.aval (fun _ => .st) E.anil)) env1) >>= fun d2 =>
        (@ite _ (OkD d1 ∧ OkD d2) (Classical.propDecidable _) (pure (Fl.nx (clr env1)) : M Fl) M.stuck) else M.stuck
    | _ => M.stuck)
  | .rt _ => M.stuck
abbrev Γb : List Md := [.un, .st, .ow .fz, .un, .un, .un, .un, .un, .un, .un, .un]
abbrev Γ2b : List Md := [.un, .st, .ow .fz, .ow .fz, .ow .mx, .ow .mx, .un, .un, .un, .un, .un]
abbrev Γrb : List Md := [.un, .st, .ow .fz, .ow .fz, .ow .fz, .ow .fz, .un, .un, .un, .un, .un]
abbrev Γmb : List Md := [.un, .st, .ow .fz, .ow .fz, .ow .fz, .ow .fz, .ow .fz, .ow .fz, .ow .fz, .ow .fz, .un]
/-- slots that own nothing -/
def ownless : List Md → Bool
  | [] => true
  | .un :: Γ => ownless Γ
  | .fn :: Γ => ownless Γ
  | .st :: Γ => ownless Γ
  | .ow .fz :: Γ => ownless Γ
  | .ow _ :: _ => false
theorem ownless_flat {c : Ct} {G H : Hp} {Γ : List Md} {σ : L2.St} {env : List Val} {ass : List (List Addr)} (s : Slots c G H Γ σ env ass) (h : ownless Γ = true) : ass.flatten = [] := by
  induction s with
  | nil => rfl
  | un x e s ih => simpa using ih h
  | @ow _ _ _ _ m d v as r s ih =>
    cases m <;> first | (cases h; done) | skip
    simp only [RepO] at r
    rw [List.flatten_cons, r.1]
    simpa using ih h
  | fn f s ih => simpa using ih h
  | st f s ih => simpa using ih h
/-- the heaps at the entry taken anew -/
theorem rebase {c : Ct} {G H : Hp} {Γ : List Md} {σ : L2.St} {env : List Val} {ds : DS} (g : Good c Γ G H σ env ds) (h : ownless Γ = true) (hl : c.lent = []) : Good ⟨c.cA, c.S, [], G, H, c.E, c.fnv⟩ Γ G H σ env ds := by
  obtain ⟨ass, s, o⟩ := g.slots
  have fl := ownless_flat s h
  refine ⟨g.sub, g.st, ExtA.refl g.sub, ass, Slots.lk (c := c) ⟨rfl, rfl, rfl⟩ (fun b o q => .inl q) (fun _ _ => rfl) s, ⟨o.nd, o.fr, fun i as hi a ha => ?_⟩⟩
  have := mem_flatten_of hi ha
  rw [fl] at this
  simp at this
theorem flat_apart : ∀ {ass : List (List Addr)} {i j : Nat} {as bs : List Addr}, ass.flatten.Nodup → ass[i]? = some as → ass[j]? = some bs → i < j → ∀ a ∈ as, a ∉ bs
  | [], _, _, _, _, _, h, _, _ => by cases h
  | x :: l, 0, 0, _, _, _, _, _, h => absurd h (by decide)
  | x :: l, i + 1, 0, _, _, _, _, _, h => absurd h (by omega)
  | x :: l, 0, j + 1, as, bs, nd, hi, hj, _ => fun a ha hb => by
    cases hi
    rw [List.flatten_cons, List.nodup_append] at nd
    exact nd.2.2 a ha a (List.mem_flatten.mpr ⟨bs, List.mem_of_getElem? (l := l) (i := j) hj, hb⟩) rfl
  | x :: l, i + 1, j + 1, as, bs, nd, hi, hj, h => by
    rw [List.flatten_cons, List.nodup_append] at nd
    exact flat_apart nd.2.1 hi hj (by omega)
section
variable {P : Program} {w : World} {K : PySem.W.Frag} {mg : Str → Option Value} {base : Heap} {fnv : V → (List D → M D) → Prop}
abbrev t7b (K : PySem.W.Frag) : TS := tIfS (tOr (tNot (tB (tCall (spVery (He.ga K)) [] E0 (tCons (tVar 7) (tCons (tVar 4) tNil))))) (tNot (tB (tCall (spVery (He.ga K)) [] E0 (tCons (tVar 9) (tCons (tVar 5) tNil)))))) (tRet (tC (.bl false))) tNext
theorem blk_ok (T : En P w K mg base) {cdv : Value} {A : Around} {outer : List Env} {s : Shared} {H : Hp} {E : XK} (hr : roomLaw K 20 cdv A s) (S : Option (Addr × Addr)) (G0 H0 : Hp) (h7 : PS (cxLaw P w K mg base cdv A outer s H E) (blk.getD 6 noSt) (t7b K)) :
    GSs (cxLaw P w K mg base cdv A outer s H E) ⟨He.ga K, S, [], G0, H0, E, fnv⟩ Γb blk S_blk Γb .fz := by
  have mid : ∀ G0 H0, PSs (cxLaw P w K mg base cdv A outer s H E) (blk.drop 2) (tGX ⟨He.ga K, S, [], G0, H0, E, fnv⟩ Γrb m_mid Γmb (tSeq (t7b K) tNext)) := fun G0 H0 =>
    gx_cons (gs_mid0 T hr S G0 H0) (gx_cons (gs_mid1 T hr S G0 H0) (gx_cons (gs_mid2 T hr S G0 H0) (gx_cons (gs_mid3 T hr S G0 H0) (gx_nil (pss_cons h7 pss_nil)))))
  have mid' : PSs (cxLaw P w K mg base cdv A outer s H E) (blk.drop 2) (fun Dn σ H' => ∃ G0 H0, tGX ⟨He.ga K, S, [], G0, H0, E, fnv⟩ Γrb m_mid Γmb (tSeq (t7b K) tNext) Dn σ H') :=
    ⟨fun pins s σ H Dn I ⟨G0, H0, h⟩ => (mid G0 H0).run pins s σ H Dn I h⟩
  refine pss_imp (gx_cons (gs_at T hr S G0 H0) (gx_cons (gs_two T hr S G0 H0) (gx_nil mid'))) fun Dn σ H ⟨G, env, ds, g, h⟩ => ⟨G, env, ds, g, ?_⟩
  unfold S_blk at h
  refine ri_seq (h.bind.nox.mono (fun r ds0 q => ?_) fun _ _ _ _ z => z)
  cases r with
  | rt d => exact q.elim
  | nx env1 =>
  have q : Mir.Run ((match env1[3]? with
    | some (Val.d (D.int i)) => if 0 ≤ i ∧ i < 14 then M.nox ((Mir.E.call F__law_object (Mir.E.aval (fun _ => .st) Mir.E.anil)) env1) >>= fun d1 => M.nox ((Mir.E.call F__law_object (Mir.E.aval (fun _ => .st) Mir.E.anil)) env1) >>= fun d2 =>
        (@ite _ (OkD d1 ∧ OkD d2) (Classical.propDecidable _) (pure (Fl.nx (clr env1)) : M Fl) M.stuck) else M.stuck
    | _ => M.stuck : M Fl) ds0) (OkS ⟨He.ga K, S, [], G0, H0, E, fnv⟩ G Γb .fz Dn) (ExcS ⟨He.ga K, S, [], G0, H0, E, fnv⟩) := q
  obtain ⟨i, ei⟩ : ∃ i, env1[3]? = some (Val.d (D.int i)) := by
    cases hx : env1[3]? with
    | none => rw [hx] at q; exact q.elim
    | some v =>
      rw [hx] at q
      cases v with
      | d x => cases x <;> first | exact ⟨_, rfl⟩ | exact q.elim
      | _ => exact q.elim
  rw [ei] at q
  simp only at q
  by_cases hi : 0 ≤ i ∧ i < 14
  case neg =>
    rw [if_neg hi] at q
    exact q.elim
  rw [if_pos hi] at q
  obtain ⟨n, rfl⟩ : ∃ n : Nat, i = n := ⟨i.toNat, by omega⟩
  have hn : n < 14 := by omega
  refine ri_seq (Run.bi (ri_dcons (q.bind.nox.mono (fun d1 ds1 q1 => ri_dcons (q1.bind.nox.mono (fun d2 ds2 q2 => ri_dnil ?_) fun _ _ _ _ z => z)) fun _ _ _ _ z => z)))
  refine Run.bi (Run.li rfl ?_)
  split at q2
  case isFalse => exact q2.elim
  rename_i hok
  obtain ⟨ok1, ok2⟩ := hok
  have hb : OkS ⟨He.ga K, S, [], G0, H0, E, fnv⟩ G Γb .fz Dn (.nx (clr env1)) ds2 := q2
  refine ri_skip ?_
  intro σ1 G1 H1 sm1 g1
  -- what is drawn, where it stands
  obtain ⟨ass, sl, ow⟩ := g1.slots
  have le : env1.length = 11 := by
    have h := sl.len.2.1
    simp only [List.length_set] at h
    exact h
  obtain ⟨x1, d1', as1, p1, p2, p3, p4⟩ := sl.get (i := 4) (m := .mx) rfl
  obtain ⟨x2, d2', as2, r1, r2, r3, r4⟩ := sl.get (i := 5) (m := .mx) rfl
  have e1 : d1' = d1 := by
    rw [List.getElem?_set_ne (by decide), List.getElem?_set_self (by omega)] at p2
    cases p2
    rfl
  have e2 : d2' = d2 := by
    rw [List.getElem?_set_self (by rw [List.length_set]; omega)] at r2
    cases r2
    rfl
  subst e1 e2
  have apart := flat_apart ow.nd p3 r3 (by decide)
  have own : ∀ (j : Nat) (as : List Addr), ass[j]? = some as → j ≠ 0 → ∀ a ∈ as, G1 a = none ∧ a ∉ stN S ∧ H0 a = none := fun j as hj hj0 a ha => by
    refine ⟨(ow.fr a (mem_flatten_of hj ha)).1, (ow.fr a (mem_flatten_of hj ha)).2, ?_⟩
    rcases ow.en j as hj a ha with z | ⟨z, _⟩
    · exact z
    · exact absurd z hj0
  have o1 := own 4 as1 p3 (by decide)
  have o2 := own 5 as2 r3 (by decide)
  -- the things as they are
  have g3 : Good ⟨He.ga K, S, [], G0, H0, E, fnv⟩ Γrb G1 H1 σ1 (((((env1.set 4 (.d d1')).set 5 (.d d2')).set 4 (.d (.raw x1)))).set 5 (.d (.raw x2))) ds2 := by
    have a1 := ((g1.forget 4).forget 5).putF (i := 4) (d := .raw x1) (v := x1) (by decide) (by simp only [Rep])
    have a2 := a1.putF (i := 5) (d := .raw x2) (v := x2) (by decide) (by simp only [Rep])
    have set_id : ∀ {j : Nat} {v : Option V}, σ1[j]? = some v → σ1.set j v = σ1 := fun {j v} q => by
      apply List.ext_getElem?
      intro m
      by_cases hm : j = m
      · subst hm
        rw [List.getElem?_set_self (List.getElem?_eq_some_iff.mp q).1, q]
      · rw [List.getElem?_set_ne hm]
    rw [set_id p1, set_id r1] at a2
    exact a2
  obtain ⟨y0, y1, y2, y3, y4, y5, y6, y7, y8, y9, y10, rfl⟩ : ∃ y0 y1 y2 y3 y4 y5 y6 y7 y8 y9 y10, env1 = [y0, y1, y2, y3, y4, y5, y6, y7, y8, y9, y10] := by
    match env1, le with
    | [y0, y1, y2, y3, y4, y5, y6, y7, y8, y9, y10], _ => exact ⟨_, _, _, _, _, _, _, _, _, _, _, rfl⟩
  have ey : y3 = .d (.int n) := by simpa using ei
  subst ey
  refine ⟨G1, H1, G1, _, ds2, rebase g3 rfl rfl, ?_⟩
  show Mir.Run (m_mid [y0, y1, y2, .d (.int n), .d (.raw x1), .d (.raw x2), y6, y7, y8, y9, y10] ds2) _ _
  rw [mid_run n hn]
  show ∀ σ' G' H', Same G1 G' → Good _ Γmb G' H' σ' _ ds2 → _
  intro σ3 G3 H3 sm3 g4
  have slot : ∀ (j : Nat) (x : V) (w : D), Γmb[j]? = some (.ow .fz) → w = .raw x → ([y0, y1, y2, .d (.int n), .d (.raw x1), .d (.raw x2), .d (madeD n x1), .d (.raw x1), .d (madeD n x2), .d (.raw x2), y10] : List Val)[j]? = some (.d w) → σ3[j]? = some (some x) := fun j x w hj hw hx => by
    obtain ⟨v, dd, z1, z2, _, z3, _⟩ := g4.get (i := j) (m := .fz) hj
    rw [hx] at z2
    cases z2
    subst hw
    simp only [RepO, Rep] at z3
    obtain ⟨_, rfl⟩ := z3
    exact z1
  have t4 := slot 4 x1 _ rfl rfl rfl
  have t5 := slot 5 x2 _ rfl rfl rfl
  have t7 := slot 7 x1 _ rfl rfl rfl
  have t9 := slot 9 x2 _ rfl rfl rfl
  have e13 : Ext S G1 H1 G3 H3 := g4.base
  have b3 : ExtA [] S G0 H0 G3 H3 := g1.base.trans e13
  -- own nodes stand as they were
  have stay : ∀ (as : List Addr) (d : D) (x : V), RepO (He.ga K) G1 H1 .mx d x as → (∀ a ∈ as, G1 a = none ∧ a ∉ stN S ∧ H0 a = none) → (∀ a ∈ as, H3 a = H1 a ∧ G3 a = none) ∧ RepO (He.ga K) G3 H3 .mx d x as := fun as d x r o => by
    have z : ∀ a ∈ as, H3 a = H1 a ∧ G3 a = none := fun a ha => by
      obtain ⟨ob, q⟩ := r.there a ha
      refine ⟨by rw [q, e13.h a ob (o a ha).2.1 (by simp) q], ?_⟩
      cases z : G3 a with
      | none => rfl
      | some o' =>
        rcases e13.new a o' z with z | z
        · rw [(o a ha).1] at z; cases z
        · rw [q] at z; cases z
    exact ⟨z, r.agree e13.g fun a ha => (z a ha).1⟩
  obtain ⟨n1, w1⟩ := stay as1 d1' x1 p4 o1
  obtain ⟨n2, w2⟩ := stay as2 d2' x2 r4 o2
  have g3of : ∀ (as : List Addr), (∀ a ∈ as, H3 a = H1 a ∧ G3 a = none) → ∀ b o, G3 b = some o → b ∉ as := fun as z b o q hb => by rw [(z b hb).2] at q; cases q
  -- the first
  refine ⟨x1, t7, x1, t4, G3, d1', x1, as1, rfl, g4.sub, fun a ha => (n1 a ha).2, w1, ok1, fun H5 k5 _ => ?_⟩
  refine ⟨true, rfl, ?_⟩
  have w2' : RepO (He.ga K) G3 H5 .mx d2' x2 as2 := w2.agree (Same.refl _) fun a ha => by
    obtain ⟨ob, q⟩ := w2.there a ha
    rw [q, k5 a ob (fun z => apart a z ha) q]
  -- the second
  refine ⟨x2, t9, x2, t5, G3, d2', x2, as2, rfl, fun b o q => k5 b o (g3of as1 n1 b o q) (g4.sub _ _ q), fun a ha => (n2 a ha).2, w2', ok2, fun H6 k6 _ => ?_⟩
  refine ⟨true, rfl, iteF ?_⟩
  have keep6 : ∀ b o, b ∉ as1 → b ∉ as2 → H3 b = some o → H6 b = some o := fun b o q1 q2 q => k6 b o q2 (k5 b o q1 q)
  have hst : ∀ a ∈ stN S, H6 a = H3 a := fun a ha => by
    obtain ⟨o, q⟩ := g4.st.there ha
    rw [q]
    exact keep6 a o (fun z => (o1 a z).2.1 ha) (fun z => (o2 a z).2.1 ha) q
  have sub' : Same G3 H6 := fun b o q => keep6 b o (g3of as1 n1 b o q) (g3of as2 n2 b o q) (g4.sub _ _ q)
  have out0 : ∀ b o, H0 b = some o → b ∉ as1 ∧ b ∉ as2 := fun b o q => ⟨fun z => (by rw [(o1 b z).2.2] at q; cases q), fun z => (by rw [(o2 b z).2.2] at q; cases q)⟩
  obtain ⟨ass4, sl4, ow4⟩ := g4.slots
  have fl4 := ownless_flat sl4 rfl
  have g5 : Good ⟨He.ga K, S, [], G0, H0, E, fnv⟩ Γmb G3 H6 σ3 [y0, y1, y2, .d (.int n), .d (.raw x1), .d (.raw x2), .d (madeD n x1), .d (.raw x1), .d (madeD n x2), .d (.raw x2), y10] ds2 := by
    refine ⟨sub', g4.st.at (fun _ _ => rfl) hst, ⟨b3.g, fun b o hs _ q => keep6 b o (out0 b o q).1 (out0 b o q).2 (b3.h b o hs (by simp) q), fun b o q => ?_, b3.new, sub'⟩, ass4, Slots.lk (c := ⟨He.ga K, S, [], G1, H1, E, fnv⟩) ⟨rfl, rfl, rfl⟩ (fun b o q => .inl q) (fun a ha => by rw [fl4] at ha; simp at ha) sl4, ⟨ow4.nd, ow4.fr, fun j as' hj a ha => ?_⟩⟩
    · obtain ⟨o3, q3⟩ := b3.s b o q
      have q : H0 b = some o := q
      exact ⟨o3, keep6 b o3 (out0 b o q).1 (out0 b o q).2 q3⟩
    · have := mem_flatten_of hj ha
      rw [fl4] at this
      simp at this
  have ls : σ3.length = 11 := sl4.len.1
  have kl : ∀ (j : Nat) (e : Val) {Γ : List Md} {en : List Val}, Good ⟨He.ga K, S, [], G0, H0, E, fnv⟩ Γ G3 H6 σ3 en ds2 → j < σ3.length → Good ⟨He.ga K, S, [], G0, H0, E, fnv⟩ (Γ.set j .un) G3 H6 σ3 (en.set j e) ds2 := fun j e {Γ en} gg hj => by
    have := gg.kill j (σ3[j]) e
    rwa [List.set_getElem_self] at this
  have g6 := kl 3 (.un) (kl 4 (.un) (kl 5 (.un) (kl 6 (.un) (kl 7 (.un) (kl 8 (.un) (kl 9 (.un) g5 (by omega)) (by omega)) (by omega)) (by omega)) (by omega)) (by omega)) (by omega)
  exact hb σ3 G3 H6 (sm1.trans e13.g) g6
end
end
end Law_k95
end

set_option maxHeartbeats 4000000
section
namespace Law_k95
open PySem PySem.Spec PyProof.Rows L2 Mir
noncomputable section
def m_law : Mir.MS := (S.seq (S.for_ (E.it1 D.range1 (E.cst (.int 28))) (bind1 2) S_blk) (S.seq (S.cond (E.tnot (E.tst (E.un D.allD (E.comp (E.it1 D.items (E.call F__law_others (E.acons (E.call F__law_pick (E.aval (fun _ => .st) (E.acons (E.cst (.int 9)) E.anil))) E.anil))) (bind1 10) E.yes (E.bin D.eq (E.call F__law_kinds_of (E.acons (E.var 10) E.anil)) (E.list E.dnil)))))) (S.ret (E.cst (.bl false))) S.skip) (S.ret (E.bin D.eq (E.call F_caught (E.acons (E.call F__law_object (E.aval (fun _ => .st) E.anil)) E.anil)) (E.tuple (E.dcons (E.list (E.dcons (E.cst (.int 5)) E.dnil)) (E.dcons (E.list E.dnil) (E.dcons (E.cst (.bl false)) (E.dcons (E.cst (.bl true)) E.dnil)))))))))
section
variable {P : Program} {w : World} {K : PySem.W.Frag} {mg : Str → Option Value} {base : Heap}
abbrev fnv : V → (List D → M D) → Prop := fun _ _ => False
theorem ok_start (T : En P w K mg base) : Cal P w K mg base "_law_start" [("script" : Str)] 1 (spStart K) := by
  obtain ⟨fd, F, hg⟩ := T.d__law_start
  refine ⟨_, fd, F.ok (N := [("script" : Str)]) ⟨rfl, rfl, rfl, by decide, rfl, by decide +kernel, by decide +kernel⟩ (fun vs H Q E ⟨a, ns, e, _⟩ => by rw [e]; rfl) (fun cdv A outer s H vs Q E hr h => ⟨_, pss_one (ps_ret (pe_lst (pa_cons (pe_callTy call_list_of rfl T.n_list boot_list (pa_cons (pe_var (i := 0) rfl (.inl rfl)) pa_nil)) (pa_cons pe_int (pa_cons pe_int (pa_cons pe_int pa_nil)))))), start_read h⟩), hg, F.kp, F.bindsN (fun _ _ _ _ _ _ us hl => match us, hl with | [_], _ => rfl)⟩
theorem ok_law (T : En P w K mg base) {fd : FuncData} (F : FunD K "law" "law" (defArgs (top 72)) (defBody (top 72)) (defScope (top 72)) [] [] (He.ga K "law") fd) (Sc : List Int → Prop) (plain : ∀ ns, Sc ns → Mir.Run (m_law (envLaw 9) ⟨ns, 0, 0, 29⟩) (fun r _ => r = .rt (.bl true)) (fun _ _ _ _ => False)) :
    (∀ (s : Shared) (u : Value), BindsTo s fd ⟨[u], []⟩ [("script", u)]) ∧ FnOk P w K mg base (L2.CX P w) 21 (He.ga K "law") fd ["script"] (spLaw K Sc) := by
  obtain ⟨f4, fd4, F4, hm4, hk4, hb4⟩ := ok_very T
  obtain ⟨f5, fd5, F5, hm5, hk5, hb5⟩ := ok_start T
  have nd : N_law.Nodup := by decide
  have b := FunD.bindsA (ps := ["script"]) F fun _ _ _ _ _ _ us hl => match us, hl with | [_], _ => rfl
  refine ⟨fun s u => b s [u] rfl, law_ok (cA := He.ga K) (fnv := fnv) (N := N_law) (n := 9) (m := m_law) (Γ' := []) (Sc := Sc) F ⟨rfl, rfl, rfl, nd, rfl, by decide +kernel, by decide +kernel⟩ rfl rfl (fun cdv A outer s H E hr => ?_) (fun cdv A outer s H E hr S G0 H0 => ?_) plain⟩
  · exact ps_set (i := 1) nd rfl (.inl rfl) (pe_call F5 (hr.mono (by decide)) rfl hm5 hk5 hb5 .nil passes_cx (pa_cons (pe_var (i := 0) rfl (.inl rfl)) pa_nil))
  · exact (gs_cons (gs_for own_cx rfl (gi_range1 rfl T.n_range ge_int) (gtg_name (i := 2) (by decide) nd rfl (.inl rfl)) (gs_post (blk_ok T hr S G0 H0 (ps_if (PW.pt (pw_or (pt_not (pt_val (pe_call F4 (hr.mono (by decide)) rfl hm4 hk4 hb4 .nil passF (pa_cons (pe_var (i := 7) rfl (.inl rfl)) (pa_cons (pe_var (i := 4) rfl (.inl rfl)) pa_nil))))) (pw_or1 (pt_not (pt_val (pe_call F4 (hr.mono (by decide)) rfl hm4 hk4 hb4 .nil passF (pa_cons (pe_var (i := 9) rfl (.inl rfl)) (pa_cons (pe_var (i := 5) rfl (.inl rfl)) pa_nil)))))))) (pss_one (ps_ret pe_bl)) pss_nil)) (fun g => wk_forget 2 (wk_refl) g)))
    (gs_cons (gs_if (gt_not (gt_val (ge_b1 (oc_all rfl) rfl T.n_all boot_all (ge_comp (own := [("e", 10)]) (m := .fz) rfl nd (gi_vw (gi_of (ge_callC (ok__law_others T) (hr.mono (by decide)) rfl passes_cx (ga_cons (ge_callC (ok__law_pick T) (hr.mono (by decide)) rfl passes_cx (ga_st (i := 1) rfl (ga_cons ge_int ga_nil) rfl (.inl rfl))) ga_nil)))) (blkOk_by (by kernel_rfl)) (by decide) (fun _ _ _ _ _ => (gtg_name (i := 10) (by decide) nd rfl (.inl rfl))) (fun _ _ _ _ _ => gts_yes) (fun _ _ _ _ _ => (ge_cmp (os_eq hr.units) (ge_callC (ok__law_kinds_of T) (hr.mono (by decide)) rfl passL (ga_cons (ge_var (i := 10) rfl rfl (.inl rfl)) ga_nil)) (ge_list (n := 0) (m := .fz) sz gd_nil) (nomark _))))))) (gs_one (gs_ret ge_bl)) gs_nil)
    (gs_one (gs_ret (ge_cmp (os_eq hr.units) (ge_callC (ok_caught T) (hr.mono (by decide)) rfl passes_cx (ga_cons (ge_fz (ge_callC (ok__law_object T) (hr.mono (by decide)) rfl passes_cx (ga_st (i := 1) rfl ga_nil rfl (.inl rfl)))) ga_nil)) (ge_tuple (ms := [.fz, .fz, .fz, .fz]) sz (gd_cons (ge_fz (ge_list (n := 1) (m := .fz) sz (gd_cons ge_int gd_nil))) (gd_cons (ge_fz (ge_list (n := 0) (m := .fz) sz gd_nil)) (gd_cons ge_bl (gd_cons ge_bl gd_nil))))) (nomark _))))))
end
end
end Law_k95
end

set_option maxHeartbeats 4000000
section
namespace Law_k95
open PySem PySem.Spec PyProof.Rows L2 Mir
def bm : List Str := [("answer" : Str), ("bundle" : Str), ("by" : Str), ("choices" : Str), ("desk" : Str), ("edit" : Str), ("fees" : Str), ("filling" : Str), ("good" : Str), ("guesses" : Str), ("index" : Str), ("line" : Str), ("many" : Str), ("menu" : Str), ("money" : Str), ("most" : Str), ("numbers" : Str), ("orders" : Str), ("other" : Str), ("others" : Str), ("output" : Str), ("part" : Str), ("places" : Str), ("prices" : Str), ("ranks" : Str), ("receipts" : Str), ("records" : Str), ("ring" : Str), ("sieves" : Str), ("thing" : Str), ("times" : Str), ("weights" : Str), ("__init__" : Str)]
def xs0 : List (Str × List Str) := [(("BadOther" : Str), [("other" : Str)]), (("NotWish" : Str), [("numbers" : Str)]), (("NotFitting" : Str), [("receipts" : Str)]), (("NotMoney" : Str), [("receipts" : Str)]), (("BadTimes" : Str), [("times" : Str)]), (("BadBy" : Str), [("by" : Str)]), (("NoAmounts" : Str), [("index" : Str)]), (("NotEven" : Str), [("numbers" : Str)]), (("BadAnswer" : Str), [("answer" : Str)]), (("BadWholeText" : Str), [("line" : Str)]), (("BadRing" : Str), [("ring" : Str)]), (("BadRanks" : Str), [("ranks" : Str)]), (("BadFees" : Str), [("fees" : Str)]), (("BadPart" : Str), [("part" : Str)]), (("BadGuesses" : Str), [("guesses" : Str)]), (("BadFilling" : Str), [("filling" : Str)]), (("NoFilling" : Str), [("guesses" : Str)]), (("BadMost" : Str), [("most" : Str)]), (("BadOthers" : Str), [("others" : Str)]), (("BadMany" : Str), [("many" : Str)]), (("NotSingle" : Str), [("choices" : Str)]), (("BadEdit" : Str), [("edit" : Str)]), (("BadDesk" : Str), [("desk" : Str)]), (("BadDeskText" : Str), [("line" : Str)]), (("NothingToUndo" : Str), [("__init__" : Str)])]
def xs1 : List (Str × List Str) := [(("NothingToRedo" : Str), [("__init__" : Str)]), (("BadGoods" : Str), [("index" : Str)]), (("WrongReceipts" : Str), [("index" : Str)]), (("BadReceipts" : Str), [("receipts" : Str)]), (("BadIndex" : Str), [("index" : Str)]), (("BadPlaces" : Str), [("places" : Str)]), (("BadPrices" : Str), [("prices" : Str)]), (("BadBundle" : Str), [("bundle" : Str)]), (("BadMoney" : Str), [("money" : Str)]), (("BadGood" : Str), [("good" : Str)]), (("OneGood" : Str), [("good" : Str)]), (("BadWeights" : Str), [("weights" : Str)]), (("BadReceiptsText" : Str), [("line" : Str)]), (("BadNumbers" : Str), [("index" : Str)]), (("BadNumbersText" : Str), [("line" : Str)]), (("NoReceipts" : Str), [("receipts" : Str)]), (("WrongChoices" : Str), [("index" : Str)]), (("BadChoices" : Str), [("choices" : Str)]), (("BadMenu" : Str), [("menu" : Str)]), (("NoLevels" : Str), [("choices" : Str)]), (("BadThing" : Str), [("thing" : Str)]), (("NotWhole" : Str), [("choices" : Str)]), (("BadSieves" : Str), [("sieves" : Str)]), (("NotAll" : Str), [("choices" : Str)]), (("BadOrders" : Str), [("orders" : Str)])]
def xs2 : List (Str × List Str) := [(("NoOrders" : Str), [("choices" : Str)]), (("WrongRecords" : Str), [("index" : Str)]), (("BadRecords" : Str), [("records" : Str)]), (("BadOutput" : Str), [("output" : Str)])]
def xs : List (Str × List Str) := xs0 ++ xs1 ++ xs2
theorem L_eq : L = xKin ("ReceiptError" : Str) (xs.map (·.1)) := rfl
theorem xfree : xFree (("ReceiptError" : Str) :: xs.map (·.1)) = true := by decide +kernel
theorem nd_ps : (ps.map (·.1)).Nodup := by decide +kernel
theorem xc_ok {K : PySem.W.Frag} (F : Fcts 9 ps K) : XcAll K ("ReceiptError" : Str) bm xs := F.xc nd_ps rfl (by decide +kernel) (by decide +kernel) rfl
section
variable {P : Program} {w : World} {K : PySem.W.Frag} {mg : Str → Option Value} {base h : Heap}
theorem mx_BadOther (T : XcAll K ("ReceiptError" : Str) bm xs) (F : Fcts 9 ps K) : MxC P w K mg base ("BadOther" : Str) ("other" : Str) ("other" : Str) :=
  mxc_at (more := [("other" : Str)]) T (List.mem_of_getElem? (i := 0) rfl) (List.mem_singleton.mpr rfl) (List.mem_of_getElem? (i := 18) rfl) (by kernel_rfl) (F.ini nd_ps 10 (d := d_I_BadOther) rfl)
    ⟨rfl, rfl, rfl, by decide, rfl, by decide +kernel, by decide +kernel⟩ rfl (fun _ => rfl) rfl rfl rfl rfl (fun _ _ _ _ _ _ us hl => match us, hl with | [_, _], _ => rfl) (fun _ _ _ _ _ _ _ _ => rfl)
theorem mx_NotWish (T : XcAll K ("ReceiptError" : Str) bm xs) (F : Fcts 9 ps K) : MxC P w K mg base ("NotWish" : Str) ("numbers" : Str) ("numbers" : Str) :=
  mxc_at (more := [("numbers" : Str)]) T (List.mem_of_getElem? (i := 1) rfl) (List.mem_singleton.mpr rfl) (List.mem_of_getElem? (i := 16) rfl) (by kernel_rfl) (F.ini nd_ps 11 (d := d_I_NotWish) rfl)
    ⟨rfl, rfl, rfl, by decide, rfl, by decide +kernel, by decide +kernel⟩ rfl (fun _ => rfl) rfl rfl rfl rfl (fun _ _ _ _ _ _ us hl => match us, hl with | [_, _], _ => rfl) (fun _ _ _ _ _ _ _ _ => rfl)
theorem mx_NotFitting (T : XcAll K ("ReceiptError" : Str) bm xs) (F : Fcts 9 ps K) : MxC P w K mg base ("NotFitting" : Str) ("receipts" : Str) ("receipts" : Str) :=
  mxc_at (more := [("receipts" : Str)]) T (List.mem_of_getElem? (i := 2) rfl) (List.mem_singleton.mpr rfl) (List.mem_of_getElem? (i := 25) rfl) (by kernel_rfl) (F.ini nd_ps 12 (d := d_I_NotFitting) rfl)
    ⟨rfl, rfl, rfl, by decide, rfl, by decide +kernel, by decide +kernel⟩ rfl (fun _ => rfl) rfl rfl rfl rfl (fun _ _ _ _ _ _ us hl => match us, hl with | [_, _], _ => rfl) (fun _ _ _ _ _ _ _ _ => rfl)
theorem mx_NotMoney (T : XcAll K ("ReceiptError" : Str) bm xs) (F : Fcts 9 ps K) : MxC P w K mg base ("NotMoney" : Str) ("receipts" : Str) ("receipts" : Str) :=
  mxc_at (more := [("receipts" : Str)]) T (List.mem_of_getElem? (i := 3) rfl) (List.mem_singleton.mpr rfl) (List.mem_of_getElem? (i := 25) rfl) (by kernel_rfl) (F.ini nd_ps 13 (d := d_I_NotMoney) rfl)
    ⟨rfl, rfl, rfl, by decide, rfl, by decide +kernel, by decide +kernel⟩ rfl (fun _ => rfl) rfl rfl rfl rfl (fun _ _ _ _ _ _ us hl => match us, hl with | [_, _], _ => rfl) (fun _ _ _ _ _ _ _ _ => rfl)
theorem mx_BadTimes (T : XcAll K ("ReceiptError" : Str) bm xs) (F : Fcts 9 ps K) : MxC P w K mg base ("BadTimes" : Str) ("times" : Str) ("times" : Str) :=
  mxc_at (more := [("times" : Str)]) T (List.mem_of_getElem? (i := 4) rfl) (List.mem_singleton.mpr rfl) (List.mem_of_getElem? (i := 30) rfl) (by kernel_rfl) (F.ini nd_ps 14 (d := d_I_BadTimes) rfl)
    ⟨rfl, rfl, rfl, by decide, rfl, by decide +kernel, by decide +kernel⟩ rfl (fun _ => rfl) rfl rfl rfl rfl (fun _ _ _ _ _ _ us hl => match us, hl with | [_, _], _ => rfl) (fun _ _ _ _ _ _ _ _ => rfl)
theorem mx_BadBy (T : XcAll K ("ReceiptError" : Str) bm xs) (F : Fcts 9 ps K) : MxC P w K mg base ("BadBy" : Str) ("by" : Str) ("by" : Str) :=
  mxc_at (more := [("by" : Str)]) T (List.mem_of_getElem? (i := 5) rfl) (List.mem_singleton.mpr rfl) (List.mem_of_getElem? (i := 2) rfl) (by kernel_rfl) (F.ini nd_ps 15 (d := d_I_BadBy) rfl)
    ⟨rfl, rfl, rfl, by decide, rfl, by decide +kernel, by decide +kernel⟩ rfl (fun _ => rfl) rfl rfl rfl rfl (fun _ _ _ _ _ _ us hl => match us, hl with | [_, _], _ => rfl) (fun _ _ _ _ _ _ _ _ => rfl)
theorem mx_NoAmounts (T : XcAll K ("ReceiptError" : Str) bm xs) (F : Fcts 9 ps K) : MxC P w K mg base ("NoAmounts" : Str) ("index" : Str) ("index" : Str) :=
  mxc_at (more := [("index" : Str)]) T (List.mem_of_getElem? (i := 6) rfl) (List.mem_singleton.mpr rfl) (List.mem_of_getElem? (i := 10) rfl) (by kernel_rfl) (F.ini nd_ps 16 (d := d_I_NoAmounts) rfl)
    ⟨rfl, rfl, rfl, by decide, rfl, by decide +kernel, by decide +kernel⟩ rfl (fun _ => rfl) rfl rfl rfl rfl (fun _ _ _ _ _ _ us hl => match us, hl with | [_, _], _ => rfl) (fun _ _ _ _ _ _ _ _ => rfl)
theorem mx_NotEven (T : XcAll K ("ReceiptError" : Str) bm xs) (F : Fcts 9 ps K) : MxC P w K mg base ("NotEven" : Str) ("numbers" : Str) ("numbers" : Str) :=
  mxc_at (more := [("numbers" : Str)]) T (List.mem_of_getElem? (i := 7) rfl) (List.mem_singleton.mpr rfl) (List.mem_of_getElem? (i := 16) rfl) (by kernel_rfl) (F.ini nd_ps 17 (d := d_I_NotEven) rfl)
    ⟨rfl, rfl, rfl, by decide, rfl, by decide +kernel, by decide +kernel⟩ rfl (fun _ => rfl) rfl rfl rfl rfl (fun _ _ _ _ _ _ us hl => match us, hl with | [_, _], _ => rfl) (fun _ _ _ _ _ _ _ _ => rfl)
theorem mx_BadAnswer (T : XcAll K ("ReceiptError" : Str) bm xs) (F : Fcts 9 ps K) : MxC P w K mg base ("BadAnswer" : Str) ("answer" : Str) ("answer" : Str) :=
  mxc_at (more := [("answer" : Str)]) T (List.mem_of_getElem? (i := 8) rfl) (List.mem_singleton.mpr rfl) (List.mem_of_getElem? (i := 0) rfl) (by kernel_rfl) (F.ini nd_ps 18 (d := d_I_BadAnswer) rfl)
    ⟨rfl, rfl, rfl, by decide, rfl, by decide +kernel, by decide +kernel⟩ rfl (fun _ => rfl) rfl rfl rfl rfl (fun _ _ _ _ _ _ us hl => match us, hl with | [_, _], _ => rfl) (fun _ _ _ _ _ _ _ _ => rfl)
theorem mx_BadWholeText (T : XcAll K ("ReceiptError" : Str) bm xs) (F : Fcts 9 ps K) : MxC P w K mg base ("BadWholeText" : Str) ("line" : Str) ("line" : Str) :=
  mxc_at (more := [("line" : Str)]) T (List.mem_of_getElem? (i := 9) rfl) (List.mem_singleton.mpr rfl) (List.mem_of_getElem? (i := 11) rfl) (by kernel_rfl) (F.ini nd_ps 19 (d := d_I_BadWholeText) rfl)
    ⟨rfl, rfl, rfl, by decide, rfl, by decide +kernel, by decide +kernel⟩ rfl (fun _ => rfl) rfl rfl rfl rfl (fun _ _ _ _ _ _ us hl => match us, hl with | [_, _], _ => rfl) (fun _ _ _ _ _ _ _ _ => rfl)
theorem mx_BadRing (T : XcAll K ("ReceiptError" : Str) bm xs) (F : Fcts 9 ps K) : MxC P w K mg base ("BadRing" : Str) ("ring" : Str) ("ring" : Str) :=
  mxc_at (more := [("ring" : Str)]) T (List.mem_of_getElem? (i := 10) rfl) (List.mem_singleton.mpr rfl) (List.mem_of_getElem? (i := 27) rfl) (by kernel_rfl) (F.ini nd_ps 20 (d := d_I_BadRing) rfl)
    ⟨rfl, rfl, rfl, by decide, rfl, by decide +kernel, by decide +kernel⟩ rfl (fun _ => rfl) rfl rfl rfl rfl (fun _ _ _ _ _ _ us hl => match us, hl with | [_, _], _ => rfl) (fun _ _ _ _ _ _ _ _ => rfl)
theorem mx_BadRanks (T : XcAll K ("ReceiptError" : Str) bm xs) (F : Fcts 9 ps K) : MxC P w K mg base ("BadRanks" : Str) ("ranks" : Str) ("ranks" : Str) :=
  mxc_at (more := [("ranks" : Str)]) T (List.mem_of_getElem? (i := 11) rfl) (List.mem_singleton.mpr rfl) (List.mem_of_getElem? (i := 24) rfl) (by kernel_rfl) (F.ini nd_ps 21 (d := d_I_BadRanks) rfl)
    ⟨rfl, rfl, rfl, by decide, rfl, by decide +kernel, by decide +kernel⟩ rfl (fun _ => rfl) rfl rfl rfl rfl (fun _ _ _ _ _ _ us hl => match us, hl with | [_, _], _ => rfl) (fun _ _ _ _ _ _ _ _ => rfl)
theorem mx_BadFees (T : XcAll K ("ReceiptError" : Str) bm xs) (F : Fcts 9 ps K) : MxC P w K mg base ("BadFees" : Str) ("fees" : Str) ("fees" : Str) :=
  mxc_at (more := [("fees" : Str)]) T (List.mem_of_getElem? (i := 12) rfl) (List.mem_singleton.mpr rfl) (List.mem_of_getElem? (i := 6) rfl) (by kernel_rfl) (F.ini nd_ps 22 (d := d_I_BadFees) rfl)
    ⟨rfl, rfl, rfl, by decide, rfl, by decide +kernel, by decide +kernel⟩ rfl (fun _ => rfl) rfl rfl rfl rfl (fun _ _ _ _ _ _ us hl => match us, hl with | [_, _], _ => rfl) (fun _ _ _ _ _ _ _ _ => rfl)
theorem mx_BadPart (T : XcAll K ("ReceiptError" : Str) bm xs) (F : Fcts 9 ps K) : MxC P w K mg base ("BadPart" : Str) ("part" : Str) ("part" : Str) :=
  mxc_at (more := [("part" : Str)]) T (List.mem_of_getElem? (i := 13) rfl) (List.mem_singleton.mpr rfl) (List.mem_of_getElem? (i := 21) rfl) (by kernel_rfl) (F.ini nd_ps 23 (d := d_I_BadPart) rfl)
    ⟨rfl, rfl, rfl, by decide, rfl, by decide +kernel, by decide +kernel⟩ rfl (fun _ => rfl) rfl rfl rfl rfl (fun _ _ _ _ _ _ us hl => match us, hl with | [_, _], _ => rfl) (fun _ _ _ _ _ _ _ _ => rfl)
theorem mx_BadGuesses (T : XcAll K ("ReceiptError" : Str) bm xs) (F : Fcts 9 ps K) : MxC P w K mg base ("BadGuesses" : Str) ("guesses" : Str) ("guesses" : Str) :=
  mxc_at (more := [("guesses" : Str)]) T (List.mem_of_getElem? (i := 14) rfl) (List.mem_singleton.mpr rfl) (List.mem_of_getElem? (i := 9) rfl) (by kernel_rfl) (F.ini nd_ps 24 (d := d_I_BadGuesses) rfl)
    ⟨rfl, rfl, rfl, by decide, rfl, by decide +kernel, by decide +kernel⟩ rfl (fun _ => rfl) rfl rfl rfl rfl (fun _ _ _ _ _ _ us hl => match us, hl with | [_, _], _ => rfl) (fun _ _ _ _ _ _ _ _ => rfl)
theorem mx_BadFilling (T : XcAll K ("ReceiptError" : Str) bm xs) (F : Fcts 9 ps K) : MxC P w K mg base ("BadFilling" : Str) ("filling" : Str) ("filling" : Str) :=
  mxc_at (more := [("filling" : Str)]) T (List.mem_of_getElem? (i := 15) rfl) (List.mem_singleton.mpr rfl) (List.mem_of_getElem? (i := 7) rfl) (by kernel_rfl) (F.ini nd_ps 25 (d := d_I_BadFilling) rfl)
    ⟨rfl, rfl, rfl, by decide, rfl, by decide +kernel, by decide +kernel⟩ rfl (fun _ => rfl) rfl rfl rfl rfl (fun _ _ _ _ _ _ us hl => match us, hl with | [_, _], _ => rfl) (fun _ _ _ _ _ _ _ _ => rfl)
theorem mx_NoFilling (T : XcAll K ("ReceiptError" : Str) bm xs) (F : Fcts 9 ps K) : MxC P w K mg base ("NoFilling" : Str) ("guesses" : Str) ("guesses" : Str) :=
  mxc_at (more := [("guesses" : Str)]) T (List.mem_of_getElem? (i := 16) rfl) (List.mem_singleton.mpr rfl) (List.mem_of_getElem? (i := 9) rfl) (by kernel_rfl) (F.ini nd_ps 26 (d := d_I_NoFilling) rfl)
    ⟨rfl, rfl, rfl, by decide, rfl, by decide +kernel, by decide +kernel⟩ rfl (fun _ => rfl) rfl rfl rfl rfl (fun _ _ _ _ _ _ us hl => match us, hl with | [_, _], _ => rfl) (fun _ _ _ _ _ _ _ _ => rfl)
theorem mx_BadMost (T : XcAll K ("ReceiptError" : Str) bm xs) (F : Fcts 9 ps K) : MxC P w K mg base ("BadMost" : Str) ("most" : Str) ("most" : Str) :=
  mxc_at (more := [("most" : Str)]) T (List.mem_of_getElem? (i := 17) rfl) (List.mem_singleton.mpr rfl) (List.mem_of_getElem? (i := 15) rfl) (by kernel_rfl) (F.ini nd_ps 27 (d := d_I_BadMost) rfl)
    ⟨rfl, rfl, rfl, by decide, rfl, by decide +kernel, by decide +kernel⟩ rfl (fun _ => rfl) rfl rfl rfl rfl (fun _ _ _ _ _ _ us hl => match us, hl with | [_, _], _ => rfl) (fun _ _ _ _ _ _ _ _ => rfl)
theorem mx_BadOthers (T : XcAll K ("ReceiptError" : Str) bm xs) (F : Fcts 9 ps K) : MxC P w K mg base ("BadOthers" : Str) ("others" : Str) ("others" : Str) :=
  mxc_at (more := [("others" : Str)]) T (List.mem_of_getElem? (i := 18) rfl) (List.mem_singleton.mpr rfl) (List.mem_of_getElem? (i := 19) rfl) (by kernel_rfl) (F.ini nd_ps 28 (d := d_I_BadOthers) rfl)
    ⟨rfl, rfl, rfl, by decide, rfl, by decide +kernel, by decide +kernel⟩ rfl (fun _ => rfl) rfl rfl rfl rfl (fun _ _ _ _ _ _ us hl => match us, hl with | [_, _], _ => rfl) (fun _ _ _ _ _ _ _ _ => rfl)
theorem mx_BadMany (T : XcAll K ("ReceiptError" : Str) bm xs) (F : Fcts 9 ps K) : MxC P w K mg base ("BadMany" : Str) ("many" : Str) ("many" : Str) :=
  mxc_at (more := [("many" : Str)]) T (List.mem_of_getElem? (i := 19) rfl) (List.mem_singleton.mpr rfl) (List.mem_of_getElem? (i := 12) rfl) (by kernel_rfl) (F.ini nd_ps 29 (d := d_I_BadMany) rfl)
    ⟨rfl, rfl, rfl, by decide, rfl, by decide +kernel, by decide +kernel⟩ rfl (fun _ => rfl) rfl rfl rfl rfl (fun _ _ _ _ _ _ us hl => match us, hl with | [_, _], _ => rfl) (fun _ _ _ _ _ _ _ _ => rfl)
theorem mx_NotSingle (T : XcAll K ("ReceiptError" : Str) bm xs) (F : Fcts 9 ps K) : MxC P w K mg base ("NotSingle" : Str) ("choices" : Str) ("choices" : Str) :=
  mxc_at (more := [("choices" : Str)]) T (List.mem_of_getElem? (i := 20) rfl) (List.mem_singleton.mpr rfl) (List.mem_of_getElem? (i := 3) rfl) (by kernel_rfl) (F.ini nd_ps 30 (d := d_I_NotSingle) rfl)
    ⟨rfl, rfl, rfl, by decide, rfl, by decide +kernel, by decide +kernel⟩ rfl (fun _ => rfl) rfl rfl rfl rfl (fun _ _ _ _ _ _ us hl => match us, hl with | [_, _], _ => rfl) (fun _ _ _ _ _ _ _ _ => rfl)
theorem mx_BadEdit (T : XcAll K ("ReceiptError" : Str) bm xs) (F : Fcts 9 ps K) : MxC P w K mg base ("BadEdit" : Str) ("edit" : Str) ("edit" : Str) :=
  mxc_at (more := [("edit" : Str)]) T (List.mem_of_getElem? (i := 21) rfl) (List.mem_singleton.mpr rfl) (List.mem_of_getElem? (i := 5) rfl) (by kernel_rfl) (F.ini nd_ps 31 (d := d_I_BadEdit) rfl)
    ⟨rfl, rfl, rfl, by decide, rfl, by decide +kernel, by decide +kernel⟩ rfl (fun _ => rfl) rfl rfl rfl rfl (fun _ _ _ _ _ _ us hl => match us, hl with | [_, _], _ => rfl) (fun _ _ _ _ _ _ _ _ => rfl)
theorem mx_BadDesk (T : XcAll K ("ReceiptError" : Str) bm xs) (F : Fcts 9 ps K) : MxC P w K mg base ("BadDesk" : Str) ("desk" : Str) ("desk" : Str) :=
  mxc_at (more := [("desk" : Str)]) T (List.mem_of_getElem? (i := 22) rfl) (List.mem_singleton.mpr rfl) (List.mem_of_getElem? (i := 4) rfl) (by kernel_rfl) (F.ini nd_ps 32 (d := d_I_BadDesk) rfl)
    ⟨rfl, rfl, rfl, by decide, rfl, by decide +kernel, by decide +kernel⟩ rfl (fun _ => rfl) rfl rfl rfl rfl (fun _ _ _ _ _ _ us hl => match us, hl with | [_, _], _ => rfl) (fun _ _ _ _ _ _ _ _ => rfl)
theorem mx_BadDeskText (T : XcAll K ("ReceiptError" : Str) bm xs) (F : Fcts 9 ps K) : MxC P w K mg base ("BadDeskText" : Str) ("line" : Str) ("line" : Str) :=
  mxc_at (more := [("line" : Str)]) T (List.mem_of_getElem? (i := 23) rfl) (List.mem_singleton.mpr rfl) (List.mem_of_getElem? (i := 11) rfl) (by kernel_rfl) (F.ini nd_ps 33 (d := d_I_BadDeskText) rfl)
    ⟨rfl, rfl, rfl, by decide, rfl, by decide +kernel, by decide +kernel⟩ rfl (fun _ => rfl) rfl rfl rfl rfl (fun _ _ _ _ _ _ us hl => match us, hl with | [_, _], _ => rfl) (fun _ _ _ _ _ _ _ _ => rfl)
theorem mx_BadGoods (T : XcAll K ("ReceiptError" : Str) bm xs) (F : Fcts 9 ps K) : MxC P w K mg base ("BadGoods" : Str) ("index" : Str) ("index" : Str) :=
  mxc_at (more := [("index" : Str)]) T (List.mem_of_getElem? (i := 26) rfl) (List.mem_singleton.mpr rfl) (List.mem_of_getElem? (i := 10) rfl) (by kernel_rfl) (F.ini nd_ps 36 (d := d_I_BadGoods) rfl)
    ⟨rfl, rfl, rfl, by decide, rfl, by decide +kernel, by decide +kernel⟩ rfl (fun _ => rfl) rfl rfl rfl rfl (fun _ _ _ _ _ _ us hl => match us, hl with | [_, _], _ => rfl) (fun _ _ _ _ _ _ _ _ => rfl)
theorem mx_WrongReceipts (T : XcAll K ("ReceiptError" : Str) bm xs) (F : Fcts 9 ps K) : MxC P w K mg base ("WrongReceipts" : Str) ("index" : Str) ("index" : Str) :=
  mxc_at (more := [("index" : Str)]) T (List.mem_of_getElem? (i := 27) rfl) (List.mem_singleton.mpr rfl) (List.mem_of_getElem? (i := 10) rfl) (by kernel_rfl) (F.ini nd_ps 37 (d := d_I_WrongReceipts) rfl)
    ⟨rfl, rfl, rfl, by decide, rfl, by decide +kernel, by decide +kernel⟩ rfl (fun _ => rfl) rfl rfl rfl rfl (fun _ _ _ _ _ _ us hl => match us, hl with | [_, _], _ => rfl) (fun _ _ _ _ _ _ _ _ => rfl)
theorem mx_BadReceipts (T : XcAll K ("ReceiptError" : Str) bm xs) (F : Fcts 9 ps K) : MxC P w K mg base ("BadReceipts" : Str) ("receipts" : Str) ("receipts" : Str) :=
  mxc_at (more := [("receipts" : Str)]) T (List.mem_of_getElem? (i := 28) rfl) (List.mem_singleton.mpr rfl) (List.mem_of_getElem? (i := 25) rfl) (by kernel_rfl) (F.ini nd_ps 38 (d := d_I_BadReceipts) rfl)
    ⟨rfl, rfl, rfl, by decide, rfl, by decide +kernel, by decide +kernel⟩ rfl (fun _ => rfl) rfl rfl rfl rfl (fun _ _ _ _ _ _ us hl => match us, hl with | [_, _], _ => rfl) (fun _ _ _ _ _ _ _ _ => rfl)
theorem mx_BadIndex (T : XcAll K ("ReceiptError" : Str) bm xs) (F : Fcts 9 ps K) : MxC P w K mg base ("BadIndex" : Str) ("index" : Str) ("index" : Str) :=
  mxc_at (more := [("index" : Str)]) T (List.mem_of_getElem? (i := 29) rfl) (List.mem_singleton.mpr rfl) (List.mem_of_getElem? (i := 10) rfl) (by kernel_rfl) (F.ini nd_ps 39 (d := d_I_BadIndex) rfl)
    ⟨rfl, rfl, rfl, by decide, rfl, by decide +kernel, by decide +kernel⟩ rfl (fun _ => rfl) rfl rfl rfl rfl (fun _ _ _ _ _ _ us hl => match us, hl with | [_, _], _ => rfl) (fun _ _ _ _ _ _ _ _ => rfl)
theorem mx_BadPlaces (T : XcAll K ("ReceiptError" : Str) bm xs) (F : Fcts 9 ps K) : MxC P w K mg base ("BadPlaces" : Str) ("places" : Str) ("places" : Str) :=
  mxc_at (more := [("places" : Str)]) T (List.mem_of_getElem? (i := 30) rfl) (List.mem_singleton.mpr rfl) (List.mem_of_getElem? (i := 22) rfl) (by kernel_rfl) (F.ini nd_ps 40 (d := d_I_BadPlaces) rfl)
    ⟨rfl, rfl, rfl, by decide, rfl, by decide +kernel, by decide +kernel⟩ rfl (fun _ => rfl) rfl rfl rfl rfl (fun _ _ _ _ _ _ us hl => match us, hl with | [_, _], _ => rfl) (fun _ _ _ _ _ _ _ _ => rfl)
theorem mx_BadPrices (T : XcAll K ("ReceiptError" : Str) bm xs) (F : Fcts 9 ps K) : MxC P w K mg base ("BadPrices" : Str) ("prices" : Str) ("prices" : Str) :=
  mxc_at (more := [("prices" : Str)]) T (List.mem_of_getElem? (i := 31) rfl) (List.mem_singleton.mpr rfl) (List.mem_of_getElem? (i := 23) rfl) (by kernel_rfl) (F.ini nd_ps 41 (d := d_I_BadPrices) rfl)
    ⟨rfl, rfl, rfl, by decide, rfl, by decide +kernel, by decide +kernel⟩ rfl (fun _ => rfl) rfl rfl rfl rfl (fun _ _ _ _ _ _ us hl => match us, hl with | [_, _], _ => rfl) (fun _ _ _ _ _ _ _ _ => rfl)
theorem mx_BadBundle (T : XcAll K ("ReceiptError" : Str) bm xs) (F : Fcts 9 ps K) : MxC P w K mg base ("BadBundle" : Str) ("bundle" : Str) ("bundle" : Str) :=
  mxc_at (more := [("bundle" : Str)]) T (List.mem_of_getElem? (i := 32) rfl) (List.mem_singleton.mpr rfl) (List.mem_of_getElem? (i := 1) rfl) (by kernel_rfl) (F.ini nd_ps 42 (d := d_I_BadBundle) rfl)
    ⟨rfl, rfl, rfl, by decide, rfl, by decide +kernel, by decide +kernel⟩ rfl (fun _ => rfl) rfl rfl rfl rfl (fun _ _ _ _ _ _ us hl => match us, hl with | [_, _], _ => rfl) (fun _ _ _ _ _ _ _ _ => rfl)
theorem mx_BadMoney (T : XcAll K ("ReceiptError" : Str) bm xs) (F : Fcts 9 ps K) : MxC P w K mg base ("BadMoney" : Str) ("money" : Str) ("money" : Str) :=
  mxc_at (more := [("money" : Str)]) T (List.mem_of_getElem? (i := 33) rfl) (List.mem_singleton.mpr rfl) (List.mem_of_getElem? (i := 14) rfl) (by kernel_rfl) (F.ini nd_ps 43 (d := d_I_BadMoney) rfl)
    ⟨rfl, rfl, rfl, by decide, rfl, by decide +kernel, by decide +kernel⟩ rfl (fun _ => rfl) rfl rfl rfl rfl (fun _ _ _ _ _ _ us hl => match us, hl with | [_, _], _ => rfl) (fun _ _ _ _ _ _ _ _ => rfl)
theorem mx_BadGood (T : XcAll K ("ReceiptError" : Str) bm xs) (F : Fcts 9 ps K) : MxC P w K mg base ("BadGood" : Str) ("good" : Str) ("good" : Str) :=
  mxc_at (more := [("good" : Str)]) T (List.mem_of_getElem? (i := 34) rfl) (List.mem_singleton.mpr rfl) (List.mem_of_getElem? (i := 8) rfl) (by kernel_rfl) (F.ini nd_ps 44 (d := d_I_BadGood) rfl)
    ⟨rfl, rfl, rfl, by decide, rfl, by decide +kernel, by decide +kernel⟩ rfl (fun _ => rfl) rfl rfl rfl rfl (fun _ _ _ _ _ _ us hl => match us, hl with | [_, _], _ => rfl) (fun _ _ _ _ _ _ _ _ => rfl)
theorem mx_OneGood (T : XcAll K ("ReceiptError" : Str) bm xs) (F : Fcts 9 ps K) : MxC P w K mg base ("OneGood" : Str) ("good" : Str) ("good" : Str) :=
  mxc_at (more := [("good" : Str)]) T (List.mem_of_getElem? (i := 35) rfl) (List.mem_singleton.mpr rfl) (List.mem_of_getElem? (i := 8) rfl) (by kernel_rfl) (F.ini nd_ps 45 (d := d_I_OneGood) rfl)
    ⟨rfl, rfl, rfl, by decide, rfl, by decide +kernel, by decide +kernel⟩ rfl (fun _ => rfl) rfl rfl rfl rfl (fun _ _ _ _ _ _ us hl => match us, hl with | [_, _], _ => rfl) (fun _ _ _ _ _ _ _ _ => rfl)
theorem mx_BadWeights (T : XcAll K ("ReceiptError" : Str) bm xs) (F : Fcts 9 ps K) : MxC P w K mg base ("BadWeights" : Str) ("weights" : Str) ("weights" : Str) :=
  mxc_at (more := [("weights" : Str)]) T (List.mem_of_getElem? (i := 36) rfl) (List.mem_singleton.mpr rfl) (List.mem_of_getElem? (i := 31) rfl) (by kernel_rfl) (F.ini nd_ps 46 (d := d_I_BadWeights) rfl)
    ⟨rfl, rfl, rfl, by decide, rfl, by decide +kernel, by decide +kernel⟩ rfl (fun _ => rfl) rfl rfl rfl rfl (fun _ _ _ _ _ _ us hl => match us, hl with | [_, _], _ => rfl) (fun _ _ _ _ _ _ _ _ => rfl)
theorem mx_BadReceiptsText (T : XcAll K ("ReceiptError" : Str) bm xs) (F : Fcts 9 ps K) : MxC P w K mg base ("BadReceiptsText" : Str) ("line" : Str) ("line" : Str) :=
  mxc_at (more := [("line" : Str)]) T (List.mem_of_getElem? (i := 37) rfl) (List.mem_singleton.mpr rfl) (List.mem_of_getElem? (i := 11) rfl) (by kernel_rfl) (F.ini nd_ps 47 (d := d_I_BadReceiptsText) rfl)
    ⟨rfl, rfl, rfl, by decide, rfl, by decide +kernel, by decide +kernel⟩ rfl (fun _ => rfl) rfl rfl rfl rfl (fun _ _ _ _ _ _ us hl => match us, hl with | [_, _], _ => rfl) (fun _ _ _ _ _ _ _ _ => rfl)
theorem mx_BadNumbers (T : XcAll K ("ReceiptError" : Str) bm xs) (F : Fcts 9 ps K) : MxC P w K mg base ("BadNumbers" : Str) ("index" : Str) ("index" : Str) :=
  mxc_at (more := [("index" : Str)]) T (List.mem_of_getElem? (i := 38) rfl) (List.mem_singleton.mpr rfl) (List.mem_of_getElem? (i := 10) rfl) (by kernel_rfl) (F.ini nd_ps 48 (d := d_I_BadNumbers) rfl)
    ⟨rfl, rfl, rfl, by decide, rfl, by decide +kernel, by decide +kernel⟩ rfl (fun _ => rfl) rfl rfl rfl rfl (fun _ _ _ _ _ _ us hl => match us, hl with | [_, _], _ => rfl) (fun _ _ _ _ _ _ _ _ => rfl)
theorem mx_BadNumbersText (T : XcAll K ("ReceiptError" : Str) bm xs) (F : Fcts 9 ps K) : MxC P w K mg base ("BadNumbersText" : Str) ("line" : Str) ("line" : Str) :=
  mxc_at (more := [("line" : Str)]) T (List.mem_of_getElem? (i := 39) rfl) (List.mem_singleton.mpr rfl) (List.mem_of_getElem? (i := 11) rfl) (by kernel_rfl) (F.ini nd_ps 49 (d := d_I_BadNumbersText) rfl)
    ⟨rfl, rfl, rfl, by decide, rfl, by decide +kernel, by decide +kernel⟩ rfl (fun _ => rfl) rfl rfl rfl rfl (fun _ _ _ _ _ _ us hl => match us, hl with | [_, _], _ => rfl) (fun _ _ _ _ _ _ _ _ => rfl)
theorem mx_NoReceipts (T : XcAll K ("ReceiptError" : Str) bm xs) (F : Fcts 9 ps K) : MxC P w K mg base ("NoReceipts" : Str) ("receipts" : Str) ("receipts" : Str) :=
  mxc_at (more := [("receipts" : Str)]) T (List.mem_of_getElem? (i := 40) rfl) (List.mem_singleton.mpr rfl) (List.mem_of_getElem? (i := 25) rfl) (by kernel_rfl) (F.ini nd_ps 50 (d := d_I_NoReceipts) rfl)
    ⟨rfl, rfl, rfl, by decide, rfl, by decide +kernel, by decide +kernel⟩ rfl (fun _ => rfl) rfl rfl rfl rfl (fun _ _ _ _ _ _ us hl => match us, hl with | [_, _], _ => rfl) (fun _ _ _ _ _ _ _ _ => rfl)
theorem mx_WrongChoices (T : XcAll K ("ReceiptError" : Str) bm xs) (F : Fcts 9 ps K) : MxC P w K mg base ("WrongChoices" : Str) ("index" : Str) ("index" : Str) :=
  mxc_at (more := [("index" : Str)]) T (List.mem_of_getElem? (i := 41) rfl) (List.mem_singleton.mpr rfl) (List.mem_of_getElem? (i := 10) rfl) (by kernel_rfl) (F.ini nd_ps 51 (d := d_I_WrongChoices) rfl)
    ⟨rfl, rfl, rfl, by decide, rfl, by decide +kernel, by decide +kernel⟩ rfl (fun _ => rfl) rfl rfl rfl rfl (fun _ _ _ _ _ _ us hl => match us, hl with | [_, _], _ => rfl) (fun _ _ _ _ _ _ _ _ => rfl)
theorem mx_BadChoices (T : XcAll K ("ReceiptError" : Str) bm xs) (F : Fcts 9 ps K) : MxC P w K mg base ("BadChoices" : Str) ("choices" : Str) ("choices" : Str) :=
  mxc_at (more := [("choices" : Str)]) T (List.mem_of_getElem? (i := 42) rfl) (List.mem_singleton.mpr rfl) (List.mem_of_getElem? (i := 3) rfl) (by kernel_rfl) (F.ini nd_ps 52 (d := d_I_BadChoices) rfl)
    ⟨rfl, rfl, rfl, by decide, rfl, by decide +kernel, by decide +kernel⟩ rfl (fun _ => rfl) rfl rfl rfl rfl (fun _ _ _ _ _ _ us hl => match us, hl with | [_, _], _ => rfl) (fun _ _ _ _ _ _ _ _ => rfl)
theorem mx_BadMenu (T : XcAll K ("ReceiptError" : Str) bm xs) (F : Fcts 9 ps K) : MxC P w K mg base ("BadMenu" : Str) ("menu" : Str) ("menu" : Str) :=
  mxc_at (more := [("menu" : Str)]) T (List.mem_of_getElem? (i := 43) rfl) (List.mem_singleton.mpr rfl) (List.mem_of_getElem? (i := 13) rfl) (by kernel_rfl) (F.ini nd_ps 53 (d := d_I_BadMenu) rfl)
    ⟨rfl, rfl, rfl, by decide, rfl, by decide +kernel, by decide +kernel⟩ rfl (fun _ => rfl) rfl rfl rfl rfl (fun _ _ _ _ _ _ us hl => match us, hl with | [_, _], _ => rfl) (fun _ _ _ _ _ _ _ _ => rfl)
theorem mx_NoLevels (T : XcAll K ("ReceiptError" : Str) bm xs) (F : Fcts 9 ps K) : MxC P w K mg base ("NoLevels" : Str) ("choices" : Str) ("choices" : Str) :=
  mxc_at (more := [("choices" : Str)]) T (List.mem_of_getElem? (i := 44) rfl) (List.mem_singleton.mpr rfl) (List.mem_of_getElem? (i := 3) rfl) (by kernel_rfl) (F.ini nd_ps 54 (d := d_I_NoLevels) rfl)
    ⟨rfl, rfl, rfl, by decide, rfl, by decide +kernel, by decide +kernel⟩ rfl (fun _ => rfl) rfl rfl rfl rfl (fun _ _ _ _ _ _ us hl => match us, hl with | [_, _], _ => rfl) (fun _ _ _ _ _ _ _ _ => rfl)
theorem mx_BadThing (T : XcAll K ("ReceiptError" : Str) bm xs) (F : Fcts 9 ps K) : MxC P w K mg base ("BadThing" : Str) ("thing" : Str) ("thing" : Str) :=
  mxc_at (more := [("thing" : Str)]) T (List.mem_of_getElem? (i := 45) rfl) (List.mem_singleton.mpr rfl) (List.mem_of_getElem? (i := 29) rfl) (by kernel_rfl) (F.ini nd_ps 55 (d := d_I_BadThing) rfl)
    ⟨rfl, rfl, rfl, by decide, rfl, by decide +kernel, by decide +kernel⟩ rfl (fun _ => rfl) rfl rfl rfl rfl (fun _ _ _ _ _ _ us hl => match us, hl with | [_, _], _ => rfl) (fun _ _ _ _ _ _ _ _ => rfl)
theorem mx_NotWhole (T : XcAll K ("ReceiptError" : Str) bm xs) (F : Fcts 9 ps K) : MxC P w K mg base ("NotWhole" : Str) ("choices" : Str) ("choices" : Str) :=
  mxc_at (more := [("choices" : Str)]) T (List.mem_of_getElem? (i := 46) rfl) (List.mem_singleton.mpr rfl) (List.mem_of_getElem? (i := 3) rfl) (by kernel_rfl) (F.ini nd_ps 56 (d := d_I_NotWhole) rfl)
    ⟨rfl, rfl, rfl, by decide, rfl, by decide +kernel, by decide +kernel⟩ rfl (fun _ => rfl) rfl rfl rfl rfl (fun _ _ _ _ _ _ us hl => match us, hl with | [_, _], _ => rfl) (fun _ _ _ _ _ _ _ _ => rfl)
theorem mx_BadSieves (T : XcAll K ("ReceiptError" : Str) bm xs) (F : Fcts 9 ps K) : MxC P w K mg base ("BadSieves" : Str) ("sieves" : Str) ("sieves" : Str) :=
  mxc_at (more := [("sieves" : Str)]) T (List.mem_of_getElem? (i := 47) rfl) (List.mem_singleton.mpr rfl) (List.mem_of_getElem? (i := 28) rfl) (by kernel_rfl) (F.ini nd_ps 57 (d := d_I_BadSieves) rfl)
    ⟨rfl, rfl, rfl, by decide, rfl, by decide +kernel, by decide +kernel⟩ rfl (fun _ => rfl) rfl rfl rfl rfl (fun _ _ _ _ _ _ us hl => match us, hl with | [_, _], _ => rfl) (fun _ _ _ _ _ _ _ _ => rfl)
theorem mx_NotAll (T : XcAll K ("ReceiptError" : Str) bm xs) (F : Fcts 9 ps K) : MxC P w K mg base ("NotAll" : Str) ("choices" : Str) ("choices" : Str) :=
  mxc_at (more := [("choices" : Str)]) T (List.mem_of_getElem? (i := 48) rfl) (List.mem_singleton.mpr rfl) (List.mem_of_getElem? (i := 3) rfl) (by kernel_rfl) (F.ini nd_ps 58 (d := d_I_NotAll) rfl)
    ⟨rfl, rfl, rfl, by decide, rfl, by decide +kernel, by decide +kernel⟩ rfl (fun _ => rfl) rfl rfl rfl rfl (fun _ _ _ _ _ _ us hl => match us, hl with | [_, _], _ => rfl) (fun _ _ _ _ _ _ _ _ => rfl)
theorem mx_BadOrders (T : XcAll K ("ReceiptError" : Str) bm xs) (F : Fcts 9 ps K) : MxC P w K mg base ("BadOrders" : Str) ("orders" : Str) ("orders" : Str) :=
  mxc_at (more := [("orders" : Str)]) T (List.mem_of_getElem? (i := 49) rfl) (List.mem_singleton.mpr rfl) (List.mem_of_getElem? (i := 17) rfl) (by kernel_rfl) (F.ini nd_ps 59 (d := d_I_BadOrders) rfl)
    ⟨rfl, rfl, rfl, by decide, rfl, by decide +kernel, by decide +kernel⟩ rfl (fun _ => rfl) rfl rfl rfl rfl (fun _ _ _ _ _ _ us hl => match us, hl with | [_, _], _ => rfl) (fun _ _ _ _ _ _ _ _ => rfl)
theorem mx_NoOrders (T : XcAll K ("ReceiptError" : Str) bm xs) (F : Fcts 9 ps K) : MxC P w K mg base ("NoOrders" : Str) ("choices" : Str) ("choices" : Str) :=
  mxc_at (more := [("choices" : Str)]) T (List.mem_of_getElem? (i := 50) rfl) (List.mem_singleton.mpr rfl) (List.mem_of_getElem? (i := 3) rfl) (by kernel_rfl) (F.ini nd_ps 60 (d := d_I_NoOrders) rfl)
    ⟨rfl, rfl, rfl, by decide, rfl, by decide +kernel, by decide +kernel⟩ rfl (fun _ => rfl) rfl rfl rfl rfl (fun _ _ _ _ _ _ us hl => match us, hl with | [_, _], _ => rfl) (fun _ _ _ _ _ _ _ _ => rfl)
theorem mx_WrongRecords (T : XcAll K ("ReceiptError" : Str) bm xs) (F : Fcts 9 ps K) : MxC P w K mg base ("WrongRecords" : Str) ("index" : Str) ("index" : Str) :=
  mxc_at (more := [("index" : Str)]) T (List.mem_of_getElem? (i := 51) rfl) (List.mem_singleton.mpr rfl) (List.mem_of_getElem? (i := 10) rfl) (by kernel_rfl) (F.ini nd_ps 61 (d := d_I_WrongRecords) rfl)
    ⟨rfl, rfl, rfl, by decide, rfl, by decide +kernel, by decide +kernel⟩ rfl (fun _ => rfl) rfl rfl rfl rfl (fun _ _ _ _ _ _ us hl => match us, hl with | [_, _], _ => rfl) (fun _ _ _ _ _ _ _ _ => rfl)
theorem mx_BadRecords (T : XcAll K ("ReceiptError" : Str) bm xs) (F : Fcts 9 ps K) : MxC P w K mg base ("BadRecords" : Str) ("records" : Str) ("records" : Str) :=
  mxc_at (more := [("records" : Str)]) T (List.mem_of_getElem? (i := 52) rfl) (List.mem_singleton.mpr rfl) (List.mem_of_getElem? (i := 26) rfl) (by kernel_rfl) (F.ini nd_ps 62 (d := d_I_BadRecords) rfl)
    ⟨rfl, rfl, rfl, by decide, rfl, by decide +kernel, by decide +kernel⟩ rfl (fun _ => rfl) rfl rfl rfl rfl (fun _ _ _ _ _ _ us hl => match us, hl with | [_, _], _ => rfl) (fun _ _ _ _ _ _ _ _ => rfl)
theorem mx_BadOutput (T : XcAll K ("ReceiptError" : Str) bm xs) (F : Fcts 9 ps K) : MxC P w K mg base ("BadOutput" : Str) ("output" : Str) ("output" : Str) :=
  mxc_at (more := [("output" : Str)]) T (List.mem_of_getElem? (i := 53) rfl) (List.mem_singleton.mpr rfl) (List.mem_of_getElem? (i := 20) rfl) (by kernel_rfl) (F.ini nd_ps 63 (d := d_I_BadOutput) rfl)
    ⟨rfl, rfl, rfl, by decide, rfl, by decide +kernel, by decide +kernel⟩ rfl (fun _ => rfl) rfl rfl rfl rfl (fun _ _ _ _ _ _ us hl => match us, hl with | [_, _], _ => rfl) (fun _ _ _ _ _ _ _ _ => rfl)
theorem en (X : K.In h) (G : h.Ns mainGlobals mg) (F : Fcts 9 ps K) : En P w K mg base := by
  have T := xc_ok F
  constructor
  · rw [L_eq]
    exact T.cl
  · exact F.free (x := "IndexError") (by decide +kernel) X G
  · exact F.free (x := "KeyError") (by decide +kernel) X G
  · exact F.free (x := "TypeError") (by decide +kernel) X G
  · exact F.free (x := "ValueError") (by decide +kernel) X G
  · exact F.free (x := "abs") (by decide +kernel) X G
  · exact F.free (x := "all") (by decide +kernel) X G
  · exact F.free (x := "bool") (by decide +kernel) X G
  · exact F.free (x := "dict") (by decide +kernel) X G
  · exact F.free (x := "int") (by decide +kernel) X G
  · exact F.free (x := "isinstance") (by decide +kernel) X G
  · exact F.free (x := "len") (by decide +kernel) X G
  · exact F.free (x := "list") (by decide +kernel) X G
  · exact F.free (x := "max") (by decide +kernel) X G
  · exact F.free (x := "range") (by decide +kernel) X G
  · exact F.free (x := "str") (by decide +kernel) X G
  · exact F.free (x := "tuple") (by decide +kernel) X G
  · exact F.free (x := "zip") (by decide +kernel) X G
  · exact F.glo nd_ps 18 (p := (("BadAnswer" : Str), .xi d_I_BadAnswer)) rfl rfl X G
  · exact F.glo nd_ps 42 (p := (("BadBundle" : Str), .xi d_I_BadBundle)) rfl rfl X G
  · exact F.glo nd_ps 15 (p := (("BadBy" : Str), .xi d_I_BadBy)) rfl rfl X G
  · exact F.glo nd_ps 52 (p := (("BadChoices" : Str), .xi d_I_BadChoices)) rfl rfl X G
  · exact F.glo nd_ps 32 (p := (("BadDesk" : Str), .xi d_I_BadDesk)) rfl rfl X G
  · exact F.glo nd_ps 33 (p := (("BadDeskText" : Str), .xi d_I_BadDeskText)) rfl rfl X G
  · exact F.glo nd_ps 31 (p := (("BadEdit" : Str), .xi d_I_BadEdit)) rfl rfl X G
  · exact F.glo nd_ps 22 (p := (("BadFees" : Str), .xi d_I_BadFees)) rfl rfl X G
  · exact F.glo nd_ps 25 (p := (("BadFilling" : Str), .xi d_I_BadFilling)) rfl rfl X G
  · exact F.glo nd_ps 44 (p := (("BadGood" : Str), .xi d_I_BadGood)) rfl rfl X G
  · exact F.glo nd_ps 36 (p := (("BadGoods" : Str), .xi d_I_BadGoods)) rfl rfl X G
  · exact F.glo nd_ps 24 (p := (("BadGuesses" : Str), .xi d_I_BadGuesses)) rfl rfl X G
  · exact F.glo nd_ps 39 (p := (("BadIndex" : Str), .xi d_I_BadIndex)) rfl rfl X G
  · exact F.glo nd_ps 29 (p := (("BadMany" : Str), .xi d_I_BadMany)) rfl rfl X G
  · exact F.glo nd_ps 53 (p := (("BadMenu" : Str), .xi d_I_BadMenu)) rfl rfl X G
  · exact F.glo nd_ps 43 (p := (("BadMoney" : Str), .xi d_I_BadMoney)) rfl rfl X G
  · exact F.glo nd_ps 27 (p := (("BadMost" : Str), .xi d_I_BadMost)) rfl rfl X G
  · exact F.glo nd_ps 48 (p := (("BadNumbers" : Str), .xi d_I_BadNumbers)) rfl rfl X G
  · exact F.glo nd_ps 49 (p := (("BadNumbersText" : Str), .xi d_I_BadNumbersText)) rfl rfl X G
  · exact F.glo nd_ps 59 (p := (("BadOrders" : Str), .xi d_I_BadOrders)) rfl rfl X G
  · exact F.glo nd_ps 10 (p := (("BadOther" : Str), .xi d_I_BadOther)) rfl rfl X G
  · exact F.glo nd_ps 28 (p := (("BadOthers" : Str), .xi d_I_BadOthers)) rfl rfl X G
  · exact F.glo nd_ps 63 (p := (("BadOutput" : Str), .xi d_I_BadOutput)) rfl rfl X G
  · exact F.glo nd_ps 23 (p := (("BadPart" : Str), .xi d_I_BadPart)) rfl rfl X G
  · exact F.glo nd_ps 40 (p := (("BadPlaces" : Str), .xi d_I_BadPlaces)) rfl rfl X G
  · exact F.glo nd_ps 41 (p := (("BadPrices" : Str), .xi d_I_BadPrices)) rfl rfl X G
  · exact F.glo nd_ps 21 (p := (("BadRanks" : Str), .xi d_I_BadRanks)) rfl rfl X G
  · exact F.glo nd_ps 38 (p := (("BadReceipts" : Str), .xi d_I_BadReceipts)) rfl rfl X G
  · exact F.glo nd_ps 47 (p := (("BadReceiptsText" : Str), .xi d_I_BadReceiptsText)) rfl rfl X G
  · exact F.glo nd_ps 62 (p := (("BadRecords" : Str), .xi d_I_BadRecords)) rfl rfl X G
  · exact F.glo nd_ps 20 (p := (("BadRing" : Str), .xi d_I_BadRing)) rfl rfl X G
  · exact F.glo nd_ps 57 (p := (("BadSieves" : Str), .xi d_I_BadSieves)) rfl rfl X G
  · exact F.glo nd_ps 55 (p := (("BadThing" : Str), .xi d_I_BadThing)) rfl rfl X G
  · exact F.glo nd_ps 14 (p := (("BadTimes" : Str), .xi d_I_BadTimes)) rfl rfl X G
  · exact F.glo nd_ps 46 (p := (("BadWeights" : Str), .xi d_I_BadWeights)) rfl rfl X G
  · exact F.glo nd_ps 19 (p := (("BadWholeText" : Str), .xi d_I_BadWholeText)) rfl rfl X G
  · exact F.glo nd_ps 16 (p := (("NoAmounts" : Str), .xi d_I_NoAmounts)) rfl rfl X G
  · exact F.glo nd_ps 26 (p := (("NoFilling" : Str), .xi d_I_NoFilling)) rfl rfl X G
  · exact F.glo nd_ps 54 (p := (("NoLevels" : Str), .xi d_I_NoLevels)) rfl rfl X G
  · exact F.glo nd_ps 60 (p := (("NoOrders" : Str), .xi d_I_NoOrders)) rfl rfl X G
  · exact F.glo nd_ps 50 (p := (("NoReceipts" : Str), .xi d_I_NoReceipts)) rfl rfl X G
  · exact F.glo nd_ps 58 (p := (("NotAll" : Str), .xi d_I_NotAll)) rfl rfl X G
  · exact F.glo nd_ps 17 (p := (("NotEven" : Str), .xi d_I_NotEven)) rfl rfl X G
  · exact F.glo nd_ps 12 (p := (("NotFitting" : Str), .xi d_I_NotFitting)) rfl rfl X G
  · exact F.glo nd_ps 13 (p := (("NotMoney" : Str), .xi d_I_NotMoney)) rfl rfl X G
  · exact F.glo nd_ps 30 (p := (("NotSingle" : Str), .xi d_I_NotSingle)) rfl rfl X G
  · exact F.glo nd_ps 56 (p := (("NotWhole" : Str), .xi d_I_NotWhole)) rfl rfl X G
  · exact F.glo nd_ps 11 (p := (("NotWish" : Str), .xi d_I_NotWish)) rfl rfl X G
  · exact F.glo nd_ps 35 (p := (("NothingToRedo" : Str), .x0)) rfl rfl X G
  · exact F.glo nd_ps 34 (p := (("NothingToUndo" : Str), .x0)) rfl rfl X G
  · exact F.glo nd_ps 45 (p := (("OneGood" : Str), .xi d_I_OneGood)) rfl rfl X G
  · exact F.glo nd_ps 9 (p := (("ReceiptError" : Str), .xb)) rfl rfl X G
  · exact F.glo nd_ps 51 (p := (("WrongChoices" : Str), .xi d_I_WrongChoices)) rfl rfl X G
  · exact F.glo nd_ps 37 (p := (("WrongReceipts" : Str), .xi d_I_WrongReceipts)) rfl rfl X G
  · exact F.glo nd_ps 61 (p := (("WrongRecords" : Str), .xi d_I_WrongRecords)) rfl rfl X G
  · rw [L_eq]
    exact T.own xfree (List.mem_of_getElem? (i := 9) rfl)
  · rw [L_eq]
    exact T.own xfree (List.mem_of_getElem? (i := 33) rfl)
  · rw [L_eq]
    exact T.own xfree (List.mem_of_getElem? (i := 6) rfl)
  · rw [L_eq]
    exact T.own xfree (List.mem_of_getElem? (i := 43) rfl)
  · rw [L_eq]
    exact T.own xfree (List.mem_of_getElem? (i := 23) rfl)
  · rw [L_eq]
    exact T.own xfree (List.mem_of_getElem? (i := 24) rfl)
  · rw [L_eq]
    exact T.own xfree (List.mem_of_getElem? (i := 22) rfl)
  · rw [L_eq]
    exact T.own xfree (List.mem_of_getElem? (i := 13) rfl)
  · rw [L_eq]
    exact T.own xfree (List.mem_of_getElem? (i := 16) rfl)
  · rw [L_eq]
    exact T.own xfree (List.mem_of_getElem? (i := 35) rfl)
  · rw [L_eq]
    exact T.own xfree (List.mem_of_getElem? (i := 27) rfl)
  · rw [L_eq]
    exact T.own xfree (List.mem_of_getElem? (i := 15) rfl)
  · rw [L_eq]
    exact T.own xfree (List.mem_of_getElem? (i := 30) rfl)
  · rw [L_eq]
    exact T.own xfree (List.mem_of_getElem? (i := 20) rfl)
  · rw [L_eq]
    exact T.own xfree (List.mem_of_getElem? (i := 44) rfl)
  · rw [L_eq]
    exact T.own xfree (List.mem_of_getElem? (i := 34) rfl)
  · rw [L_eq]
    exact T.own xfree (List.mem_of_getElem? (i := 18) rfl)
  · rw [L_eq]
    exact T.own xfree (List.mem_of_getElem? (i := 39) rfl)
  · rw [L_eq]
    exact T.own xfree (List.mem_of_getElem? (i := 40) rfl)
  · rw [L_eq]
    exact T.own xfree (List.mem_of_getElem? (i := 50) rfl)
  · rw [L_eq]
    exact T.own xfree (List.mem_of_getElem? (i := 1) rfl)
  · rw [L_eq]
    exact T.own xfree (List.mem_of_getElem? (i := 19) rfl)
  · rw [L_eq]
    exact T.own xfree (List.mem_of_getElem? (i := 54) rfl)
  · rw [L_eq]
    exact T.own xfree (List.mem_of_getElem? (i := 14) rfl)
  · rw [L_eq]
    exact T.own xfree (List.mem_of_getElem? (i := 31) rfl)
  · rw [L_eq]
    exact T.own xfree (List.mem_of_getElem? (i := 32) rfl)
  · rw [L_eq]
    exact T.own xfree (List.mem_of_getElem? (i := 12) rfl)
  · rw [L_eq]
    exact T.own xfree (List.mem_of_getElem? (i := 29) rfl)
  · rw [L_eq]
    exact T.own xfree (List.mem_of_getElem? (i := 38) rfl)
  · rw [L_eq]
    exact T.own xfree (List.mem_of_getElem? (i := 53) rfl)
  · rw [L_eq]
    exact T.own xfree (List.mem_of_getElem? (i := 11) rfl)
  · rw [L_eq]
    exact T.own xfree (List.mem_of_getElem? (i := 48) rfl)
  · rw [L_eq]
    exact T.own xfree (List.mem_of_getElem? (i := 46) rfl)
  · rw [L_eq]
    exact T.own xfree (List.mem_of_getElem? (i := 5) rfl)
  · rw [L_eq]
    exact T.own xfree (List.mem_of_getElem? (i := 37) rfl)
  · rw [L_eq]
    exact T.own xfree (List.mem_of_getElem? (i := 10) rfl)
  · rw [L_eq]
    exact T.own xfree (List.mem_of_getElem? (i := 7) rfl)
  · rw [L_eq]
    exact T.own xfree (List.mem_of_getElem? (i := 17) rfl)
  · rw [L_eq]
    exact T.own xfree (List.mem_of_getElem? (i := 45) rfl)
  · rw [L_eq]
    exact T.own xfree (List.mem_of_getElem? (i := 51) rfl)
  · rw [L_eq]
    exact T.own xfree (List.mem_of_getElem? (i := 41) rfl)
  · rw [L_eq]
    exact T.own xfree (List.mem_of_getElem? (i := 49) rfl)
  · rw [L_eq]
    exact T.own xfree (List.mem_of_getElem? (i := 8) rfl)
  · rw [L_eq]
    exact T.own xfree (List.mem_of_getElem? (i := 3) rfl)
  · rw [L_eq]
    exact T.own xfree (List.mem_of_getElem? (i := 4) rfl)
  · rw [L_eq]
    exact T.own xfree (List.mem_of_getElem? (i := 21) rfl)
  · rw [L_eq]
    exact T.own xfree (List.mem_of_getElem? (i := 47) rfl)
  · rw [L_eq]
    exact T.own xfree (List.mem_of_getElem? (i := 2) rfl)
  · rw [L_eq]
    exact T.own xfree (List.mem_of_getElem? (i := 26) rfl)
  · rw [L_eq]
    exact T.own xfree (List.mem_of_getElem? (i := 25) rfl)
  · rw [L_eq]
    exact T.own xfree (List.mem_of_getElem? (i := 36) rfl)
  · rw [L_eq]
    exact T.own xfree (List.mem_of_getElem? (i := 0) rfl)
  · rw [L_eq]
    exact T.own xfree (List.mem_of_getElem? (i := 42) rfl)
  · rw [L_eq]
    exact T.own xfree (List.mem_of_getElem? (i := 28) rfl)
  · rw [L_eq]
    exact T.own xfree (List.mem_of_getElem? (i := 52) rfl)
  · rw [L_eq]
    exact T.ty (by decide +kernel) (by decide +kernel)
  · rw [L_eq]
    exact T.ty (by decide +kernel) (by decide +kernel)
  · rw [L_eq]
    exact T.ty (by decide +kernel) (by decide +kernel)
  · rw [L_eq]
    exact T.ty (by decide +kernel) (by decide +kernel)
  · rw [L_eq]
    exact T.ty (by decide +kernel) (by decide +kernel)
  · rw [L_eq]
    exact T.ty (by decide +kernel) (by decide +kernel)
  · rw [L_eq]
    exact T.ty (by decide +kernel) (by decide +kernel)
  · rw [L_eq]
    exact T.ty (by decide +kernel) (by decide +kernel)
  · rw [L_eq]
    exact T.ty (by decide +kernel) (by decide +kernel)
  · rw [L_eq]
    exact T.ty (by decide +kernel) (by decide +kernel)
  · exact F.df nd_ps 65 (x := ("_law_pick" : Str)) (st := top 60) rfl X G
  · exact F.df nd_ps 66 (x := ("_law_between" : Str)) (st := top 61) rfl X G
  · exact F.df nd_ps 67 (x := ("_law_same" : Str)) (st := top 62) rfl X G
  · exact F.df nd_ps 68 (x := ("_law_kinds_of" : Str)) (st := top 63) rfl X G
  · exact F.df nd_ps 69 (x := ("_law_others" : Str)) (st := top 64) rfl X G
  · exact F.df nd_ps 70 (x := ("_law_is_other" : Str)) (st := top 65) rfl X G
  · exact F.df nd_ps 71 (x := ("_law_made_a" : Str)) (st := top 66) rfl X G
  · exact F.df nd_ps 72 (x := ("_law_made_b" : Str)) (st := top 67) rfl X G
  · exact F.df nd_ps 73 (x := ("_law_made_at" : Str)) (st := top 68) rfl X G
  · exact F.df nd_ps 74 (x := ("_law_object" : Str)) (st := top 69) rfl X G
  · exact F.df nd_ps 64 (x := ("_law_start" : Str)) (st := top 59) rfl X G
  · exact F.df nd_ps 75 (x := ("_law_very" : Str)) (st := top 70) rfl X G
  · exact F.df nd_ps 76 (x := ("_law_caught" : Str)) (st := top 71) rfl X G
  · exact F.df nd_ps 77 (x := ("law" : Str)) (st := top 72) rfl X G
  · exact mx_BadAnswer T F
  · exact mx_BadBundle T F
  · exact mx_BadBy T F
  · exact mx_BadChoices T F
  · exact mx_BadDesk T F
  · exact mx_BadDeskText T F
  · exact mx_BadEdit T F
  · exact mx_BadFees T F
  · exact mx_BadFilling T F
  · exact mx_BadGood T F
  · exact mx_BadGoods T F
  · exact mx_BadGuesses T F
  · exact mx_BadIndex T F
  · exact mx_BadMany T F
  · exact mx_BadMenu T F
  · exact mx_BadMoney T F
  · exact mx_BadMost T F
  · exact mx_BadNumbers T F
  · exact mx_BadNumbersText T F
  · exact mx_BadOrders T F
  · exact mx_BadOther T F
  · exact mx_BadOthers T F
  · exact mx_BadOutput T F
  · exact mx_BadPart T F
  · exact mx_BadPlaces T F
  · exact mx_BadPrices T F
  · exact mx_BadRanks T F
  · exact mx_BadReceipts T F
  · exact mx_BadReceiptsText T F
  · exact mx_BadRecords T F
  · exact mx_BadRing T F
  · exact mx_BadSieves T F
  · exact mx_BadThing T F
  · exact mx_BadTimes T F
  · exact mx_BadWeights T F
  · exact mx_BadWholeText T F
  · exact mx_NoAmounts T F
  · exact mx_NoFilling T F
  · exact mx_NoLevels T F
  · exact mx_NoOrders T F
  · exact mx_NoReceipts T F
  · exact mx_NotAll T F
  · exact mx_NotEven T F
  · exact mx_NotFitting T F
  · exact mx_NotMoney T F
  · exact mx_NotSingle T F
  · exact mx_NotWhole T F
  · exact mx_NotWish T F
  · exact mx_OneGood T F
  · exact mx_WrongChoices T F
  · exact mx_WrongReceipts T F
  · exact mx_WrongRecords T F
  · exact F.x0 nd_ps (b := ("ReceiptError" : Str)) rfl 35 (.inl rfl)
  · exact F.x0 nd_ps (b := ("ReceiptError" : Str)) rfl 34 (.inl rfl)
  · exact F.x0 nd_ps (b := ("ReceiptError" : Str)) rfl 9 (.inr rfl)
  · intro n hn
    simp only [List.mem_cons, List.not_mem_nil, or_false] at hn
    rcases hn with rfl
    · exact ⟨T.xf (List.mem_of_getElem? (i := 21) rfl), T.nof (p := (("NotSingle" : Str), [("choices" : Str)])) (List.mem_of_getElem? (i := 20) rfl) (List.mem_singleton.mpr rfl) (List.mem_of_getElem? (i := 3) rfl) (by kernel_rfl)⟩
  · intro n hn
    simp only [List.mem_cons, List.not_mem_nil, or_false] at hn
    rcases hn with rfl
    · exact ⟨T.xf (List.mem_of_getElem? (i := 23) rfl), T.nof (p := (("BadDesk" : Str), [("desk" : Str)])) (List.mem_of_getElem? (i := 22) rfl) (List.mem_singleton.mpr rfl) (List.mem_of_getElem? (i := 4) rfl) (by kernel_rfl)⟩
  · intro n hn
    simp only [List.mem_cons, List.not_mem_nil, or_false] at hn
    rcases hn with rfl
    · exact ⟨T.xf (List.mem_of_getElem? (i := 22) rfl), T.nof (p := (("BadEdit" : Str), [("edit" : Str)])) (List.mem_of_getElem? (i := 21) rfl) (List.mem_singleton.mpr rfl) (List.mem_of_getElem? (i := 5) rfl) (by kernel_rfl)⟩
  · intro n hn
    simp only [List.mem_cons, List.not_mem_nil, or_false] at hn
    rcases hn with rfl
    · exact ⟨T.xf (List.mem_of_getElem? (i := 13) rfl), T.nof (p := (("BadFees" : Str), [("fees" : Str)])) (List.mem_of_getElem? (i := 12) rfl) (List.mem_singleton.mpr rfl) (List.mem_of_getElem? (i := 6) rfl) (by kernel_rfl)⟩
  · intro n hn
    simp only [List.mem_cons, List.not_mem_nil, or_false] at hn
    rcases hn with rfl
    · exact ⟨T.xf (List.mem_of_getElem? (i := 16) rfl), T.nof (p := (("BadFilling" : Str), [("filling" : Str)])) (List.mem_of_getElem? (i := 15) rfl) (List.mem_singleton.mpr rfl) (List.mem_of_getElem? (i := 7) rfl) (by kernel_rfl)⟩
  · intro n hn
    simp only [List.mem_cons, List.not_mem_nil, or_false] at hn
    rcases hn with rfl | rfl
    · exact ⟨T.xf (List.mem_of_getElem? (i := 15) rfl), T.nof (p := (("BadGuesses" : Str), [("guesses" : Str)])) (List.mem_of_getElem? (i := 14) rfl) (List.mem_singleton.mpr rfl) (List.mem_of_getElem? (i := 9) rfl) (by kernel_rfl)⟩
    · exact ⟨T.xf (List.mem_of_getElem? (i := 17) rfl), T.nof (p := (("NoFilling" : Str), [("guesses" : Str)])) (List.mem_of_getElem? (i := 16) rfl) (List.mem_singleton.mpr rfl) (List.mem_of_getElem? (i := 9) rfl) (by kernel_rfl)⟩
  · intro n hn
    simp only [List.mem_cons, List.not_mem_nil, or_false] at hn
    rcases hn with rfl
    · exact ⟨T.xf (List.mem_of_getElem? (i := 24) rfl), T.nof (p := (("BadDeskText" : Str), [("line" : Str)])) (List.mem_of_getElem? (i := 23) rfl) (List.mem_singleton.mpr rfl) (List.mem_of_getElem? (i := 11) rfl) (by kernel_rfl)⟩
  · intro n hn
    simp only [List.mem_cons, List.not_mem_nil, or_false] at hn
    rcases hn with rfl
    · exact ⟨T.xf (List.mem_of_getElem? (i := 20) rfl), T.nof (p := (("BadMany" : Str), [("many" : Str)])) (List.mem_of_getElem? (i := 19) rfl) (List.mem_singleton.mpr rfl) (List.mem_of_getElem? (i := 12) rfl) (by kernel_rfl)⟩
  · intro n hn
    simp only [List.mem_cons, List.not_mem_nil, or_false] at hn
    rcases hn with rfl
    · exact ⟨T.xf (List.mem_of_getElem? (i := 18) rfl), T.nof (p := (("BadMost" : Str), [("most" : Str)])) (List.mem_of_getElem? (i := 17) rfl) (List.mem_singleton.mpr rfl) (List.mem_of_getElem? (i := 15) rfl) (by kernel_rfl)⟩
  · intro n hn
    simp only [List.mem_cons, List.not_mem_nil, or_false] at hn
    rcases hn with rfl
    · exact ⟨T.xf (List.mem_of_getElem? (i := 19) rfl), T.nof (p := (("BadOthers" : Str), [("others" : Str)])) (List.mem_of_getElem? (i := 18) rfl) (List.mem_singleton.mpr rfl) (List.mem_of_getElem? (i := 19) rfl) (by kernel_rfl)⟩
  · intro n hn
    simp only [List.mem_cons, List.not_mem_nil, or_false] at hn
    rcases hn with rfl
    · exact ⟨T.xf (List.mem_of_getElem? (i := 14) rfl), T.nof (p := (("BadPart" : Str), [("part" : Str)])) (List.mem_of_getElem? (i := 13) rfl) (List.mem_singleton.mpr rfl) (List.mem_of_getElem? (i := 21) rfl) (by kernel_rfl)⟩
end
end Law_k95
end

set_option maxHeartbeats 4000000
section
namespace Law_k95
open PySem PySem.Spec PyProof.Rows L2 Mir
noncomputable section
theorem pick_eq : F__law_pick = Fn.mk [.st, .d] 3 false mPick := rfl
theorem pick {n : Nat} {m : Int} {ds : DS} (hn : n < 2 ^ 40) (I : PkI n ds) (h0 : 0 < m) (h1 : m < 2 ^ 30) : Run (F__law_pick [.st, .d (.int m)] ds) (fun d ds' => ∃ r : Int, d = .int r ∧ 0 ≤ r ∧ r < m ∧ PkI (n + 1) ds') (fun _ _ _ _ => False) := pick_run hn I h0 h1
/-! ### what may be drawn -/
theorem same_end (i : Nat) (x : D) (ds : DS) (e : D.eq x x = some (.bl true)) (h : F__law_same (i + 1) [.d x, .d x] ds = ((M.lift (D.eq x x) >>= fun d => (pure (Fl.rt d) : M Fl)) >>= fun r => (match r with
    | .rt d => pure d
    | .nx _ => M.stuck : M D)) ds) : F__law_same (i + 1) [.d x, .d x] ds = .ok (.bl true) ds := by
  rw [h, e]
  rfl
theorem eq_int (r : Int) : D.eq (.int r) (.int r) = some (.bl true) := by
  simp [D.eq, D.eqB, D.sca]
theorem eq_str (r : Str) : D.eq (.str r) (.str r) = some (.bl true) := by
  simp [D.eq, D.eqB, D.sca]
theorem same_int (r : Int) (ds : DS) : F__law_same 6 [.d (.int r), .d (.int r)] ds = .ok (.bl true) ds := same_end 5 _ ds (eq_int r) rfl
theorem same_str (r : Str) (ds : DS) : F__law_same 6 [.d (.str r), .d (.str r)] ds = .ok (.bl true) ds := same_end 5 _ ds (eq_str r) rfl
theorem ok_int (r : Int) : OkD (.int r) := ⟨⟨_, rfl⟩, (by intro _ z; cases z), (by intro _ _ _ z; cases z), (by intro _ ks z; cases z; exact ⟨by decide +kernel, by decide +kernel⟩), fun ds => same_int r ds⟩
theorem ok_str (r : Str) : OkD (.str r) := ⟨⟨_, rfl⟩, (by intro _ z; cases z), (by intro _ _ _ z; cases z), (by intro _ ks z; cases z; exact ⟨by decide +kernel, by decide +kernel⟩), fun ds => same_str r ds⟩
theorem ok_non : OkD .non := ⟨⟨_, rfl⟩, (by intro _ z; cases z), (by intro _ _ _ z; cases z), (by intro _ ks z; cases z; exact ⟨by decide +kernel, by decide +kernel⟩), fun ds => rfl⟩
theorem ok_bl (b : Bool) : OkD (.bl b) := ⟨⟨_, rfl⟩, (by intro _ z; cases z), (by intro _ _ _ z; cases z), (by intro _ ks z; cases z; exact ⟨by decide +kernel, by decide +kernel⟩), fun ds => by cases b <;> rfl⟩
theorem nine {P : Int → Prop} (h : ∀ n : Nat, n < 9 → P n) {r : Int} (h0 : 0 ≤ r) (h1 : r < 9) : P r := by
  obtain ⟨n, rfl⟩ : ∃ n : Nat, r = n := ⟨r.toNat, by omega⟩
  exact h n (by omega)
theorem same_tup {r : Int} (h0 : 0 ≤ r) (h1 : r < 9) (ds : DS) : F__law_same 6 [.d (.tup [.int 1, .int r]), .d (.tup [.int 1, .int r])] ds = .ok (.bl true) ds :=
  nine (P := fun r => F__law_same 6 [.d (.tup [.int 1, .int r]), .d (.tup [.int 1, .int r])] ds = .ok (.bl true) ds) (fun n hn => match n, hn with
    | 0, _ => rfl
    | 1, _ => rfl
    | 2, _ => rfl
    | 3, _ => rfl
    | 4, _ => rfl
    | 5, _ => rfl
    | 6, _ => rfl
    | 7, _ => rfl
    | 8, _ => rfl) h0 h1
theorem ok_tup {r : Int} (h0 : 0 ≤ r) (h1 : r < 9) : OkD (.tup [.int 1, .int r]) := ⟨⟨_, rfl⟩, (by intro _ z; cases z), (by intro _ _ _ z; cases z), (by intro _ ks z; cases z; exact ⟨by decide +kernel, by decide +kernel⟩), fun ds => same_tup h0 h1 ds⟩
theorem same_lst {r : Int} (h0 : 0 ≤ r) (h1 : r < 9) (ds : DS) : F__law_same 6 [.d (.lst [.int r, .lst [.int 1]]), .d (.lst [.int r, .lst [.int 1]])] ds = .ok (.bl true) ds :=
  nine (P := fun r => F__law_same 6 [.d (.lst [.int r, .lst [.int 1]]), .d (.lst [.int r, .lst [.int 1]])] ds = .ok (.bl true) ds) (fun n hn => match n, hn with
    | 0, _ => rfl
    | 1, _ => rfl
    | 2, _ => rfl
    | 3, _ => rfl
    | 4, _ => rfl
    | 5, _ => rfl
    | 6, _ => rfl
    | 7, _ => rfl
    | 8, _ => rfl) h0 h1
theorem ok_lst {r : Int} (h0 : 0 ≤ r) (h1 : r < 9) : OkD (.lst [.int r, .lst [.int 1]]) := ⟨⟨_, rfl⟩, (by intro _ z; cases z; simp), (by intro _ _ _ z; cases z), (by intro z; cases z), fun ds => same_lst h0 h1 ds⟩
theorem same_dct {r : Int} (h0 : 0 ≤ r) (h1 : r < 9) (ds : DS) : F__law_same 6 [.d (.dct false [.k (.inr "a")] [.int r]), .d (.dct false [.k (.inr "a")] [.int r])] ds = .ok (.bl true) ds :=
  nine (P := fun r => F__law_same 6 [.d (.dct false [.k (.inr "a")] [.int r]), .d (.dct false [.k (.inr "a")] [.int r])] ds = .ok (.bl true) ds) (fun n hn => match n, hn with
    | 0, _ => rfl
    | 1, _ => rfl
    | 2, _ => rfl
    | 3, _ => rfl
    | 4, _ => rfl
    | 5, _ => rfl
    | 6, _ => rfl
    | 7, _ => rfl
    | 8, _ => rfl) h0 h1
theorem ok_dct {r : Int} (h0 : 0 ≤ r) (h1 : r < 9) : OkD (.dct false [.k (.inr "a")] [.int r]) := ⟨⟨_, rfl⟩, (by intro _ z; cases z), (by intro _ _ _ z; cases z; exact ⟨rfl, by simp, by decide +kernel⟩), (by intro z; cases z), fun ds => same_dct h0 h1 ds⟩
theorem str_some {r : Int} (h0 : 0 ≤ r) (h1 : r < 99) : ∃ z, D.strD (.int r) = some (.str z) ∧ z.length ≤ 100 := by
  have : ∀ n : Nat, n < 99 → ((D.strD (.int n)).bind fun d => match d with
    | .str z => if z.length ≤ 100 then some true else none
    | _ => none) = some true := by decide +kernel
  obtain ⟨n, rfl⟩ : ∃ n : Nat, r = n := ⟨r.toNat, by omega⟩
  have h := this n (by omega)
  cases e : D.strD (.int n) with
  | none => rw [e] at h; cases h
  | some d =>
    rw [e] at h
    cases d <;> try (cases h; done)
    rename_i z
    refine ⟨z, rfl, ?_⟩
    simp only [Option.bind_some] at h
    split at h
    · assumption
    · cases h
theorem object {n : Nat} {ds : DS} (hn : n < 2 ^ 30) (I : PkI n ds) : Run (F__law_object [.st] ds) (fun d ds' => OkD d ∧ PkI (n + 3) ds') (fun _ _ _ _ => False) := by
  have nb : ∀ k : Nat, k < 10 → n + k < 2 ^ 40 := fun k hk => by omega
  refine ri_mk rfl (ri_seq (ri_asg (ri_call (ri_aval (ri_acons (ri_cst (ri_anil ?_)))))))
  refine (pick (m := 7) (nb 0 (by omega)) I (by decide) (by decide)).mono (fun d0 ds0 ⟨r0, e0, a0, b0, I0⟩ => ?_) fun _ _ _ _ z => z
  subst e0
  obtain ⟨k, rfl⟩ : ∃ k : Nat, r0 = k := ⟨r0.toNat, by omega⟩
  have hk : k < 7 := by omega
  have small : ∀ {Q : D → DS → Prop} {env : List Val}, (∀ d ds', (∃ k : Nat, k < 2 ∧ ∃ (r1 : Int) (z : Str), d = .lst [.int r1, .str z]) → PkI (n + 3) ds' → Q d ds') → Run (E.list (E.dcons (E.call F__law_between (E.aval (fun _ => .st) (E.acons (E.un D.neg (E.cst (.int 9))) (E.acons (E.cst (.int 9)) E.anil)))) (E.dcons (E.bin D.add (E.cst (.str "w")) (E.un D.strD (E.call F__law_pick (E.aval (fun _ => .st) (E.acons (E.cst (.int 99)) E.anil))))) E.dnil)) env ds0) Q (fun _ _ _ _ => False) := fun {Q env} hQ => by
    refine ri_list (ri_dcons (ri_call (ri_aval (ri_acons (ri_un (ri_cst ⟨_, rfl, ri_acons (ri_cst (ri_anil ?_))⟩))))))
    refine ri_mk rfl (ri_ret (ri_bin (ri_var rfl (ri_call (ri_aval (ri_acons (ri_bin (ri_bin (ri_bin (ri_var rfl (ri_var rfl ⟨_, rfl, ri_cst ⟨_, rfl, ri_cst ⟨_, rfl, ri_anil ?_⟩⟩⟩)))))))))))
    refine (pick (m := 19) (nb 1 (by omega)) I0 (by decide) (by decide)).mono (fun d1 ds1 ⟨r1, e1, a1, b1, I1⟩ => ?_) fun _ _ _ _ z => z
    subst e1
    refine ⟨_, rfl, ?_⟩
    refine ri_dcons (ri_bin (ri_cst (ri_un (ri_call (ri_aval (ri_acons (ri_cst (ri_anil ?_))))))))
    refine (pick (m := 99) (nb 2 (by omega)) I1 (by decide) (by decide)).mono (fun d2 ds2 ⟨r2, e2, a2, b2, I2⟩ => ?_) fun _ _ _ _ z => z
    subst e2
    obtain ⟨z, hz, hzl⟩ := str_some a2 b2
    have hadd : D.add (.str "w") (.str z) = some (.str (("w" : Str) ++ z)) := if_pos (by rw [sizeLine_eq]; have : ("w" : Str).length = 1 := (by decide +kernel); omega)
    refine ⟨_, hz, _, hadd, ?_⟩
    exact ri_dnil (hQ _ _ ⟨0, by omega, _, _, rfl⟩ I2)
  have mids : ∀ {Q : D → DS → Prop} {env : List Val}, (∀ d ds', (∃ (b : Bool) (r : Int), 0 ≤ r ∧ r < 9 ∧ d = .lst [.non, .bl b, .tup [.int 1, .int r]]) → PkI (n + 3) ds' → Q d ds') → Run (E.list (E.dcons (E.cst .non) (E.dcons (E.bin D.eq (E.call F__law_pick (E.aval (fun _ => .st) (E.acons (E.cst (.int 2)) E.anil))) (E.cst (.int 0))) (E.dcons (E.tuple (E.dcons (E.cst (.int 1)) (E.dcons (E.call F__law_pick (E.aval (fun _ => .st) (E.acons (E.cst (.int 9)) E.anil))) E.dnil))) E.dnil))) env ds0) Q (fun _ _ _ _ => False) := fun {Q env} hQ => by
    refine ri_list (ri_dcons (ri_cst (ri_dcons (ri_bin (ri_call (ri_aval (ri_acons (ri_cst (ri_anil ?_)))))))))
    refine (pick (m := 2) (nb 1 (by omega)) I0 (by decide) (by decide)).mono (fun d3 ds3 ⟨r3, e3, a3, b3, I3⟩ => ?_) fun _ _ _ _ z => z
    subst e3
    refine ri_cst ⟨.bl (decide (r3 = 0)), rfl, ?_⟩
    refine ri_dcons (ri_tuple (ri_dcons (ri_cst (ri_dcons (ri_call (ri_aval (ri_acons (ri_cst (ri_anil ?_)))))))))
    refine (pick (m := 9) (nb 2 (by omega)) I3 (by decide) (by decide)).mono (fun d4 ds4 ⟨r4, e4, a4, b4, I4⟩ => ?_) fun _ _ _ _ z => z
    subst e4
    exact ri_dnil (ri_dnil (hQ _ _ ⟨_, _, a4, b4, rfl⟩ I4))
  match k, hk with
  | 0, _ =>
    refine ri_seq (ri_condT (ri_tst (ri_bin (ri_var rfl (ri_cst ⟨_, rfl, _, rfl, rfl, ri_ret (ri_imm (ri_bin (small fun d ds' ⟨_, _, r1, z, e⟩ J => ?_)))⟩)))))
    subst e
    exact ri_var rfl ⟨_, rfl, rfl, ok_int _, J⟩
  | 1, _ =>
    refine ri_seq (ri_condT (ri_tst (ri_bin (ri_var rfl (ri_cst ⟨_, rfl, _, rfl, rfl, ri_ret (ri_imm (ri_bin (small fun d ds' ⟨_, _, r1, z, e⟩ J => ?_)))⟩)))))
    subst e
    exact ri_var rfl ⟨_, rfl, rfl, ok_str _, J⟩
  | 2, _ =>
    refine ri_seq (ri_condF (ri_tst (ri_bin (ri_var rfl (ri_cst ⟨_, rfl, _, rfl, rfl, ri_skip (ri_seq (ri_condT (ri_tst (ri_bin (ri_var rfl (ri_cst ⟨_, rfl, _, rfl, rfl, ri_ret (ri_imm (ri_bin (mids fun d ds' ⟨b, r, h0, h1, e⟩ J => ?_)))⟩))))))⟩)))))
    subst e
    exact ri_bin (ri_var rfl (ri_cst ⟨_, rfl, _, rfl, rfl, ok_non, J⟩))
  | 3, _ =>
    refine ri_seq (ri_condF (ri_tst (ri_bin (ri_var rfl (ri_cst ⟨_, rfl, _, rfl, rfl, ri_skip (ri_seq (ri_condT (ri_tst (ri_bin (ri_var rfl (ri_cst ⟨_, rfl, _, rfl, rfl, ri_ret (ri_imm (ri_bin (mids fun d ds' ⟨b, r, h0, h1, e⟩ J => ?_)))⟩))))))⟩)))))
    subst e
    exact ri_bin (ri_var rfl (ri_cst ⟨_, rfl, _, rfl, rfl, ok_bl _, J⟩))
  | 4, _ =>
    refine ri_seq (ri_condF (ri_tst (ri_bin (ri_var rfl (ri_cst ⟨_, rfl, _, rfl, rfl, ri_skip (ri_seq (ri_condT (ri_tst (ri_bin (ri_var rfl (ri_cst ⟨_, rfl, _, rfl, rfl, ri_ret (ri_imm (ri_bin (mids fun d ds' ⟨b, r, h0, h1, e⟩ J => ?_)))⟩))))))⟩)))))
    subst e
    exact ri_bin (ri_var rfl (ri_cst ⟨_, rfl, _, rfl, rfl, ok_tup h0 h1, J⟩))
  | 5, _ =>
    refine ri_seq (ri_condF (ri_tst (ri_bin (ri_var rfl (ri_cst ⟨_, rfl, _, rfl, rfl, ri_skip (ri_seq (ri_condF (ri_tst (ri_bin (ri_var rfl (ri_cst ⟨_, rfl, _, rfl, rfl, ri_skip (ri_ret (ri_iteT (ri_tst (ri_bin (ri_var rfl (ri_cst ⟨_, rfl, _, rfl, rfl, ri_list (ri_dcons (ri_call (ri_aval (ri_acons (ri_cst (ri_anil ?_))))))⟩))))))⟩))))))⟩)))))
    refine (pick (m := 9) (nb 1 (by omega)) I0 (by decide) (by decide)).mono (fun d6 ds6 ⟨r6, e6, a6, b6, I7⟩ => ?_) fun _ _ _ _ z => z
    subst e6
    exact ri_dcons (ri_list (ri_dcons (ri_cst (ri_dnil (ri_dnil ⟨ok_lst a6 b6, I7.mono (by omega)⟩)))))
  | 6, _ =>
    refine ri_seq (ri_condF (ri_tst (ri_bin (ri_var rfl (ri_cst ⟨_, rfl, _, rfl, rfl, ri_skip (ri_seq (ri_condF (ri_tst (ri_bin (ri_var rfl (ri_cst ⟨_, rfl, _, rfl, rfl, ri_skip (ri_ret (ri_iteF (ri_tst (ri_bin (ri_var rfl (ri_cst ⟨_, rfl, _, rfl, rfl, ri_bin (ri_cst (ri_call (ri_aval (ri_acons (ri_cst (ri_anil ?_))))))⟩))))))⟩))))))⟩)))))
    refine (pick (m := 9) (nb 1 (by omega)) I0 (by decide) (by decide)).mono (fun d6 ds6 ⟨r6, e6, a6, b6, I7⟩ => ?_) fun _ _ _ _ z => z
    subst e6
    exact ⟨_, rfl, ok_dct a6 b6, I7.mono (by omega)⟩
/-! ### the law's loop -/
theorem nox_run {α : Type} {m : M α} {ds : DS} {Q : α → DS → Prop} {Ex : Str → List Str → List D → DS → Prop} (h : Mir.Run (m ds) Q (fun _ _ _ _ => False)) : Mir.Run (M.nox m ds) Q Ex := by
  obtain ⟨a, ds', e, q⟩ := h.ok
  unfold M.nox
  rw [e]
  exact q
theorem run_eq {α : Type} {r : Res α} {a : α} {ds : DS} {Q : α → DS → Prop} {Ex : Str → List Str → List D → DS → Prop} (h : r = .ok a ds) (q : Q a ds) : Mir.Run r Q Ex := by
  subst h
  exact q
/-- the place that is drawn -/
theorem at_run {n : Nat} {ds : DS} {env : List Val} {k : Int} (hn : n < 2 ^ 30) (I : PkI n ds) (he : env[2]? = some (.d (.int k))) (h0 : 0 ≤ k) (h1 : k < 28) :
    Mir.Run (m_at env ds) (fun r d1 => (∃ i : Int, 0 ≤ i ∧ i < 14 ∧ r = .nx (env.set 3 (.d (.int i)))) ∧ PkI (n + 1) d1) (fun _ _ _ _ => False) := by
  refine ri_asg (ri_ite (ri_tst (ri_bin (ri_var he (ri_cst ⟨.bl (decide (k < 14)), rfl, _, rfl, ?_⟩)))))
  by_cases hk : decide (k < 14) = true
  · rw [if_pos hk]
    refine ri_bin (ri_un (ri_bin (ri_var he (ri_call (ri_aval (ri_acons (ri_cst (ri_anil ?_))))))))
    refine (pick (m := 14) (by omega) I (by decide) (by decide)).mono (fun d1 ds1 ⟨r1, e1, a1, b1, I1⟩ => ?_) fun _ _ _ _ z => z
    subst e1
    refine ⟨_, rfl, _, rfl, ri_cst ⟨_, mod_int (by decide), ⟨_, Int.fmod_nonneg_of_pos _ (by decide), Int.fmod_lt_of_pos _ (by decide), rfl⟩, I1⟩⟩
  · rw [if_neg hk]
    have : ¬ k < 14 := by simpa using hk
    exact ri_bin (ri_var he (ri_cst ⟨_, rfl, ⟨_, by omega, by omega, rfl⟩, I.mono (by omega)⟩))
theorem blk_run {n : Nat} {ds : DS} {env : List Val} {k : Int} (hn : n < 2 ^ 29) (hl : env.length = 11) (I : PkI n ds) (he : env[2]? = some (.d (.int k))) (h0 : 0 ≤ k) (h1 : k < 28) :
    Mir.Run (S_blk env ds) (fun r d1 => (∃ e : List Val, r = .nx e ∧ e.length = 11) ∧ PkI (n + 7) d1) (fun _ _ _ _ => False) := by
  unfold S_blk
  refine Run.bi (nox_run ((at_run (by omega) I he h0 h1).mono (fun r d0 ⟨⟨i, i0, i1, e⟩, I0⟩ => ?_) fun _ _ _ _ z => z))
  subst e
  have e3 : (env.set 3 (.d (.int i)))[3]? = some (Val.d (D.int i)) := List.getElem?_set_self (by omega)
  simp only
  rw [e3]
  simp only
  rw [if_pos ⟨i0, i1⟩]
  refine Run.bi (nox_run (ri_call (ri_aval (ri_anil ?_))))
  refine (object (by omega) I0).mono (fun d1 ds1 ⟨ok1, I1⟩ => ?_) fun _ _ _ _ z => z
  refine Run.bi (nox_run (ri_call (ri_aval (ri_anil ?_))))
  refine (object (by omega) I1).mono (fun d2 ds2 ⟨ok2, I2⟩ => ?_) fun _ _ _ _ z => z
  rw [if_pos ⟨ok1, ok2⟩]
  refine ⟨⟨_, rfl, ?_⟩, I2.mono (by omega)⟩
  unfold clr
  simp only [List.length_set]
  exact hl
def ats (xs : List D) : Prop := ∀ x ∈ xs, ∃ i : Int, x = .int i ∧ 0 ≤ i ∧ i < 28
theorem plain (ns : List Int) : Mir.Run (m_law (envLaw 9) ⟨ns, 0, 0, 29⟩) (fun r _ => r = .rt (.bl true)) (fun _ _ _ _ => False) := by
  unfold m_law
  refine ri_seq (ri_for ?_)
  refine Run.bi (ri_cst (Run.li rfl ?_))
  refine ri_forL (Inv := fun xs env ds => env.length = 11 ∧ ats xs ∧ xs.length ≤ 28 ∧ PkI (7 * (28 - xs.length)) ds) (fun x xs env ds ⟨hl, ha, hx, I⟩ => ?_) (fun env ds ⟨hl, _, _, I⟩ => ?_) _ _ _ ⟨rfl, ?_, by decide, pk_start ns⟩
  · obtain ⟨i, rfl, h0, h1⟩ := ha x (List.mem_cons_self ..)
    refine ⟨_, rfl, ?_⟩
    rw [List.length_cons] at hx I
    refine (blk_run (k := i) (by omega) (by rw [List.length_set]; exact hl) I (List.getElem?_set_self (by omega)) h0 h1).mono (fun r d1 ⟨⟨e, er, el⟩, I3⟩ => ?_) fun _ _ _ _ z => z
    subst er
    exact ⟨el, fun z hz => ha z (List.mem_cons_of_mem _ hz), by omega, I3.mono (by omega)⟩
  · intro x hx
    have hx : x ∈ D.rng 0 28 := hx
    unfold D.rng at hx
    simp only [List.mem_map, List.mem_range] at hx
    obtain ⟨j, hj, rfl⟩ := hx
    exact ⟨_, rfl, by omega, by omega⟩
  · show Mir.Run (S.seq _ _ env ds) _ _
    obtain ⟨v0, v1, v2, v3, v4, v5, v6, v7, v8, v9, v10, rfl⟩ : ∃ v0 v1 v2 v3 v4 v5 v6 v7 v8 v9 v10, env = [v0, v1, v2, v3, v4, v5, v6, v7, v8, v9, v10] := by
      match env, hl with
      | [v0, v1, v2, v3, v4, v5, v6, v7, v8, v9, v10], _ => exact ⟨v0, v1, v2, v3, v4, v5, v6, v7, v8, v9, v10, rfl⟩
    refine ri_seq (ri_cond (ri_tnot (ri_tst (ri_un (Run.bi (Run.bi (ri_call (ri_acons (ri_call (ri_aval (ri_acons (ri_cst (ri_anil ?_)))))))))))))
    refine (pick (m := 9) (by simp) I (by decide) (by decide)).mono (fun d1 ds1 ⟨r, e, _, _, I1⟩ => ?_) fun _ _ _ _ z => z
    subst e
    have last : Mir.Run (S.ret (E.bin D.eq (E.call F_caught (E.acons (E.call F__law_object (E.aval (fun _ => .st) E.anil)) E.anil)) (E.tuple (E.dcons (E.list (E.dcons (E.cst (.int 5)) E.dnil)) (E.dcons (E.list E.dnil) (E.dcons (E.cst (.bl false)) (E.dcons (E.cst (.bl true)) E.dnil)))))) [v0, v1, v2, v3, v4, v5, v6, v7, v8, v9, v10] ds1) (fun r _ => r = .rt (.bl true)) (fun _ _ _ _ => False) := by
      refine ri_ret (ri_bin (ri_call (ri_acons (ri_call (ri_aval (ri_anil ?_))))))
      refine (object (by simp) I1).mono (fun d2 ds2 ⟨_, _⟩ => ?_) fun _ _ _ _ z => z
      refine ri_anil ?_
      exact (⟨.bl true, rfl, rfl⟩ : ∃ z, D.eq (.tup [.lst [.int 5], .lst [], .bl false, .bl true]) (.tup [.lst [.int 5], .lst [], .bl false, .bl true]) = some z ∧ Fl.rt z = Fl.rt (.bl true))
    refine ri_anil (run_eq rfl (Run.li rfl (Run.bi (run_eq rfl ?_))))
    refine run_eq rfl ⟨.bl true, rfl, true, rfl, ?_⟩
    exact last
end
end Law_k95
end

set_option maxHeartbeats 4000000
section
namespace Law_k95
open PySem PySem.Spec PyProof.Rows L2 Mir
theorem facts {P : Program} {w : World} {K : PySem.W.Frag} {h : Heap} {mg : Str → Option Value} {f : Addr} (X : K.In h) (G : h.Ns mainGlobals mg) (hfa : mg ("law" : Str) = some (.ref f)) (Fc : Fcts 9 ps K) :
    ∃ fd : FuncData, (∀ (s : Shared) (v : Value), BindsTo s fd ⟨[v], []⟩ [("script", v)]) ∧ ∀ base : Heap, K.In base → base.Ns mainGlobals mg → FnOk P w K mg base (L2.CX P w) 21 f fd ["script"] (spLaw K (ScL 63)) := by
  have T := fun base => en (P := P) (w := w) (base := base) X G Fc
  obtain ⟨fd, F, hg⟩ := (T h).d_law
  cases hfa.symm.trans hg
  exact ⟨fd, (ok_law (T h) F (ScL 63) fun ns _ => plain ns).1, fun base _ _ => (ok_law (T base) F (ScL 63) fun ns _ => plain ns).2⟩
end Law_k95
open PySem PySem.W PySem.Calls PyProof.Rows
theorem PySem.Challenge.cw_receiptsay_k95_errors_of_what_is_asked_holds : PySem.Challenge.rw_receiptsay_k95_errors_of_what_is_asked.Holds := by
  w_on; o_law
  refine HandSHeadRun.head_any (r := Law_k95.R) (q := view Law_k95.R.prog [72]) (H := Law_k95.hk) (ob := Law_k95.ob) (M := 20000) (loose := Law_k95.nms) (d := HandSHeadRun.topDef Law_k95.R.prog 72) (kwd := []) Law_k95.ob_eq
    (by kernel_rfl) (fun s => by kernel_rfl) Law_k95.run (by kernel_rfl) (by kernel_rfl) (by kernel_rfl) (by rfl) (by first | assumption | decide +kernel) (by decide +kernel) ⟨rfl, rfl, rfl, rfl, rfl, by decide +kernel⟩ ?hw ?hc
  case hw => w_witness2
  case hc =>
    refine Mir.law_end (l := PySem.Challenge.rw_receiptsay_k95_errors_of_what_is_asked) (n := 63) (k := 21) (x := "script") rfl (by decide) (by kernel_rfl) ⟨rfl, by decide, by decide⟩ fun w mg fa h Y G hmg0 => ?_
    obtain ⟨K, KX, c⟩ := Y
    have hmg : mg ("law" : PySem.Str) = some (.ref fa) := by
      rw [← hmg0]
      congr 1
    obtain ⟨fd, hb, hF⟩ := Law_k95.facts (P := (PySem.Challenge.rw_receiptsay_k95_errors_of_what_is_asked).prog) (w := w) KX G hmg c
    exact ⟨K, fd, KX, hb, hF⟩
end
