import PyProof.Rows.All
import Wide.All
import OpenK.AllK
import Wide.FinOn
import HandS.ForMost
import HandS.Defaults
import HandS.IsInst
import HandS.Walk
import HandS.Codes
import HandS.DictComp
import HandS.MakeKwOnly
import HandS.Property
import HandS.Replace
import HandS.TupSets
import HandS.HeadEnd
import HandS.HeadHook1
import HandS.HeadHook2
import HandS.HeadHook4
import HandS.Head0
import HandS.Head1
import HandS.Head2
import KE.KOpsOwn
import PySem.Challenge.RW_rowgames_k30_equations_read_off
import HandS.ClsMeth
import HandS.Star
import HandS.HeadNt
import KE.KSuper
import PyProof.EqAt
import PyProof.EqKinds
import PyProof.TupleCall
import PyProof.Draws
import PyProof.EnumMake
import PyProof.EnumFor
import PyProof.ReprRoads
import PyProof.StrLaws
import PyProof.CallFns
import PyProof.Rows.SetFrom
import PyProof.ListStr
import PyProof.Rows.StrLawsPart
import HandS.Zip
import KE.GoesZip
import KE.GoesMore
import KE.GoesEnum
import KE.KItemsList
import HandS.SlotsOwn
import HandS.Flow
import OpenK.KMeth
import OpenK.KOps
import KE.KFmtOwn
import HandS.Deep
import KE.KDictKeyed
import KE.KeyNested
import HandS.ForExc
import HandS.ExcInit
import HandS.ExcIs
import HandS.ExcField
import HandS.TryMany
import HandS.Lambda
import HandS.Text
import HandS.Conv
import HandS.ExcValue
import KE.KExcIs
import HandS.Style
import HandS.EndTab
import HandS.NestedK
import HandS.List
import HandS.GenList
import PyProof.ForAny
import PyProof.ListMulRight
import HandS.NoneIn
import HandS.FStr
import HandS.WordsDict
import HandS.RaiseMore
import HandS.ExcCtx
import HandS.HotCalls
import HandS.SuiteRaise
import HandS.RaiseFrom
import HandS.ExcInitHot
import KE.KCallOwn
import PyProof.SumAnyB
import PyProof.WalksMore
import HandS.TupAny
import HandS.Wide
import HandS.Set
import HandS.SetFor
import KE.KDictList
import HandS.DictEq
import HandS.OwnEq
import HandS.More
import KE.KStateDown
import KE.KSortTup
set_option Elab.async false
set_option linter.all false
set_option maxRecDepth 100000
set_option maxHeartbeats 4000000
set_option pp.maxSteps 1500
set_option pp.deepTerms false
set_option pp.deepTerms.threshold 8
set_option Elab.async false
set_option linter.all false
set_option maxRecDepth 100000
set_option maxHeartbeats 4000000
namespace Rg
open PySem PySem.Spec PyProof.Rows L2
def qnObj (P : Addr) (o : Obj) : Option Str := match o.data with
  | .fields vs => match vs.toList, vs.getD 11 .none with
    | _ :: .str n _ :: _, .ref a => if a = P then some n else none
    | _, _ => none
  | _ => none
def qnK (K : PySem.W.Frag) (P : Addr) : Str := (K.findSome? fun p => qnObj P p.2).getD ""
abbrev ExT := List (Str × List Str)
def exmB (K : PySem.W.Frag) (T : ExT) : Bool := T.all fun p => T.all fun q => decide (PySem.W.exmOne K (.ref (He.ga K p.1)) (.ref (He.ga K q.1)) = some (decide (q.1 ∈ p.2)))
def oexB (K : PySem.W.Frag) (C : Addr) : Bool := (match K.lookup C with
  | some ⟨.type "type", _, .cls cd, sl⟩ => (match cd.mro, sl.toList with
    | .ref C' :: bm, [_, _, _, _, some (.builtin n), _] => decide (C' = C) && (decide (n = "ValueError.__new__") && (cd.hasDict && (!cd.hasDel && PySem.HandSPX.refsVE bm)))
    | _, _ => false)
  | _ => false) && (He.eqO (PySem.W.findIn K (.ref C) "__setattr__") (some (some (.builtin "object.__setattr__"))) && (decide (PySem.W.subIn K (.ref C) (.type "BaseException") = some true) &&
  (decide (PySem.W.typeIn K (.ref C) = some (.type "type")) && PySem.W.keepIn K (.ref C))))
def excCB (K : PySem.W.Frag) (D : Addr) : Bool := He.eqO (PySem.W.findIn K (.ref D) "__getattribute__") (some (some (.builtin "BaseException.__getattribute__"))) && (He.eqO (PySem.W.findIn K (.ref D) "__getattr__") (some none) &&
  (decide (PySem.W.subIn K (.ref D) (.type "BaseException") = some true) && (PySem.W.hasDictIn K D && (He.eqO (PySem.W.findIn K (.ref D) "__class__") (some (some (.builtin "object.__class__"))) &&
  (He.eqO (PySem.W.specialIn K (.builtin "object.__class__") "__get__") (some (some (.builtin "getset_descriptor.__get__"))) && (decide (PySem.W.takesIn K (.builtin "object.__class__") = some true) && decide (PySem.W.mroIn K D (.type "object") = some true)))))))
def excsB (K : PySem.W.Frag) (T : ExT) : Bool := T.all fun p => excCB K (He.ga K p.1)
def tyNames : List String := ["NoneType", "str", "tuple", "list", "int", "bool", "dict"]
def kitXB (K : PySem.W.Frag) (T : ExT) : Bool := (T.all fun p => T.all fun q => decide (PySem.W.kitOne K (.ref (He.ga K p.1)) (.ref (He.ga K q.1)) = some (decide (q.1 ∈ p.2)))) && (tyNames.all fun n => T.all fun q => decide (PySem.W.kitOne K (.type n) (.ref (He.ga K q.1)) = some false))
def fldXB (K : PySem.W.Frag) (f : Str) (Cs : List Str) : Bool := Cs.all fun C => excCB K (He.ga K C) && He.eqO (PySem.W.findIn K (.ref (He.ga K C)) f) (some none)
def cmB (K : PySem.W.Frag) (C : Addr) (m : Str) : Bool := PySem.W.readsIn K C (.type "type") && (He5.wrapB K C "classmethod" "classmethod.__get__" m && PySem.W.fnIn K (He5.wf K C "classmethod" m))
def sysB (K : PySem.W.Frag) : Bool := match K.lookup sysModules with
  | some ⟨.type c, _, .dict _ _, _⟩ => decide (c = "dict")
  | _ => false
end Rg
namespace He
open PySem PySem.Spec PyProof.Rows L2
abbrev AlY : Type := AlX × (Bool × List He5.FnW)
def valY (fn : List DefD) (ts : List Tab) (cs : List He5.DefA) (w : World) : AlY := (valX fn ts w, (true, cs.map He5.DefA.val))
def SaysC (cs : List He5.DefA) (K : PySem.W.Frag) : Prop := (cs.all fun d => d.ok K) = true ∧ (cs.map fun d => He5.fnA K (d.at_ K)) = cs.map He5.DefA.val
theorem SaysC.def_ {cs : List He5.DefA} {K : PySem.W.Frag} (c : SaysC cs K) (i : Nat) {d : He5.DefA} (h : cs[i]? = some d := by rfl) : ∃ fd, L2.FunD K d.name d.qual d.params d.body d.scope (d.dvs K) (d.kws K) (d.at_ K) fd := by
  have e2 : (cs.map fun d => He5.fnA K (d.at_ K))[i]? = (cs.map He5.DefA.val)[i]? := by rw [c.2]
  rw [List.getElem?_map, List.getElem?_map, h] at e2
  exact He5.DefA.funD (Option.some.inj e2) (List.all_eq_true.mp c.1 d (List.mem_of_getElem? h))
theorem saysX_of' {as : List Addr} {fa : List Fa} {fn : List DefD} {ts : List Tab} {tf : List Defn} {ex : PySem.W.Frag → Bool} {w : World} {h : Heap} (e1 : obsT fa fn ts (frT h.get? as) = valT fn ts w) (e2 : (ex (frT h.get? as) && tabsB h.get? tf (frT h.get? as)) = true) : SaysX fa fn ts tf ex w h (frT h.get? as) := by
  obtain ⟨h1, h2⟩ := ba e2
  have key : ∀ p ∈ tf, PySem.W.codeHdIn (frT h.get? as) (cT (frT h.get? as) p).1 (cT (frT h.get? as) p).2 = true ∧ ∃ o, h.get? (cT (frT h.get? as) p).2 = some o ∧ emptyTab o = true := fun p hp => by
    obtain ⟨h3, h4⟩ := ba (List.all_eq_true.mp h2 p hp)
    refine ⟨h3, ?_⟩
    cases q : h.get? (cT (frT h.get? as) p).2 with
    | none =>
      rw [q] at h4
      cases h4
    | some o =>
      rw [q] at h4
      exact ⟨o, rfl, h4⟩
  exact ⟨e1, h1, fun p hp => (key p hp).1, fun p hp => by
    obtain ⟨_, o, q, z⟩ := key p hp
    exact frT_none q z, fun p hp => by
    obtain ⟨_, o, q, z⟩ := key p hp
    rw [q, emptyTab_eq z]⟩
end He
namespace PySem.W
open PySem PySem.Calls PyProof.Rows
end PySem.W

set_option Elab.async false
set_option linter.all false
set_option maxRecDepth 100000
set_option maxHeartbeats 4000000
namespace Rg
open PySem PySem.Spec PyProof.Rows L2
def supFile : Str := "/claim/cut.py"
/-- the def at f closes over the class at D, its code's file is the law's -/
def supB (K : PySem.W.Frag) (f D : Addr) : Bool := match K.lookup f with
  | some ⟨_, _, .func fd, _⟩ => (match fd.closure with
    | [(n, cc)] => decide (n = "__class__") && (match K.lookup cc with
      | some ⟨_, _, .cell (some (.ref d)), _⟩ => decide (d = D)
      | _ => false)
    | _ => false) && (match fd.code with
    | .ref cda => (match K.lookup cda with
      | some ⟨_, _, .fields vs, _⟩ => (match (vs[2]? : Option Value) with
        | some (Value.str file _) => decide (file = supFile)
        | _ => false)
      | _ => false)
    | _ => false)
  | _ => false
/-- for an object of the class at C, super().__init__ within a method of the class at D is the def at g -/
def supC (K : PySem.W.Frag) (C D g : Addr) : Bool := decide (PySem.W.mroIn K C (.ref D) = some true) && (He.eqO (PySem.W.ks_superIn K C D "__init__") (some (some (.ref g))) && (decide (PySem.W.typeIn K (.ref g) = some (.type "function")) &&
  (PySem.W.fnIn K g && ((PySem.W.clsIn K D).isSome && He.eqO (PySem.W.nsIn K cStatics "thirdparty.any") (some none)))))
end Rg
namespace He
open PySem PySem.Spec PyProof.Rows L2
/-- a def, whatever it closes over -/
def fnS (K : PySem.W.Frag) (a : Addr) : He5.FnW := match K.lookup a with
  | some ⟨_, _, .func fd, _⟩ => some (fd.name, fd.qualname, fd.params, fd.body, fd.scope, fd.globals, [], fd.builtins)
  | _ => none
def SaysS (ss : List He5.DefA) (K : PySem.W.Frag) : Prop := (ss.all fun d => d.ok K) = true ∧ (ss.map fun d => fnS K (d.at_ K)) = ss.map He5.DefA.val
abbrev AlZ : Type := AlY × (Bool × List He5.FnW)
def valZ (fn : List DefD) (ts : List Tab) (cs ss : List He5.DefA) (w : World) : AlZ := (valY fn ts cs w, (true, ss.map He5.DefA.val))
end He

set_option Elab.async false
set_option linter.all false
set_option maxRecDepth 100000
set_option maxHeartbeats 4000000
namespace He
open PySem PySem.Spec PyProof.Rows L2
def seenW (m a : Nat) : Bool := Nat.beq (Nat.land (Nat.shiftRight m a) 1) 1
/-- the address is taken apart, so that no free variable stands in the mark: the kernel reckons with closed numbers alone -/
def addW : List Addr → List Addr × Nat → List Addr × Nat
  | [], p => p
  | b :: r, (l, m) => match b with
    | 0 => addW r (l, m)
    | k + 1 => bif seenW m (k + 1) then addW r (l, m) else addW r ((k + 1 : Nat) :: l, Nat.lor m (Nat.shiftLeft 1 (k + 1)))
/-- what an object names; c: the codes' own fields are left out -/
def refsW (c : Bool) (o : Obj) : List Addr := match o.data with
  | .fields vs => bif c && Nat.ble 12 vs.size then [] else refsD o
  | _ => refsD o
def frontW (c : Bool) (g : Addr → Option Obj) : List Addr → List Addr × Nat → List Addr × Nat
  | [], p => p
  | a :: r, p => frontW c g r (addW (match g a with
    | some o => refsW c o
    | none => []) p)
/-- levels: what is new at the last one, what was met, all of it -/
def levW (c : Bool) (g : Addr → Option Obj) : Nat → List Addr × Nat → List Addr → List Addr
  | 0, _, acc => acc
  | n + 1, (fr, m), acc => match frontW c g fr ([], m) with
    | (l, m2) => levW c g n (l, m2) (acc ++ l)
def asW (c : Bool) (g : Addr → Option Obj) (n : Nat) : List Addr := cStatics :: sysModules :: levW c g n ([mainGlobals], Nat.shiftLeft 1 mainGlobals) [mainGlobals]
def obsKW (fa : List Fa) (fn : List DefD) (ts : List Tab) (tf : List Defn) (ex : PySem.W.Frag → Bool) (cs ss : List He5.DefA) (g : Addr → Option Obj) (K : PySem.W.Frag) : AlZ :=
  (((obsT fa fn ts K, ex K && tabsB g tf K), (cs.all fun d => d.ok K, cs.map fun d => He5.fnA K (d.at_ K))), (ss.all fun d => d.ok K, ss.map fun d => fnS K (d.at_ K)))
theorem obsKW_of {fa : List Fa} {fn : List DefD} {tf : List Defn} {ex : PySem.W.Frag → Bool} {cs ss : List He5.DefA} {g : Addr → Option Obj} {K : PySem.W.Frag} {w : World} (h1 : (fa.all fun f => f.ok K) = true) (h2 : (fn.all fun d => d.ok K) = true) (h3 : (fn.map fun d => fnW K d.at_) = fn.map DefD.val)
    (h4 : ex K = true) (h5 : tabsB g tf K = true) (c1 : (cs.all fun d => d.ok K) = true) (c2 : (cs.map fun d => He5.fnA K (d.at_ K)) = cs.map He5.DefA.val) (s1 : (ss.all fun d => d.ok K) = true) (s2 : (ss.map fun d => fnS K (d.at_ K)) = ss.map He5.DefA.val) :
    obsKW fa fn [] tf ex cs ss g K = valZ fn [] cs ss w := by
  unfold obsKW valZ valY valX obsT valT obsD valD
  rw [h1, h2, h3, h4, h5, c1, c2, s1, s2]
  rfl
theorem all_app {α : Type} {a b : List α} {f : α → Bool} (h : a.all f = true) (h' : b.all f = true) : (a ++ b).all f = true := by rw [List.all_append, h, h']; rfl
theorem map_app {α β : Type} {a b : List α} {f g : α → β} (h : a.map f = a.map g) (h' : b.map f = b.map g) : (a ++ b).map f = (a ++ b).map g := by rw [List.map_append, List.map_append, h, h']
theorem and_tt {a b : Bool} (h : a = true) (h' : b = true) : (a && b) = true := by rw [h, h']; rfl
def obsW (n : Nat) (fa : List Fa) (fn : List DefD) (ts : List Tab) (tf : List Defn) (ex : PySem.W.Frag → Bool) (cs ss : List He5.DefA) (g : Addr → Option Obj) : AlZ :=
  obsKW fa fn ts tf ex cs ss g (frT g (asW tf.isEmpty g n))
def hookW (n : Nat) (fa : List Fa) (fn : List DefD) (ts : List Tab) (tf : List Defn) (ex : PySem.W.Frag → Bool) (cs ss : List He5.DefA) : PySem.W.Hook where
  α := AlZ
  obs := fun s => obsW n fa fn ts tf ex cs ss s.heap.get?
  val := fun w => valZ fn ts cs ss w
  says := fun w h => ∃ K : PySem.W.Frag, K.In h ∧ SaysX fa fn ts tf ex w h K ∧ SaysC cs K ∧ SaysS ss K
  of := fun _ _ e => ⟨_, frT_in, saysX_of' (congrArg (fun z : AlZ => z.1.1.1) e) (congrArg (fun z : AlZ => z.1.1.2) e), ⟨congrArg (fun z : AlZ => z.1.2.1) e, congrArg (fun z : AlZ => z.1.2.2) e⟩, congrArg (fun z : AlZ => z.2.1) e, congrArg (fun z : AlZ => z.2.2) e⟩
  keeps := fun _ _ _ ⟨K, hK, c, cc, cs⟩ k => ⟨K, PySem.W.Frag.In.keeps hK k, ⟨c.t, c.more, c.hd, c.out, fun p hp => k _ _ (c.empty p hp)⟩, cc, cs⟩
theorem obsW_eq {n : Nat} {fa : List Fa} {fn : List DefD} {ts : List Tab} {tf : List Defn} {ex : PySem.W.Frag → Bool} {cs ss : List He5.DefA} {g : Addr → Option Obj} {s : Shared} (h : ∀ a, g a = s.heap.get? a) : obsW n fa fn ts tf ex cs ss g = (hookW n fa fn ts tf ex cs ss).obs s := by
  have e : g = s.heap.get? := funext h
  rw [e] <;> rfl
end He

set_option Elab.async false
set_option linter.all false
set_option maxRecDepth 100000
set_option maxHeartbeats 4000000
namespace Rg
open PySem PySem.W PySem.Calls PyProof.Rows HandSHeadRun
section
variable {α : Type}
def fc0 {β : Type} (x : β) (k : β → α) : α := k x
theorem fc0_eq {β : Type} (x : β) (k : β → α) : fc0 x k = k x := rfl
def fcB (b : Bool) (k : Bool → α) : α := match b with
  | true => k true
  | false => k false
theorem fcB_eq (b : Bool) (k : Bool → α) : fcB b k = k b := by cases b <;> rfl
def fcI (i : Int) (k : Int → α) : α := match i with
  | .ofNat n => frNat n fun n => k (.ofNat n)
  | .negSucc n => frNat n fun n => k (.negSucc n)
theorem fcI_eq (i : Int) (k : Int → α) : fcI i k = k i := by
  cases i with
  | ofNat n => exact frNat_eq n (fun n => k (.ofNat n))
  | negSucc n => exact frNat_eq n (fun n => k (.negSucc n))
def fcO {β : Type} (f : β → (β → α) → α) (o : Option β) (k : Option β → α) : α := match o with
  | none => k none
  | some x => f x fun x => k (some x)
theorem fcO_eq {β : Type} {f : β → (β → α) → α} (hf : ∀ x k, f x k = k x) (o : Option β) (k : Option β → α) : fcO f o k = k o := by
  cases o with
  | none => rfl
  | some x => exact hf x _
def fcL {β : Type} (f : β → (β → α) → α) : List β → (List β → α) → α
  | [], k => k []
  | x :: r, k => f x fun x => fcL f r fun r => k (x :: r)
theorem fcL_eq {β : Type} {f : β → (β → α) → α} (hf : ∀ x k, f x k = k x) : ∀ (l : List β) (k : List β → α), fcL f l k = k l
  | [], _ => rfl
  | x :: r, k => by
    show f x (fun x => fcL f r fun r => k (x :: r)) = _
    rw [hf, fcL_eq hf r]
def fcA {β : Type} (f : β → (β → α) → α) (a : Array β) (k : Array β → α) : α := match a with
  | ⟨l⟩ => fcL f l fun l => k ⟨l⟩
theorem fcA_eq {β : Type} {f : β → (β → α) → α} (hf : ∀ x k, f x k = k x) (a : Array β) (k : Array β → α) : fcA f a k = k a := by
  obtain ⟨l⟩ := a
  exact fcL_eq hf l _
def fcP {β γ : Type} (f : β → (β → α) → α) (g : γ → (γ → α) → α) (p : β × γ) (k : β × γ → α) : α := match p with
  | (a, b) => f a fun a => g b fun b => k (a, b)
theorem fcP_eq {β γ : Type} {f : β → (β → α) → α} {g : γ → (γ → α) → α} (hf : ∀ x k, f x k = k x) (hg : ∀ x k, g x k = k x) (p : β × γ) (k : β × γ → α) : fcP f g p k = k p := by
  obtain ⟨a, b⟩ := p
  show f a (fun a => g b fun b => k (a, b)) = _
  rw [hf, hg]

def fcV (x : Value) (k : Value → α) : α := match x with
  | Value.none => k Value.none
  | Value.ellipsis => k Value.ellipsis
  | Value.notImplemented => k Value.notImplemented
  | Value.bool x0 => fc0 x0 fun x0 => k (Value.bool x0)
  | Value.int x0 x1 => fc0 x0 fun x0 => frNat x1 fun x1 => k (Value.int x0 x1)
  | Value.float x0 x1 => fc0 x0 fun x0 => frNat x1 fun x1 => k (Value.float x0 x1)
  | Value.str x0 x1 => fc0 x0 fun x0 => frNat x1 fun x1 => k (Value.str x0 x1)
  | Value.bytes x0 x1 => fc0 x0 fun x0 => frNat x1 fun x1 => k (Value.bytes x0 x1)
  | Value.type x0 => fc0 x0 fun x0 => k (Value.type x0)
  | Value.builtin x0 => fc0 x0 fun x0 => k (Value.builtin x0)
  | Value.ref x0 => frNat x0 fun x0 => k (Value.ref x0)
theorem fcV_eq (x : Value) (k : Value → α) : fcV x k = k x := by
  cases x with
  | none =>
    rfl
  | ellipsis =>
    rfl
  | notImplemented =>
    rfl
  | bool x0 =>
    show (fc0 x0 fun x0 => k (Value.bool x0)) = _
    rfl
  | int x0 x1 =>
    show (fc0 x0 fun x0 => frNat x1 fun x1 => k (Value.int x0 x1)) = _
    simp only [frNat_eq, fc0_eq]
  | float x0 x1 =>
    show (fc0 x0 fun x0 => frNat x1 fun x1 => k (Value.float x0 x1)) = _
    simp only [frNat_eq, fc0_eq]
  | str x0 x1 =>
    show (fc0 x0 fun x0 => frNat x1 fun x1 => k (Value.str x0 x1)) = _
    simp only [frNat_eq, fc0_eq]
  | bytes x0 x1 =>
    show (fc0 x0 fun x0 => frNat x1 fun x1 => k (Value.bytes x0 x1)) = _
    simp only [frNat_eq, fc0_eq]
  | type x0 =>
    show (fc0 x0 fun x0 => k (Value.type x0)) = _
    rfl
  | builtin x0 =>
    show (fc0 x0 fun x0 => k (Value.builtin x0)) = _
    rfl
  | ref x0 =>
    show (frNat x0 fun x0 => k (Value.ref x0)) = _
    simp only [frNat_eq, fc0_eq]
def fcE (x : DictEntry) (k : DictEntry → α) : α := match x with
  | DictEntry.mk x0 x1 x2 => fc0 x0 fun x0 => fcV x1 fun x1 => fcV x2 fun x2 => k (DictEntry.mk x0 x1 x2)
theorem fcE_eq (x : DictEntry) (k : DictEntry → α) : fcE x k = k x := by
  cases x with
  | mk x0 x1 x2 =>
    show (fc0 x0 fun x0 => fcV x1 fun x1 => fcV x2 fun x2 => k (DictEntry.mk x0 x1 x2)) = _
    simp only [fcV_eq, fc0_eq]
def fcCd (x : ClassData) (k : ClassData → α) : α := match x with
  | ClassData.mk x0 x1 x2 x3 x4 x5 x6 x7 x8 x9 x10 => fc0 x0 fun x0 => (fcL fcV) x1 fun x1 => (fcL fcV) x2 fun x2 => frNat x3 fun x3 => fc0 x4 fun x4 => fcB x5 fun x5 => (fcL fc0) x6 fun x6 => (fcL fcV) x7 fun x7 => fcB x8 fun x8 => (fcO fcB) x9 fun x9 => fcB x10 fun x10 => k (ClassData.mk x0 x1 x2 x3 x4 x5 x6 x7 x8 x9 x10)
theorem fcCd_eq (x : ClassData) (k : ClassData → α) : fcCd x k = k x := by
  cases x with
  | mk x0 x1 x2 x3 x4 x5 x6 x7 x8 x9 x10 =>
    show (fc0 x0 fun x0 => (fcL fcV) x1 fun x1 => (fcL fcV) x2 fun x2 => frNat x3 fun x3 => fc0 x4 fun x4 => fcB x5 fun x5 => (fcL fc0) x6 fun x6 => (fcL fcV) x7 fun x7 => fcB x8 fun x8 => (fcO fcB) x9 fun x9 => fcB x10 fun x10 => k (ClassData.mk x0 x1 x2 x3 x4 x5 x6 x7 x8 x9 x10)) = _
    simp only [(fcL_eq fcV_eq), frNat_eq, fcB_eq, (fcL_eq fc0_eq), (fcO_eq fcB_eq), fc0_eq]
def fcBd (x : FuncBody) (k : FuncBody → α) : α := match x with
  | FuncBody.stmts x0 => fc0 x0 fun x0 => k (FuncBody.stmts x0)
  | FuncBody.expr x0 => fc0 x0 fun x0 => k (FuncBody.expr x0)
theorem fcBd_eq (x : FuncBody) (k : FuncBody → α) : fcBd x k = k x := by
  cases x with
  | stmts x0 =>
    show (fc0 x0 fun x0 => k (FuncBody.stmts x0)) = _
    rfl
  | expr x0 =>
    show (fc0 x0 fun x0 => k (FuncBody.expr x0)) = _
    rfl
def fcFd (x : FuncData) (k : FuncData → α) : α := match x with
  | FuncData.mk x0 x1 x2 x3 x4 x5 x6 x7 x8 x9 x10 x11 x12 x13 x14 => fc0 x0 fun x0 => fc0 x1 fun x1 => fc0 x2 fun x2 => fcBd x3 fun x3 => fc0 x4 fun x4 => frNat x5 fun x5 => (fcL (fcP fc0 frNat)) x6 fun x6 => fcV x7 fun x7 => fcV x8 fun x8 => fcV x9 fun x9 => fcV x10 fun x10 => (fcO frNat) x11 fun x11 => fcV x12 fun x12 => fcV x13 fun x13 => frNat x14 fun x14 => k (FuncData.mk x0 x1 x2 x3 x4 x5 x6 x7 x8 x9 x10 x11 x12 x13 x14)
theorem fcFd_eq (x : FuncData) (k : FuncData → α) : fcFd x k = k x := by
  cases x with
  | mk x0 x1 x2 x3 x4 x5 x6 x7 x8 x9 x10 x11 x12 x13 x14 =>
    show (fc0 x0 fun x0 => fc0 x1 fun x1 => fc0 x2 fun x2 => fcBd x3 fun x3 => fc0 x4 fun x4 => frNat x5 fun x5 => (fcL (fcP fc0 frNat)) x6 fun x6 => fcV x7 fun x7 => fcV x8 fun x8 => fcV x9 fun x9 => fcV x10 fun x10 => (fcO frNat) x11 fun x11 => fcV x12 fun x12 => fcV x13 fun x13 => frNat x14 fun x14 => k (FuncData.mk x0 x1 x2 x3 x4 x5 x6 x7 x8 x9 x10 x11 x12 x13 x14)) = _
    simp only [fcBd_eq, frNat_eq, (fcL_eq (fcP_eq fc0_eq frNat_eq)), fcV_eq, (fcO_eq frNat_eq), fc0_eq]
def fcD (x : Data) (k : Data → α) : α := match x with
  | Data.plain => k Data.plain
  | Data.prim x0 => fcV x0 fun x0 => k (Data.prim x0)
  | Data.seq x0 x1 => (fcA fcV) x0 fun x0 => frNat x1 fun x1 => k (Data.seq x0 x1)
  | Data.dict x0 x1 => (fcA fcE) x0 fun x0 => frNat x1 fun x1 => k (Data.dict x0 x1)
  | Data.set x0 x1 x2 => (fcA (fcP fc0 fcV)) x0 fun x0 => frNat x1 fun x1 => fc0 x2 fun x2 => k (Data.set x0 x1 x2)
  | Data.bytearray x0 x1 => fc0 x0 fun x0 => frNat x1 fun x1 => k (Data.bytearray x0 x1)
  | Data.cell x0 => (fcO fcV) x0 fun x0 => k (Data.cell x0)
  | Data.func x0 => fcFd x0 fun x0 => k (Data.func x0)
  | Data.cls x0 => fcCd x0 fun x0 => k (Data.cls x0)
  | Data.fields x0 => (fcA fcV) x0 fun x0 => k (Data.fields x0)
  | Data.freed => k Data.freed
theorem fcD_eq (x : Data) (k : Data → α) : fcD x k = k x := by
  cases x with
  | plain =>
    rfl
  | prim x0 =>
    show (fcV x0 fun x0 => k (Data.prim x0)) = _
    simp only [fcV_eq, fc0_eq]
  | seq x0 x1 =>
    show ((fcA fcV) x0 fun x0 => frNat x1 fun x1 => k (Data.seq x0 x1)) = _
    simp only [(fcA_eq fcV_eq), frNat_eq, fc0_eq]
  | dict x0 x1 =>
    show ((fcA fcE) x0 fun x0 => frNat x1 fun x1 => k (Data.dict x0 x1)) = _
    simp only [(fcA_eq fcE_eq), frNat_eq, fc0_eq]
  | set x0 x1 x2 =>
    show ((fcA (fcP fc0 fcV)) x0 fun x0 => frNat x1 fun x1 => fc0 x2 fun x2 => k (Data.set x0 x1 x2)) = _
    simp only [(fcA_eq (fcP_eq fc0_eq fcV_eq)), frNat_eq, fc0_eq]
  | bytearray x0 x1 =>
    show (fc0 x0 fun x0 => frNat x1 fun x1 => k (Data.bytearray x0 x1)) = _
    simp only [frNat_eq, fc0_eq]
  | cell x0 =>
    show ((fcO fcV) x0 fun x0 => k (Data.cell x0)) = _
    simp only [(fcO_eq fcV_eq), fc0_eq]
  | func x0 =>
    show (fcFd x0 fun x0 => k (Data.func x0)) = _
    simp only [fcFd_eq, fc0_eq]
  | cls x0 =>
    show (fcCd x0 fun x0 => k (Data.cls x0)) = _
    simp only [fcCd_eq, fc0_eq]
  | fields x0 =>
    show ((fcA fcV) x0 fun x0 => k (Data.fields x0)) = _
    simp only [(fcA_eq fcV_eq), fc0_eq]
  | freed =>
    rfl
def fcOb (x : Obj) (k : Obj → α) : α := match x with
  | Obj.mk x0 x1 x2 x3 => fcV x0 fun x0 => (fcO frNat) x1 fun x1 => fcD x2 fun x2 => (fcA (fcO fcV)) x3 fun x3 => k (Obj.mk x0 x1 x2 x3)
theorem fcOb_eq (x : Obj) (k : Obj → α) : fcOb x k = k x := by
  cases x with
  | mk x0 x1 x2 x3 =>
    show (fcV x0 fun x0 => (fcO frNat) x1 fun x1 => fcD x2 fun x2 => (fcA (fcO fcV)) x3 fun x3 => k (Obj.mk x0 x1 x2 x3)) = _
    simp only [fcV_eq, (fcO_eq frNat_eq), fcD_eq, (fcA_eq (fcO_eq fcV_eq)), fc0_eq]
def fcT : PySem.W.BT → (PySem.W.BT → α) → α
  | .nil, k => k .nil
  | .node v l r, k => fcOb v fun v => fcT l fun l => fcT r fun r => k (.node v l r)
theorem fcT_eq : ∀ (t : PySem.W.BT) (k : PySem.W.BT → α), fcT t k = k t
  | .nil, _ => rfl
  | .node v l r, k => by
    show fcOb v (fun v => fcT l fun l => fcT r fun r => k (.node v l r)) = _
    rw [fcOb_eq, fcT_eq l, fcT_eq r]
def fcLf (x : Life) (k : Life → α) : α := match x with
  | Life.mk x0 x1 x2 x3 x4 x5 x6 x7 x8 x9 x10 x11 x12 x13 x14 x15 x16 x17 x18 x19 x20 x21 => (fcL frNat) x0 fun x0 => (fcL frNat) x1 fun x1 => (fcL frNat) x2 fun x2 => frNat x3 fun x3 => (fcL (fcP frNat frNat)) x4 fun x4 => (fcL frNat) x5 fun x5 => fcB x6 fun x6 => (fcA frNat) x7 fun x7 => (fcL frNat) x8 fun x8 => frNat x9 fun x9 => fcB x10 fun x10 => fcB x11 fun x11 => fcB x12 fun x12 => fcI x13 fun x13 => (fcL fcI) x14 fun x14 => fcB x15 fun x15 => frNat x16 fun x16 => fcB x17 fun x17 => (fcL frNat) x18 fun x18 => (fcL frNat) x19 fun x19 => frNat x20 fun x20 => fcB x21 fun x21 => k (Life.mk x0 x1 x2 x3 x4 x5 x6 x7 x8 x9 x10 x11 x12 x13 x14 x15 x16 x17 x18 x19 x20 x21)
theorem fcLf_eq (x : Life) (k : Life → α) : fcLf x k = k x := by
  cases x with
  | mk x0 x1 x2 x3 x4 x5 x6 x7 x8 x9 x10 x11 x12 x13 x14 x15 x16 x17 x18 x19 x20 x21 =>
    show ((fcL frNat) x0 fun x0 => (fcL frNat) x1 fun x1 => (fcL frNat) x2 fun x2 => frNat x3 fun x3 => (fcL (fcP frNat frNat)) x4 fun x4 => (fcL frNat) x5 fun x5 => fcB x6 fun x6 => (fcA frNat) x7 fun x7 => (fcL frNat) x8 fun x8 => frNat x9 fun x9 => fcB x10 fun x10 => fcB x11 fun x11 => fcB x12 fun x12 => fcI x13 fun x13 => (fcL fcI) x14 fun x14 => fcB x15 fun x15 => frNat x16 fun x16 => fcB x17 fun x17 => (fcL frNat) x18 fun x18 => (fcL frNat) x19 fun x19 => frNat x20 fun x20 => fcB x21 fun x21 => k (Life.mk x0 x1 x2 x3 x4 x5 x6 x7 x8 x9 x10 x11 x12 x13 x14 x15 x16 x17 x18 x19 x20 x21)) = _
    simp only [(fcL_eq frNat_eq), frNat_eq, (fcL_eq (fcP_eq frNat_eq frNat_eq)), fcB_eq, (fcA_eq frNat_eq), fcI_eq, (fcL_eq fcI_eq), fc0_eq]
def fcDr (x : Drawn) (k : Drawn → α) : α := match x with
  | Drawn.mk x0 x1 x2 x3 => frNat x0 fun x0 => frNat x1 fun x1 => frNat x2 fun x2 => frNat x3 fun x3 => k (Drawn.mk x0 x1 x2 x3)
theorem fcDr_eq (x : Drawn) (k : Drawn → α) : fcDr x k = k x := by
  cases x with
  | mk x0 x1 x2 x3 =>
    show (frNat x0 fun x0 => frNat x1 fun x1 => frNat x2 fun x2 => frNat x3 fun x3 => k (Drawn.mk x0 x1 x2 x3)) = _
    simp only [frNat_eq, fc0_eq]
def fcSh (x : SharedT) (k : SharedT → α) : α := match x with
  | SharedT.mk x0 x1 x2 x3 x4 x5 x6 => fcT x0 fun x0 => frNat x1 fun x1 => fcLf x2 fun x2 => (fcA fc0) x3 fun x3 => fcDr x4 fun x4 => frNat x5 fun x5 => fc0 x6 fun x6 => k (SharedT.mk x0 x1 x2 x3 x4 x5 x6)
theorem fcSh_eq (x : SharedT) (k : SharedT → α) : fcSh x k = k x := by
  cases x with
  | mk x0 x1 x2 x3 x4 x5 x6 =>
    show (fcT x0 fun x0 => frNat x1 fun x1 => fcLf x2 fun x2 => (fcA fc0) x3 fun x3 => fcDr x4 fun x4 => frNat x5 fun x5 => fc0 x6 fun x6 => k (SharedT.mk x0 x1 x2 x3 x4 x5 x6)) = _
    simp only [fcT_eq, frNat_eq, fcLf_eq, (fcA_eq fc0_eq), fcDr_eq, fc0_eq]
end
/-- so many steps, none of them the last -/
def goP (st : SharedT → Thread → Option (SharedT × Thread)) (n0 : Nat) (ann : Option Value) : Nat → SharedT → Thread → Option (SharedT × Thread)
  | 0, s, t => some (s, t)
  | m + 1, s, t => match through t with
    | true => none
    | false => match stepOk n0 ann t with
      | false => none
      | true => match st s t with
        | some (s', t') => frS s' fun s' => goP st n0 ann m s' t'
        | none => none
theorem goP_ok {st : SharedT → Thread → Option (SharedT × Thread)} {n0 k : Nat} {ann : Option Value} : ∀ {m : Nat} {s : SharedT} {t : Thread} {x : SharedT × Thread}, goP st n0 ann m s t = some x → goF st n0 ann (k + m) s t = goF st n0 ann k x.1 x.2
  | 0, s, t, x, h => by
    cases h
    rfl
  | m + 1, s, t, x, h => by
    have h1 : (match through t with
      | true => none
      | false => match stepOk n0 ann t with
        | false => none
        | true => match st s t with
          | some (s', t') => frS s' fun s' => goP st n0 ann m s' t'
          | none => none) = some x := h
    show (match through t with
      | true => some s
      | false => match stepOk n0 ann t with
        | false => none
        | true => match st s t with
          | some (s', t') => frS s' fun s' => goF st n0 ann (k + m) s' t'
          | none => none) = _
    cases ht : through t with
    | true =>
      rw [ht] at h1
      cases h1
    | false =>
      rw [ht] at h1
      cases hk : stepOk n0 ann t with
      | false =>
        rw [hk] at h1
        cases h1
      | true =>
        rw [hk] at h1
        cases hs : st s t with
        | none =>
          rw [hs] at h1
          cases h1
        | some r =>
          obtain ⟨s2, t2⟩ := r
          rw [hs] at h1
          have h3 : (frS s2 fun s' => goP st n0 ann m s' t2) = some x := h1
          rw [frS_eq] at h3
          show (frS s2 fun s' => goF st n0 ann (k + m) s' t2) = _
          rw [frS_eq]
          exact goP_ok h3
/-- so many steps from the boot -/
noncomputable def endP (st : SharedT → Thread → Option (SharedT × Thread)) (m : Nat) (p : Program) (w : World) (os : OsState) : Option (SharedT × Thread) := match putAll (boot_heap w.params).objs.toList .nil 0 with
  | some (t, n) => frNat n fun n0 => goP st n0 (bootAnn w) m (bootT w os (t, n0)) (topStub p)
  | none => none
/-- how many objects the boot lays -/
noncomputable def bootN (w : World) : Nat := match putAll (boot_heap w.params).objs.toList .nil 0 with
  | some (_, n) => n
  | none => 0
theorem endP_ok {st : SharedT → Thread → Option (SharedT × Thread)} {m k : Nat} {p : Program} {w : World} {os : OsState} {x : SharedT × Thread} (h : endP st m p w os = some x) : endF st (k + m) p w os = goF st (bootN w) (bootAnn w) k x.1 x.2 := by
  unfold endP at h
  unfold endF bootN
  cases e : putAll (boot_heap w.params).objs.toList .nil 0 with
  | none =>
    rw [e] at h
    cases h
  | some r =>
    obtain ⟨t, n⟩ := r
    rw [e] at h
    have h1 : (frNat n fun n0 => goP st n0 (bootAnn w) m (bootT w os (t, n0)) (topStub p)) = some x := h
    rw [frNat_eq] at h1
    show (frNat n fun n0 => goF st n0 (bootAnn w) (k + m) (bootT w os (t, n0)) (topStub p)) = _
    rw [frNat_eq]
    exact goP_ok h1
structure Cap {β : Type} (r : Option β) where
  v : β
  h : r = some v
def myq (_ _ _ : Nat) : Sem Unit := .pure ()
def ctx0 : Ctx := { code := .builtin "" {}, handled := none, own := none, below := [], past := none }
def ar0 : Around := { handled := ctx0.handled, depth := frameCount ctx0.below + ctx0.code.weight, units := ctx0.units }
def myCmp (p : Program) (w : World) : Nat → Nat → (Bool → Shared → Prop) → Shared → Prop := fun _ _ C s => wpAny (model p w) ar0 (myq 0 0 0) (fun _ s' => C true s') (fun _ _ => False) s
theorem myCmp_get {p : Program} {w : World} {i j : Nat} {C : Bool → Shared → Prop} {s : Shared} (h : myCmp p w i j C s) : C true s := by
  have h1 : wpAny (model p w) ar0 (myq 0 0 0) (fun _ s' => C true s') (fun _ _ => False) s := h
  have h2 := h1 ctx0 default ⟨rfl, Nat.le_refl _, (fun l e => nomatch e), (fun g e => nomatch e), Nat.le_refl _⟩
  exact h2
theorem my_wp2 {β : Type} {p : Program} {w : World} {i j k : Nat} {s : Shared} {x : Option β} {m : β} (h : x = some m) : wpAny (model p w) ar0 (myq i j k) (fun _ s' => KasNext (myCmp p w) (fun _ => .ret x) (fun x _ => x = some m) true s') (fun _ _ => False) s := fun Γ q hI => h
/-- the run, its end forced -/
def treeR (r : Option (SharedT × Thread)) : KasT (Option (SharedT × Thread)) := match r with
  | some (s, t) => fcSh s fun s => .ask 0 0 fun _ => .ret (some (s, t))
  | none => .ret none
theorem cap_ok {p : Program} {w : World} {r : Option (SharedT × Thread)} {m : SharedT × Thread} {s : Shared} (h : KasT.kasWp (myCmp p w) (treeR r) (fun x _ => x = some m) s) : r = some m := by
  cases r with
  | none => exact h
  | some x =>
    obtain ⟨a, t⟩ := x
    have h1 : KasT.kasWp (myCmp p w) (fcSh a fun s => .ask 0 0 fun _ => .ret (some (s, t))) (fun x _ => x = some m) s := h
    rw [fcSh_eq] at h1
    exact myCmp_get h1
/-- the end of the run, forced -/
def treeF (r : Option SharedT) : KasT (Option SharedT) := match r with
  | some s => fcSh s fun s => .ask 0 0 fun _ => .ret (some s)
  | none => .ret none
theorem capF_ok {p : Program} {w : World} {r : Option SharedT} {m : SharedT} {s : Shared} (h : KasT.kasWp (myCmp p w) (treeF r) (fun x _ => x = some m) s) : r = some m := by
  cases r with
  | none => exact h
  | some a =>
    have h1 : KasT.kasWp (myCmp p w) (fcSh a fun s => .ask 0 0 fun _ => .ret (some s)) (fun x _ => x = some m) s := h
    rw [fcSh_eq] at h1
    exact myCmp_get h1
theorem join2 {st : SharedT → Thread → Option (SharedT × Thread)} {m1 m2 k : Nat} {p : Program} {w : World} {os : OsState} (c1 : Cap (endP st m1 p w os)) (c2 : Cap (goP st (bootN w) (bootAnn w) m2 c1.v.1 c1.v.2)) (f : Cap (goF st (bootN w) (bootAnn w) k c2.v.1 c2.v.2)) : endF st ((k + m2) + m1) p w os = some f.v :=
  (endP_ok (k := k + m2) c1.h).trans ((goP_ok (k := k) c2.h).trans f.h)
theorem runEq_of {r : OpenRow} {q : Program} {H : Hook} {ob : SharedT → H.α} {M : Nat} {loose : List PySem.Str} {w : World} {f : OsState → SharedT} (hf : ∀ os, endF (stepQ (denQ tabQ) r.prog w) M r.prog w os = some (f os)) (hl : ∀ os, looksF r.prog (boot_heap w.params) (f os).abs = true)
    (hs : ∀ os, seenQ q loose (importedModules r.prog.main.body) (fun s => xlAt q [] s && recOk r.toRowW.records s) (f os).abs = openGood q loose) (ho : ∀ os, ob (f os) = H.val w) : RunEq r q H ob M loose w := fun os => by
  show Option.map _ (endF _ M _ _ _) = _
  rw [hf os]
  show some (_, _, _) = _
  rw [hl, hs, ho]
end Rg

set_option Elab.async false
set_option linter.all false
set_option maxRecDepth 100000
set_option maxHeartbeats 4000000
set_option pp.maxSteps 1500
set_option pp.deepTerms false
set_option pp.deepTerms.threshold 8
namespace Rg
open PySem PySem.Spec PyProof.Rows L2

def topS (i : Nat) : Stmt := PySem.Challenge.pw_rowgames_k30_equations_read_off.main.body.getD i (.Pass ⟨0, 0, 0, 0⟩)
abbrev s_draw : Stmt := topS 67
abbrev s_pen : Stmt := topS 66
abbrev s_pick : Stmt := topS 68
abbrev s_isInt : Stmt := topS 22
abbrev s_isLetter : Stmt := topS 23
abbrev s_isRow : Stmt := topS 24
abbrev s_needRow : Stmt := topS 25
abbrev s_weightOf : Stmt := topS 27
abbrev s_isStretch : Stmt := topS 31
abbrev s_bget : Stmt := inClass (topS 37) 6
abbrev s_winit : Stmt := inClass (topS 28) 0
abbrev s_wlen : Stmt := inClass (topS 28) 2
abbrev s_wget : Stmt := inClass (topS 28) 5
abbrev s_weq : Stmt := inClass (topS 28) 6
abbrev s_rinit : Stmt := inClass (topS 32) 1
abbrev s_req : Stmt := inClass (topS 32) 9
abbrev s_lighter : Stmt := topS 36
abbrev s_binit : Stmt := inClass (topS 37) 1
abbrev s_isWhole : Stmt := topS 49
abbrev s_needSigns : Stmt := topS 52
abbrev s_isStep : Stmt := topS 53
abbrev s_init : Stmt := inClass (topS 54) 0
abbrev s_needBook : Stmt := topS 56
abbrev s_needLast : Stmt := topS 57
abbrev s_ginit : Stmt := inClass (topS 58) 1
abbrev s_somer : Stmt := inClass (topS 60) 2
abbrev s_everyr : Stmt := inClass (topS 61) 2
abbrev s_duelr : Stmt := inClass (topS 62) 0
abbrev s_ground : Stmt := topS 69
abbrev s_reads : Stmt := topS 70
abbrev s_lists : Stmt := topS 72
abbrev s_made : Stmt := topS 73
abbrev s_law : Stmt := topS 74
abbrev s_xBadSigns : Stmt := inClass (topS 5) 0
abbrev s_xBadRule : Stmt := inClass (topS 7) 0
abbrev s_xBadBook : Stmt := inClass (topS 8) 0
abbrev s_xHeavier : Stmt := inClass (topS 9) 0
abbrev s_xUnlessened : Stmt := inClass (topS 10) 0
abbrev s_xBadMachine : Stmt := inClass (topS 12) 0
abbrev s_xBadGame : Stmt := inClass (topS 13) 0
abbrev s_xOtherSigns : Stmt := inClass (topS 14) 0
abbrev s_wof : Stmt := inClass (topS 28) 1
abbrev s_bof : Stmt := inClass (topS 37) 2
abbrev s_mevery : Stmt := inClass (topS 54) 1
abbrev s_mnone : Stmt := inClass (topS 54) 2
abbrev s_ainit : Stmt := inClass (topS 59) 0
abbrev s_shinit : Stmt := inClass (topS 63) 1
abbrev s_siinit : Stmt := inClass (topS 64) 1
abbrev a_Weights (K : PySem.W.Frag) : Addr := He.ga K "Weights"
abbrev a_Rule (K : PySem.W.Frag) : Addr := He.ga K "Rule"
abbrev a_Book (K : PySem.W.Frag) : Addr := He.ga K "Book"
abbrev a_Machine (K : PySem.W.Frag) : Addr := He.ga K "Machine"
abbrev a_Game (K : PySem.W.Frag) : Addr := He.ga K "Game"
abbrev a_Alone (K : PySem.W.Frag) : Addr := He.ga K "Alone"
abbrev a_Duel (K : PySem.W.Frag) : Addr := He.ga K "Duel"
abbrev a_Some (K : PySem.W.Frag) : Addr := He.ga K "Some"
abbrev a_Every (K : PySem.W.Frag) : Addr := He.ga K "Every"
abbrev a_Shared (K : PySem.W.Frag) : Addr := He.ga K "Shared"
abbrev a_Sides (K : PySem.W.Frag) : Addr := He.ga K "Sides"
abbrev a_GameError (K : PySem.W.Frag) : Addr := He.ga K "GameError"
abbrev a_BadInput (K : PySem.W.Frag) : Addr := He.ga K "BadInput"
abbrev a_NoAnswer (K : PySem.W.Frag) : Addr := He.ga K "NoAnswer"
abbrev a_BadSigns (K : PySem.W.Frag) : Addr := He.ga K "BadSigns"
abbrev a_BadRow (K : PySem.W.Frag) : Addr := He.ga K "BadRow"
abbrev a_BadRule (K : PySem.W.Frag) : Addr := He.ga K "BadRule"
abbrev a_BadBook (K : PySem.W.Frag) : Addr := He.ga K "BadBook"
abbrev a_Heavier (K : PySem.W.Frag) : Addr := He.ga K "Heavier"
abbrev a_Unlessened (K : PySem.W.Frag) : Addr := He.ga K "Unlessened"
abbrev a_BadMove (K : PySem.W.Frag) : Addr := He.ga K "BadMove"
abbrev a_BadMachine (K : PySem.W.Frag) : Addr := He.ga K "BadMachine"
abbrev a_BadGame (K : PySem.W.Frag) : Addr := He.ga K "BadGame"
abbrev a_OtherSigns (K : PySem.W.Frag) : Addr := He.ga K "OtherSigns"
abbrev a_BadNumber (K : PySem.W.Frag) : Addr := He.ga K "BadNumber"
abbrev a_BadText (K : PySem.W.Frag) : Addr := He.ga K "BadText"
abbrev a_TooMany (K : PySem.W.Frag) : Addr := He.ga K "TooMany"
def exT : ExT := [("GameError", ["GameError"]), ("BadInput", ["BadInput", "GameError"]), ("NoAnswer", ["NoAnswer", "GameError"]), ("BadSigns", ["BadSigns", "BadInput", "GameError"]), ("BadRow", ["BadRow", "BadInput", "GameError"]), ("BadRule", ["BadRule", "BadInput", "GameError"]), ("BadBook", ["BadBook", "BadInput", "GameError"]), ("Heavier", ["Heavier", "BadInput", "GameError"]), ("Unlessened", ["Unlessened", "BadInput", "GameError"]), ("BadMove", ["BadMove", "BadInput", "GameError"]), ("BadMachine", ["BadMachine", "BadInput", "GameError"]), ("BadGame", ["BadGame", "BadInput", "GameError"]), ("OtherSigns", ["OtherSigns", "BadInput", "GameError"]), ("BadNumber", ["BadNumber", "BadInput", "GameError"]), ("BadText", ["BadText", "BadInput", "GameError"]), ("TooMany", ["TooMany", "NoAnswer", "GameError"])]
end Rg
namespace Rg
open PySem PySem.Spec PyProof.Rows L2

def hd_draw : He.DefD := ⟨("_law_draw", none), "_law_draw", "_law_draw", defArgs s_draw, defBody s_draw, defScope s_draw, [], []⟩
def hd_pen : He.DefD := ⟨("_law_pen", none), "_law_pen", "_law_pen", defArgs s_pen, defBody s_pen, defScope s_pen, [], []⟩
def hd_pick : He.DefD := ⟨("_law_pick", none), "_law_pick", "_law_pick", defArgs s_pick, defBody s_pick, defScope s_pick, [], []⟩
def hd_isInt : He.DefD := ⟨("is_integer", none), "is_integer", "is_integer", defArgs s_isInt, defBody s_isInt, defScope s_isInt, [], []⟩
def hd_isLetter : He.DefD := ⟨("is_letter", none), "is_letter", "is_letter", defArgs s_isLetter, defBody s_isLetter, defScope s_isLetter, [], []⟩
def hd_isRow : He.DefD := ⟨("is_row", none), "is_row", "is_row", defArgs s_isRow, defBody s_isRow, defScope s_isRow, [], []⟩
def hd_needRow : He.DefD := ⟨("need_row", none), "need_row", "need_row", defArgs s_needRow, defBody s_needRow, defScope s_needRow, [], []⟩
def hd_weightOf : He.DefD := ⟨("weight_of", none), "weight_of", "weight_of", defArgs s_weightOf, defBody s_weightOf, defScope s_weightOf, [], []⟩
def hd_isStretch : He.DefD := ⟨("is_stretch", none), "is_stretch", "is_stretch", defArgs s_isStretch, defBody s_isStretch, defScope s_isStretch, [], []⟩
def hd_bget : He.DefD := ⟨("Book", some "__getitem__"), "__getitem__", "Book.__getitem__", defArgs s_bget, defBody s_bget, defScope s_bget, [], []⟩
def hd_winit : He.DefD := ⟨("Weights", some "__init__"), "__init__", "Weights.__init__", defArgs s_winit, defBody s_winit, defScope s_winit, [], []⟩
def hd_wlen : He.DefD := ⟨("Weights", some "__len__"), "__len__", "Weights.__len__", defArgs s_wlen, defBody s_wlen, defScope s_wlen, [], []⟩
def hd_wget : He.DefD := ⟨("Weights", some "__getitem__"), "__getitem__", "Weights.__getitem__", defArgs s_wget, defBody s_wget, defScope s_wget, [], []⟩
def hd_weq : He.DefD := ⟨("Weights", some "__eq__"), "__eq__", "Weights.__eq__", defArgs s_weq, defBody s_weq, defScope s_weq, [], []⟩
def hd_rinit : He.DefD := ⟨("Rule", some "__init__"), "__init__", "Rule.__init__", defArgs s_rinit, defBody s_rinit, defScope s_rinit, [], [("left", .bl false), ("right", .bl false)]⟩
def hd_req : He.DefD := ⟨("Rule", some "__eq__"), "__eq__", "Rule.__eq__", defArgs s_req, defBody s_req, defScope s_req, [], []⟩
def hd_lighter : He.DefD := ⟨("need_lighter", none), "need_lighter", "need_lighter", defArgs s_lighter, defBody s_lighter, defScope s_lighter, [], []⟩
def hd_binit : He.DefD := ⟨("Book", some "__init__"), "__init__", "Book.__init__", defArgs s_binit, defBody s_binit, defScope s_binit, [], []⟩
def hd_isWhole : He.DefD := ⟨("is_whole", none), "is_whole", "is_whole", defArgs s_isWhole, defBody s_isWhole, defScope s_isWhole, [.non], []⟩
def hd_needSigns : He.DefD := ⟨("need_signs", none), "need_signs", "need_signs", defArgs s_needSigns, defBody s_needSigns, defScope s_needSigns, [], []⟩
def hd_isStep : He.DefD := ⟨("is_step", none), "is_step", "is_step", defArgs s_isStep, defBody s_isStep, defScope s_isStep, [], []⟩
def hd_init : He.DefD := ⟨("Machine", some "__init__"), "__init__", "Machine.__init__", defArgs s_init, defBody s_init, defScope s_init, [], []⟩
def hd_needBook : He.DefD := ⟨("need_book", none), "need_book", "need_book", defArgs s_needBook, defBody s_needBook, defScope s_needBook, [], []⟩
def hd_needLast : He.DefD := ⟨("need_last", none), "need_last", "need_last", defArgs s_needLast, defBody s_needLast, defScope s_needLast, [], []⟩
def hd_ginit : He.DefD := ⟨("Game", some "__init__"), "__init__", "Game.__init__", defArgs s_ginit, defBody s_ginit, defScope s_ginit, [], []⟩
def hd_somer : He.DefD := ⟨("Some", some "reads"), "reads", "Some.reads", defArgs s_somer, defBody s_somer, defScope s_somer, [], []⟩
def hd_everyr : He.DefD := ⟨("Every", some "reads"), "reads", "Every.reads", defArgs s_everyr, defBody s_everyr, defScope s_everyr, [], []⟩
def hd_duelr : He.DefD := ⟨("Duel", some "reads"), "reads", "Duel.reads", defArgs s_duelr, defBody s_duelr, defScope s_duelr, [], []⟩
def hd_ground : He.DefD := ⟨("_law_ground", none), "_law_ground", "_law_ground", defArgs s_ground, defBody s_ground, defScope s_ground, [], []⟩
def hd_reads : He.DefD := ⟨("_law_reads", none), "_law_reads", "_law_reads", defArgs s_reads, defBody s_reads, defScope s_reads, [], []⟩
def hd_lists : He.DefD := ⟨("_law_lists", none), "_law_lists", "_law_lists", defArgs s_lists, defBody s_lists, defScope s_lists, [], []⟩
def hd_made : He.DefD := ⟨("_law_made", none), "_law_made", "_law_made", defArgs s_made, defBody s_made, defScope s_made, [], []⟩
def hd_law : He.DefD := ⟨("law", none), "law", "law", defArgs s_law, defBody s_law, defScope s_law, [], []⟩
def hd_xBadSigns : He.DefD := ⟨("BadSigns", some "__init__"), "__init__", "BadSigns.__init__", defArgs s_xBadSigns, defBody s_xBadSigns, defScope s_xBadSigns, [], []⟩
def hd_xBadRule : He.DefD := ⟨("BadRule", some "__init__"), "__init__", "BadRule.__init__", defArgs s_xBadRule, defBody s_xBadRule, defScope s_xBadRule, [], []⟩
def hd_xBadBook : He.DefD := ⟨("BadBook", some "__init__"), "__init__", "BadBook.__init__", defArgs s_xBadBook, defBody s_xBadBook, defScope s_xBadBook, [], []⟩
def hd_xHeavier : He.DefD := ⟨("Heavier", some "__init__"), "__init__", "Heavier.__init__", defArgs s_xHeavier, defBody s_xHeavier, defScope s_xHeavier, [], []⟩
def hd_xUnlessened : He.DefD := ⟨("Unlessened", some "__init__"), "__init__", "Unlessened.__init__", defArgs s_xUnlessened, defBody s_xUnlessened, defScope s_xUnlessened, [], []⟩
def hd_xBadMachine : He.DefD := ⟨("BadMachine", some "__init__"), "__init__", "BadMachine.__init__", defArgs s_xBadMachine, defBody s_xBadMachine, defScope s_xBadMachine, [], []⟩
def hd_xBadGame : He.DefD := ⟨("BadGame", some "__init__"), "__init__", "BadGame.__init__", defArgs s_xBadGame, defBody s_xBadGame, defScope s_xBadGame, [], []⟩
def hd_xOtherSigns : He.DefD := ⟨("OtherSigns", some "__init__"), "__init__", "OtherSigns.__init__", defArgs s_xOtherSigns, defBody s_xOtherSigns, defScope s_xOtherSigns, [], []⟩
def hd_wof : He5.DefA := ⟨fun K => He5.wf K (a_Weights K) "classmethod" "of", "of", "Weights.of", defArgs s_wof, defBody s_wof, defScope s_wof, [], []⟩
def hd_bof : He5.DefA := ⟨fun K => He5.wf K (a_Book K) "classmethod" "of", "of", "Book.of", defArgs s_bof, defBody s_bof, defScope s_bof, [], []⟩
def hd_mevery : He5.DefA := ⟨fun K => He5.wf K (a_Machine K) "classmethod" "every", "every", "Machine.every", defArgs s_mevery, defBody s_mevery, defScope s_mevery, [], []⟩
def hd_mnone : He5.DefA := ⟨fun K => He5.wf K (a_Machine K) "classmethod" "none", "none", "Machine.none", defArgs s_mnone, defBody s_mnone, defScope s_mnone, [], []⟩
def hd_ainit : He5.DefA := ⟨fun K => He.ma K (a_Alone K) "__init__", "__init__", "Alone.__init__", defArgs s_ainit, defBody s_ainit, defScope s_ainit, [], []⟩
def hd_shinit : He5.DefA := ⟨fun K => He.ma K (a_Shared K) "__init__", "__init__", "Shared.__init__", defArgs s_shinit, defBody s_shinit, defScope s_shinit, [], [("last", .bl true)]⟩
def hd_siinit : He5.DefA := ⟨fun K => He.ma K (a_Sides K) "__init__", "__init__", "Sides.__init__", defArgs s_siinit, defBody s_siinit, defScope s_siinit, [], [("last", .bl true)]⟩
def hsups : List He5.DefA := [hd_ainit, hd_shinit, hd_siinit]
def hcms : List He5.DefA := [hd_wof, hd_bof, hd_mevery, hd_mnone]
def hde_0 : List He.DefD := [hd_draw, hd_pen, hd_pick, hd_isInt, hd_isLetter, hd_isRow, hd_needRow, hd_weightOf, hd_isStretch, hd_bget, hd_winit, hd_wlen]
def hde_1 : List He.DefD := [hd_wget, hd_weq, hd_rinit, hd_req, hd_lighter, hd_binit, hd_isWhole, hd_needSigns, hd_isStep, hd_init, hd_needBook, hd_needLast]
def hde_2 : List He.DefD := [hd_ginit, hd_somer, hd_everyr, hd_duelr, hd_ground, hd_reads, hd_lists, hd_made, hd_law, hd_xBadSigns, hd_xBadRule, hd_xBadBook]
def hde_3 : List He.DefD := [hd_xHeavier, hd_xUnlessened, hd_xBadMachine, hd_xBadGame, hd_xOtherSigns]
def hfa_0 : List He.Fa := [.free "len", .free "int", .free "abs", .free "isinstance", .free "str", .free "bool", .free "list", .free "tuple", .free "all", .free "any", .free "range", .free "repr", .free "enumerate", .free "dict", .free "sum", .free "set", .free "super", .str "LETTERS" "abcdefghijklmnopqrstuvwxyz", .int "MOST_SIGNS" 4, .int "MOST_WEIGHT" 9, .int "MOST_STRETCH" 4, .int "MOST_RULES" 8, .glo "Weights", .cls "Weights", .mkr "Weights"]
def hfa_1 : List He.Fa := [.noat "Weights" "weight_by", .noat "Weights" "pairs", .noat "Weights" "signs", .glo "Rule", .cls "Rule", .mkr "Rule", .noat "Rule" "old", .noat "Rule" "new", .noat "Rule" "left", .noat "Rule" "right", .glo "Book", .cls "Book", .mkr "Book", .noat "Book" "weights", .noat "Book" "rules", .glo "Machine", .cls "Machine", .mkr "Machine", .noat "Machine" "signs", .noat "Machine" "steps", .noat "Machine" "told", .glo "Game", .cls "Game", .glo "Alone", .cls "Alone"]
def hfa_2 : List He.Fa := [.glo "Duel", .cls "Duel", .glo "Some", .cls "Some", .mkr "Some", .noat "Some" "books", .noat "Some" "weights", .noat "Some" "seats", .noat "Some" "goal", .noat "Some" "last", .glo "Every", .cls "Every", .mkr "Every", .noat "Every" "books", .noat "Every" "weights", .noat "Every" "seats", .noat "Every" "goal", .noat "Every" "last", .glo "Shared", .cls "Shared", .mkr "Shared", .noat "Shared" "books", .noat "Shared" "weights", .noat "Shared" "seats", .noat "Shared" "goal"]
def hfa_3 : List He.Fa := [.noat "Shared" "last", .glo "Sides", .cls "Sides", .mkr "Sides", .noat "Sides" "books", .noat "Sides" "weights", .noat "Sides" "seats", .noat "Sides" "goal", .noat "Sides" "last", .glo "GameError", .glo "BadInput", .glo "NoAnswer", .glo "BadSigns", .glo "BadRow", .glo "BadRule", .glo "BadBook", .glo "Heavier", .glo "Unlessened", .glo "BadMove", .glo "BadMachine", .glo "BadGame", .glo "OtherSigns", .glo "BadNumber", .glo "BadText", .glo "TooMany"]
def hfa_4 : List He.Fa := [.glo "_law_draw", .glo "_law_pen", .glo "_law_pick", .glo "is_integer", .glo "is_letter", .glo "is_row", .glo "need_row", .glo "weight_of", .glo "is_stretch", .meth "Book" "__getitem__", .meth "Weights" "__len__", .meth "Weights" "__getitem__", .meth "Weights" "__eq__", .meth "Rule" "__eq__", .glo "need_lighter", .glo "is_whole", .glo "need_signs", .glo "is_step", .glo "need_book", .glo "need_last", .meth "Some" "reads", .meth "Every" "reads", .meth "Duel" "reads", .glo "_law_ground", .glo "_law_reads"]
def hfa_5 : List He.Fa := [.glo "_law_lists", .glo "_law_made", .glo "law"]
def hdefs : List He.DefD := hde_0 ++ (hde_1 ++ (hde_2 ++ (hde_3)))
def hfacts : List He.Fa := hfa_0 ++ (hfa_1 ++ (hfa_2 ++ (hfa_3 ++ (hfa_4 ++ (hfa_5)))))
def hmo_0 (K : PySem.W.Frag) : Bool := (PySem.W.fnIn K (He.ma K (a_Book K) "__getitem__") && (PySem.W.fnIn K (He.ma K (a_Weights K) "__getitem__") && (sysB K && (PySem.W.selfFirst K (a_Book K) && (He.eqO (PySem.W.specialIn K (.builtin "object.__class__") "__get__") (some (some (.builtin "getset_descriptor.__get__"))) && (decide (PySem.W.takesIn K (.builtin "object.__class__") = some true) && (decide (PySem.W.mroIn K (a_Weights K) (.type "object") = some true) && (He.eqO (PySem.W.findIn K (.ref (a_Weights K)) "__class__") (some (some (.builtin "object.__class__"))) && (decide (PySem.W.kitOne K (.ref (a_Weights K)) (.ref (a_Weights K)) = some true) && ((tyNames.all fun n => decide (PySem.W.kitOne K (.type n) (.ref (a_Weights K)) = some false)) && true))))))))))
def hmo_1 (K : PySem.W.Frag) : Bool := (PySem.W.notFirst K (a_Weights K) (.ref (a_Weights K)) && ((tyNames.all fun n => PySem.W.notFirst K (a_Weights K) (.type n)) && (decide (PySem.W.mroIn K (a_Rule K) (.type "object") = some true) && (He.eqO (PySem.W.findIn K (.ref (a_Rule K)) "__class__") (some (some (.builtin "object.__class__"))) && (decide (PySem.W.kitOne K (.ref (a_Rule K)) (.ref (a_Rule K)) = some true) && ((tyNames.all fun n => decide (PySem.W.kitOne K (.type n) (.ref (a_Rule K)) = some false)) && (PySem.W.notFirst K (a_Rule K) (.ref (a_Rule K)) && ((tyNames.all fun n => PySem.W.notFirst K (a_Rule K) (.type n)) && (decide (PySem.W.mroIn K (a_Book K) (.type "object") = some true) && (He.eqO (PySem.W.findIn K (.ref (a_Book K)) "__class__") (some (some (.builtin "object.__class__"))) && true))))))))))
def hmo_2 (K : PySem.W.Frag) : Bool := (decide (PySem.W.kitOne K (.ref (a_Book K)) (.ref (a_Book K)) = some true) && ((tyNames.all fun n => decide (PySem.W.kitOne K (.type n) (.ref (a_Book K)) = some false)) && (PySem.W.notFirst K (a_Book K) (.ref (a_Book K)) && ((tyNames.all fun n => PySem.W.notFirst K (a_Book K) (.type n)) && (decide (PySem.W.mroIn K (a_Machine K) (.type "object") = some true) && (He.eqO (PySem.W.findIn K (.ref (a_Machine K)) "__class__") (some (some (.builtin "object.__class__"))) && (decide (PySem.W.kitOne K (.ref (a_Machine K)) (.ref (a_Machine K)) = some true) && ((tyNames.all fun n => decide (PySem.W.kitOne K (.type n) (.ref (a_Machine K)) = some false)) && (PySem.W.notFirst K (a_Machine K) (.ref (a_Machine K)) && ((tyNames.all fun n => PySem.W.notFirst K (a_Machine K) (.type n)) && true))))))))))
def hmo_3 (K : PySem.W.Frag) : Bool := (decide (PySem.W.mroIn K (a_Some K) (.type "object") = some true) && (He.eqO (PySem.W.findIn K (.ref (a_Some K)) "__class__") (some (some (.builtin "object.__class__"))) && (decide (PySem.W.kitOne K (.ref (a_Some K)) (.ref (a_Game K)) = some true) && (decide (PySem.W.mroIn K (a_Every K) (.type "object") = some true) && (He.eqO (PySem.W.findIn K (.ref (a_Every K)) "__class__") (some (some (.builtin "object.__class__"))) && (decide (PySem.W.kitOne K (.ref (a_Every K)) (.ref (a_Game K)) = some true) && (decide (PySem.W.mroIn K (a_Shared K) (.type "object") = some true) && (He.eqO (PySem.W.findIn K (.ref (a_Shared K)) "__class__") (some (some (.builtin "object.__class__"))) && (decide (PySem.W.kitOne K (.ref (a_Shared K)) (.ref (a_Game K)) = some true) && (decide (PySem.W.mroIn K (a_Sides K) (.type "object") = some true) && true))))))))))
def hmo_4 (K : PySem.W.Frag) : Bool := (He.eqO (PySem.W.findIn K (.ref (a_Sides K)) "__class__") (some (some (.builtin "object.__class__"))) && (decide (PySem.W.kitOne K (.ref (a_Sides K)) (.ref (a_Game K)) = some true) && (supC K (a_Some K) (a_Alone K) (He.ma K (a_Game K) "__init__") && (decide (He.ma K (a_Some K) "__init__" = He.ma K (a_Alone K) "__init__") && (supC K (a_Every K) (a_Alone K) (He.ma K (a_Game K) "__init__") && (decide (He.ma K (a_Every K) "__init__" = He.ma K (a_Alone K) "__init__") && (supC K (a_Shared K) (a_Shared K) (He.ma K (a_Game K) "__init__") && (supC K (a_Sides K) (a_Sides K) (He.ma K (a_Game K) "__init__") && (He.eqO (PySem.W.findIn K (.ref (a_Shared K)) "reads") (PySem.W.findIn K (.ref (a_Duel K)) "reads") && (He.eqO (PySem.W.findIn K (.ref (a_Sides K)) "reads") (PySem.W.findIn K (.ref (a_Duel K)) "reads") && true))))))))))
def hmo_5 (K : PySem.W.Frag) : Bool := ((tyNames.all fun n => decide (PySem.W.kitOne K (.type n) (.ref (a_Game K)) = some false)) && (cmB K (a_Weights K) "of" && (cmB K (a_Book K) "of" && (cmB K (a_Machine K) "every" && (cmB K (a_Machine K) "none" && (supB K (He.ma K (a_Alone K) "__init__") (a_Alone K) && (supB K (He.ma K (a_Shared K) "__init__") (a_Shared K) && (supB K (He.ma K (a_Sides K) "__init__") (a_Sides K) && (exmB K exT && (kitXB K exT && true))))))))))
def hmo_6 (K : PySem.W.Frag) : Bool := (excsB K exT && (oexB K (a_BadSigns K) && ((He.eqO (PySem.W.findIn K (.ref (a_BadSigns K)) "__init__") (some (some (.ref (He.ma K (a_BadSigns K) "__init__")))) && decide (PySem.W.typeIn K (.ref (He.ma K (a_BadSigns K) "__init__")) = some (.type "function"))) && (oexB K (a_BadRule K) && ((He.eqO (PySem.W.findIn K (.ref (a_BadRule K)) "__init__") (some (some (.ref (He.ma K (a_BadRule K) "__init__")))) && decide (PySem.W.typeIn K (.ref (He.ma K (a_BadRule K) "__init__")) = some (.type "function"))) && (oexB K (a_BadBook K) && ((He.eqO (PySem.W.findIn K (.ref (a_BadBook K)) "__init__") (some (some (.ref (He.ma K (a_BadBook K) "__init__")))) && decide (PySem.W.typeIn K (.ref (He.ma K (a_BadBook K) "__init__")) = some (.type "function"))) && (oexB K (a_Heavier K) && ((He.eqO (PySem.W.findIn K (.ref (a_Heavier K)) "__init__") (some (some (.ref (He.ma K (a_Heavier K) "__init__")))) && decide (PySem.W.typeIn K (.ref (He.ma K (a_Heavier K) "__init__")) = some (.type "function"))) && (oexB K (a_Unlessened K) && true))))))))))
def hmo_7 (K : PySem.W.Frag) : Bool := ((He.eqO (PySem.W.findIn K (.ref (a_Unlessened K)) "__init__") (some (some (.ref (He.ma K (a_Unlessened K) "__init__")))) && decide (PySem.W.typeIn K (.ref (He.ma K (a_Unlessened K) "__init__")) = some (.type "function"))) && (oexB K (a_BadMachine K) && ((He.eqO (PySem.W.findIn K (.ref (a_BadMachine K)) "__init__") (some (some (.ref (He.ma K (a_BadMachine K) "__init__")))) && decide (PySem.W.typeIn K (.ref (He.ma K (a_BadMachine K) "__init__")) = some (.type "function"))) && (oexB K (a_BadGame K) && ((He.eqO (PySem.W.findIn K (.ref (a_BadGame K)) "__init__") (some (some (.ref (He.ma K (a_BadGame K) "__init__")))) && decide (PySem.W.typeIn K (.ref (He.ma K (a_BadGame K) "__init__")) = some (.type "function"))) && (oexB K (a_OtherSigns K) && ((He.eqO (PySem.W.findIn K (.ref (a_OtherSigns K)) "__init__") (some (some (.ref (He.ma K (a_OtherSigns K) "__init__")))) && decide (PySem.W.typeIn K (.ref (He.ma K (a_OtherSigns K) "__init__")) = some (.type "function"))) && (fldXB K "at" ["BadRow", "BadBook", "Heavier"] && (fldXB K "new" ["Unlessened"] && (fldXB K "old" ["Unlessened"] && true))))))))))
def hmo_8 (K : PySem.W.Frag) : Bool := (fldXB K "part" ["BadSigns", "BadRule", "BadMove", "BadMachine", "BadGame", "OtherSigns", "BadNumber"] && true)
def hmore (K : PySem.W.Frag) : Bool := (hmo_0 K && (hmo_1 K && (hmo_2 K && (hmo_3 K && (hmo_4 K && (hmo_5 K && (hmo_6 K && (hmo_7 K && (hmo_8 K && true)))))))))
abbrev hrow : PySem.W.OpenRow := PySem.W.OpenLaw.row PySem.Challenge.rw_rowgames_k30_equations_read_off
abbrev hhook : PySem.W.Hook := He.hookW 5 hfacts hdefs [] [] hmore hcms hsups
def hobs (s : PySem.W.SharedT) : He.AlZ := He.obsW 5 hfacts hdefs [] [] hmore hcms hsups (HandSHeadRun.getT s)
theorem hobs_eq (s : PySem.W.SharedT) : hobs s = hhook.obs s.abs := He.obsW_eq (HandSHeadRun.getT_eq s)
def hnames0 : List PySem.Str := ["_wall", "GameError", "BadInput", "NoAnswer", "BadSigns", "BadRow", "BadRule", "BadBook", "Heavier", "Unlessened", "BadMove", "BadMachine", "BadGame", "OtherSigns", "BadNumber", "BadText", "TooMany", "LETTERS", "MOST_SIGNS", "MOST_WEIGHT", "is_integer", "is_letter", "is_row", "need_row", "rows_of", "weight_of", "Weights", "MOST_STRETCH", "is_stretch", "Rule"]
def hnames1 : List PySem.Str := ["MOST_RULES", "moves_of", "need_lighter", "Book", "reached", "classes_of", "restricted", "least_form", "is_chosen", "joined", "first_row", "able", "turned_round", "is_whole", "MOST_LENGTH", "need_signs", "is_step", "Machine", "need_book", "need_last", "Game", "Alone", "Some", "Every", "Duel", "Shared", "Sides", "_law_pen", "_law_draw", "_law_pick"]
def hnames2 : List PySem.Str := ["_law_ground", "_law_reads", "_law_judge", "_law_lists", "_law_made"]
def hnames : List PySem.Str := hnames0 ++ hnames1 ++ hnames2
set_option maxHeartbeats 0 in
@[irreducible] noncomputable def hcut1 (w : World) (os : OsState) : Cap (endP (HandSHeadRun.stepQ (HandSHeadRun.denQ HandSHeadRun.tabQ) hrow.prog w) 4000 hrow.prog w os) := by
  refine' ⟨_, cap_ok (p := hrow.prog) (w := w) (s := {}) _⟩
  rotate_left
  kat_step
  exact my_wp2 rfl
set_option maxHeartbeats 0 in
@[irreducible] noncomputable def hcut2 (w : World) (os : OsState) : Cap (goP (HandSHeadRun.stepQ (HandSHeadRun.denQ HandSHeadRun.tabQ) hrow.prog w) (bootN w) (HandSHeadRun.bootAnn w) 4000 (hcut1 w os).v.1 (hcut1 w os).v.2) := by
  refine' ⟨_, cap_ok (p := hrow.prog) (w := w) (s := {}) _⟩
  rotate_left
  kat_step
  exact my_wp2 rfl
set_option maxHeartbeats 0 in
@[irreducible] noncomputable def hfin (w : World) (os : OsState) : Cap (HandSHeadRun.goF (HandSHeadRun.stepQ (HandSHeadRun.denQ HandSHeadRun.tabQ) hrow.prog w) (bootN w) (HandSHeadRun.bootAnn w) 12000 (hcut2 w os).v.1 (hcut2 w os).v.2) := by
  refine' ⟨_, capF_ok (p := hrow.prog) (w := w) (s := {}) _⟩
  rotate_left
  kat_step
  exact my_wp2 rfl
open PySem.W PySem.Calls HandSHeadRun in
set_option maxHeartbeats 0 in
theorem hlook (w : World) (os : OsState) : HandSHeadRun.looksF hrow.prog (boot_heap w.params) (hfin w os).v.abs = true := by
  kernel_rfl
open PySem.W PySem.Calls HandSHeadRun in
set_option maxHeartbeats 0 in
theorem hseen (w : World) (os : OsState) : HandSHeadRun.seenQ (PySem.W.view hrow.prog [74]) hnames (PySem.importedModules hrow.prog.main.body) (fun s => PySem.W.xlAt (PySem.W.view hrow.prog [74]) [] s && PySem.W.recOk hrow.toRowW.records s) (hfin w os).v.abs = PySem.W.openGood (PySem.W.view hrow.prog [74]) hnames := by
  kernel_rfl
@[irreducible] noncomputable def hK (w : World) (os : OsState) : PySem.W.Frag := He.frT (HandSHeadRun.getT (hfin w os).v) (He.asW ([] : List He.Defn).isEmpty (HandSHeadRun.getT (hfin w os).v) 5)
set_option maxHeartbeats 0 in
theorem hfk_0 (w : World) (os : OsState) : (hfa_0.all fun f => f.ok (hK w os)) = true := by
  kernel_rfl
set_option maxHeartbeats 0 in
theorem hfk_1 (w : World) (os : OsState) : (hfa_1.all fun f => f.ok (hK w os)) = true := by
  kernel_rfl
set_option maxHeartbeats 0 in
theorem hfk_2 (w : World) (os : OsState) : (hfa_2.all fun f => f.ok (hK w os)) = true := by
  kernel_rfl
set_option maxHeartbeats 0 in
theorem hfk_3 (w : World) (os : OsState) : (hfa_3.all fun f => f.ok (hK w os)) = true := by
  kernel_rfl
set_option maxHeartbeats 0 in
theorem hfk_4 (w : World) (os : OsState) : (hfa_4.all fun f => f.ok (hK w os)) = true := by
  kernel_rfl
set_option maxHeartbeats 0 in
theorem hfk_5 (w : World) (os : OsState) : (hfa_5.all fun f => f.ok (hK w os)) = true := by
  kernel_rfl
set_option maxHeartbeats 0 in
theorem hdk_0 (w : World) (os : OsState) : (hde_0.all fun d => d.ok (hK w os)) = true := by
  kernel_rfl
set_option maxHeartbeats 0 in
theorem hdw_0 (w : World) (os : OsState) : (hde_0.map fun d => He.fnW (hK w os) d.at_) = hde_0.map He.DefD.val := by
  kernel_rfl
set_option maxHeartbeats 0 in
theorem hdk_1 (w : World) (os : OsState) : (hde_1.all fun d => d.ok (hK w os)) = true := by
  kernel_rfl
set_option maxHeartbeats 0 in
theorem hdw_1 (w : World) (os : OsState) : (hde_1.map fun d => He.fnW (hK w os) d.at_) = hde_1.map He.DefD.val := by
  kernel_rfl
set_option maxHeartbeats 0 in
theorem hdk_2 (w : World) (os : OsState) : (hde_2.all fun d => d.ok (hK w os)) = true := by
  kernel_rfl
set_option maxHeartbeats 0 in
theorem hdw_2 (w : World) (os : OsState) : (hde_2.map fun d => He.fnW (hK w os) d.at_) = hde_2.map He.DefD.val := by
  kernel_rfl
set_option maxHeartbeats 0 in
theorem hdk_3 (w : World) (os : OsState) : (hde_3.all fun d => d.ok (hK w os)) = true := by
  kernel_rfl
set_option maxHeartbeats 0 in
theorem hdw_3 (w : World) (os : OsState) : (hde_3.map fun d => He.fnW (hK w os) d.at_) = hde_3.map He.DefD.val := by
  kernel_rfl
set_option maxHeartbeats 0 in
theorem hmk_0 (w : World) (os : OsState) : hmo_0 (hK w os) = true := by
  kernel_rfl
set_option maxHeartbeats 0 in
theorem hmk_1 (w : World) (os : OsState) : hmo_1 (hK w os) = true := by
  kernel_rfl
set_option maxHeartbeats 0 in
theorem hmk_2 (w : World) (os : OsState) : hmo_2 (hK w os) = true := by
  kernel_rfl
set_option maxHeartbeats 0 in
theorem hmk_3 (w : World) (os : OsState) : hmo_3 (hK w os) = true := by
  kernel_rfl
set_option maxHeartbeats 0 in
theorem hmk_4 (w : World) (os : OsState) : hmo_4 (hK w os) = true := by
  kernel_rfl
set_option maxHeartbeats 0 in
theorem hmk_5 (w : World) (os : OsState) : hmo_5 (hK w os) = true := by
  kernel_rfl
set_option maxHeartbeats 0 in
theorem hmk_6 (w : World) (os : OsState) : hmo_6 (hK w os) = true := by
  kernel_rfl
set_option maxHeartbeats 0 in
theorem hmk_7 (w : World) (os : OsState) : hmo_7 (hK w os) = true := by
  kernel_rfl
set_option maxHeartbeats 0 in
theorem hmk_8 (w : World) (os : OsState) : hmo_8 (hK w os) = true := by
  kernel_rfl
set_option maxHeartbeats 0 in
theorem htb (w : World) (os : OsState) : He.tabsB (HandSHeadRun.getT (hfin w os).v) [] (hK w os) = true := by
  kernel_rfl
set_option maxHeartbeats 0 in
theorem hcs (w : World) (os : OsState) : (hcms.all fun d => d.ok (hK w os)) = true := by
  kernel_rfl
set_option maxHeartbeats 0 in
theorem hcw (w : World) (os : OsState) : (hcms.map fun d => He5.fnA (hK w os) (d.at_ (hK w os))) = hcms.map He5.DefA.val := by
  kernel_rfl
set_option maxHeartbeats 0 in
theorem hss (w : World) (os : OsState) : (hsups.all fun d => d.ok (hK w os)) = true := by
  kernel_rfl
set_option maxHeartbeats 0 in
theorem hsw (w : World) (os : OsState) : (hsups.map fun d => He.fnS (hK w os) (d.at_ (hK w os))) = hsups.map He5.DefA.val := by
  kernel_rfl
theorem hobs_K (w : World) (os : OsState) : hobs (hfin w os).v = He.obsKW hfacts hdefs [] [] hmore hcms hsups (HandSHeadRun.getT (hfin w os).v) (hK w os) := by
  unfold hK hobs He.obsW
  rfl
theorem hobv (w : World) (os : OsState) : hobs (hfin w os).v = hhook.val w :=
  (hobs_K w os).trans (He.obsKW_of (He.all_app (hfk_0 w os) (He.all_app (hfk_1 w os) (He.all_app (hfk_2 w os) (He.all_app (hfk_3 w os) (He.all_app (hfk_4 w os) (hfk_5 w os)))))) (He.all_app (hdk_0 w os) (He.all_app (hdk_1 w os) (He.all_app (hdk_2 w os) (hdk_3 w os)))) (He.map_app (hdw_0 w os) (He.map_app (hdw_1 w os) (He.map_app (hdw_2 w os) (hdw_3 w os)))) (He.and_tt (hmk_0 w os) (He.and_tt (hmk_1 w os) (He.and_tt (hmk_2 w os) (He.and_tt (hmk_3 w os) (He.and_tt (hmk_4 w os) (He.and_tt (hmk_5 w os) (He.and_tt (hmk_6 w os) (He.and_tt (hmk_7 w os) (He.and_tt (hmk_8 w os) rfl))))))))) (htb w os) (hcs w os) (hcw w os) (hss w os) (hsw w os))
theorem hrun (w : World) : HandSHeadRun.RunEq hrow (PySem.W.view hrow.prog [74]) hhook hobs 20000 hnames w :=
  runEq_of (f := fun os => (hfin w os).v) (fun os => join2 (k := 12000) (hcut1 w os) (hcut2 w os) (hfin w os)) (hlook w) (hseen w) (hobv w)
end Rg
set_option Elab.async false
set_option linter.all false
set_option maxRecDepth 100000
set_option maxHeartbeats 4000000
set_option pp.maxSteps 1500
set_option pp.deepTerms false
set_option pp.deepTerms.threshold 8
set_option Elab.async false
set_option linter.all false
set_option maxRecDepth 100000
set_option maxHeartbeats 2000000
namespace Rg
open PySem PySem.Spec PyProof.Rows L2

structure Step (W : Addr → Prop) (D H D' H' : Hp) : Prop where
  dd : Same D D'
  dh : Same D' H'
  kp : ∀ b o, ¬ W b → H b = some o → H' b = some o
  ns : ∀ b, H b ≠ none → H' b ≠ none
  fr : ∀ b, H b ≠ none → D b = none → D' b = none
abbrev NoW : Addr → Prop := fun _ => False
section
variable {W W' : Addr → Prop} {D H D1 H1 D2 H2 : Hp} {K : PySem.W.Frag}
theorem Step.refl (h : Same D H) : Step W D H D H := ⟨Same.refl D, h, fun _ _ _ e => e, fun _ e => e, fun _ _ e => e⟩
theorem Step.trans (a : Step W D H D1 H1) (b : Step W D1 H1 D2 H2) : Step W D H D2 H2 :=
  ⟨a.dd.trans b.dd, b.dh, fun c o hc e => b.kp c o hc (a.kp c o hc e), fun c e => b.ns c (a.ns c e), fun c e d => b.fr c (a.ns c e) (a.fr c e d)⟩
theorem Step.mono (a : Step W D H D1 H1) (h : ∀ b, W b → W' b) : Step W' D H D1 H1 :=
  ⟨a.dd, a.dh, fun c o hc e => a.kp c o (fun z => hc (h c z)) e, a.ns, a.fr⟩
theorem Step.any (a : Step NoW D H D1 H1) : Step W D H D1 H1 := a.mono fun _ z => z.elim
theorem same_new {p : Addr} {o : HO} (h : H p = none) : Same H (upd H p o) := fun b u e => by
  rw [upd_ne (ne_of_none e h)]
  exact e
theorem upd_ne_none {p b : Addr} {o : HO} (h : H b ≠ none) : upd H p o b ≠ none := by
  by_cases e : b = p
  · rw [e, upd_same]
    exact fun z => by cases z
  · rw [upd_ne e]
    exact h
/-- a new object, to stay -/
theorem Step.new {p : Addr} {o : HO} (s : Same D H) (h : H p = none) : Step W D H (upd D p o) (upd H p o) := by
  have hd : D p = none := s.free h
  refine ⟨same_new hd, fun b u e => ?_, fun b u _ e => same_new h b u e, fun b e => upd_ne_none e, fun b e d => ?_⟩
  · by_cases q : b = p
    · rw [q, upd_same] at e ⊢
      exact e
    · rw [upd_ne q] at e ⊢
      exact s b u e
  · have q : b ≠ p := fun z => e (z ▸ h)
    rw [upd_ne q]
    exact d
/-- a new object, not (yet) to stay -/
theorem Step.tmp {p : Addr} {o : HO} (s : Same D H) (h : H p = none) : Step W D H D (upd H p o) :=
  ⟨Same.refl D, s.trans (same_new h), fun b u _ e => same_new h b u e, fun b e => upd_ne_none e, fun _ _ d => d⟩
/-- an object that came behind the start is settled -/
theorem Step.settle {p : Addr} {o : HO} (a : Step W D H D1 H1) (h0 : H p = none) (h1 : H1 p = some o) (hd : D1 p = none) : Step W D H (upd D1 p o) H1 := by
  refine ⟨a.dd.trans (same_new hd), fun b u e => ?_, a.kp, a.ns, fun b e d => ?_⟩
  · by_cases q : b = p
    · rw [q, upd_same] at e
      rw [q, h1]
      exact e
    · rw [upd_ne q] at e
      exact a.dh b u e
  · have q : b ≠ p := fun z => e (z ▸ h0)
    rw [upd_ne q]
    exact a.fr b e d
/-- an object outside D that may be written (it is W's, or it came behind the start) changes -/
theorem Step.write {p : Addr} {o : HO} (a : Step W D H D1 H1) (hw : W p ∨ H p = none) (hd : D1 p = none) : Step W D H D1 (upd H1 p o) := by
  refine ⟨a.dd, fun b u e => ?_, fun b u hb e => ?_, fun b e => upd_ne_none (a.ns b e), a.fr⟩
  · have q : b ≠ p := fun z => by
      rw [z, hd] at e
      cases e
    rw [upd_ne q]
    exact a.dh b u e
  · have q : b ≠ p := fun z => by
      rcases hw with w | w
      · exact hb (z ▸ w)
      · rw [z, w] at e
        cases e
    rw [upd_ne q]
    exact a.kp b u hb e
theorem Step.free {p : Addr} (a : Step W D H D1 H1) (h : H1 p = none) : H p = none := by
  cases e : H p with
  | none => rfl
  | some o => exact absurd h (a.ns p (by rw [e]; exact fun z => by cases z))
theorem Step.dfree {p : Addr} (a : Step W D H D1 H1) (h : H1 p = none) : D1 p = none := a.dh.free h
end

theorem sqT_mono {K : PySem.W.Frag} {D D' : Hp} {a : Addr} {xs : List V} (e : Same D D') (h : SqT K D a xs) : SqT K D' a xs := by
  rcases h with (h | ⟨o, h⟩) | h
  · exact .inl (.inl (e _ _ h))
  · exact .inl (.inr ⟨o, e _ _ h⟩)
  · exact .inr h
section
variable {K : PySem.W.Frag} {D : Hp}
theorem dpAll_ints : ∀ ns : List Int, DpAll K D (ns.map V.int) (ns.map PyData.int)
  | [] => .nil
  | n :: r => .cons (.int n) (dpAll_ints r)
end

structure PenAt (K : PySem.W.Frag) (D H : Hp) (p : Addr) (n : Nat) : Prop where
  out : D p = none
  ex : ∃ (q : Addr) (ns : List Int) (t g : Int), H p = some (.lst [.ref q, .int t, .int g]) ∧ SqL K D q (ns.map V.int) ∧ 0 ≤ t ∧ t + n ≤ 1000000
theorem PenAt.less {K : PySem.W.Frag} {D H : Hp} {p : Addr} {n m : Nat} (h : PenAt K D H p n) (hm : m ≤ n) : PenAt K D H p m := by
  obtain ⟨o, q, ns, t, g, h1, h2, h3, h4⟩ := h
  exact ⟨o, q, ns, t, g, h1, h2, h3, by omega⟩
theorem PenAt.there {K : PySem.W.Frag} {D H : Hp} {p : Addr} {n : Nat} (h : PenAt K D H p n) : H p ≠ none := by
  obtain ⟨o, q, ns, t, g, h1, h2, h3, h4⟩ := h
  rw [h1]
  exact fun z => by cases z
/-- a step that does not write the pen leaves it -/
theorem PenAt.keep {K : PySem.W.Frag} {W : Addr → Prop} {D H D' H' : Hp} {p : Addr} {n : Nat} (h : PenAt K D H p n) (s : Step W D H D' H') (hw : ¬ W p) : PenAt K D' H' p n := by
  have hn := h.there
  obtain ⟨o, q, ns, t, g, h1, h2, h3, h4⟩ := h
  exact ⟨s.fr p hn o, q, ns, t, g, s.kp p _ hw h1, s.dd.seq h2, h3, h4⟩
/-- draw(pen, many): a number below many -/
def spDraw (K : PySem.W.Frag) : Sp := fun vs H Q _ => ∃ (D : Hp) (p : Addr) (m : Int) (n : Nat), vs = [.ref p, .int m] ∧ Same D H ∧ PenAt K D H p (n + 1) ∧ 1 ≤ m ∧ m < 1000000 ∧
  ∀ (H' : Hp) (r : Int), Step (· = p) D H D H' → PenAt K D H' p n → 0 ≤ r → r < m → Q (.int r) H'

structure CalX (P : Program) (w : World) (K : PySem.W.Frag) (mg : Str → Option Value) (base : Heap) (CX : CXT) (k : Nat) (x : Str) (sp : Sp) : Prop where
  ex : ∃ (f : Addr) (fd : FuncData) (ps : List Str), FnOk P w K mg base CX k f fd ps sp ∧ mg x = some (.ref f) ∧ PySem.W.keepIn K (.ref f) = true ∧ Binds K fd ps []
section
variable {X : Cx} {CX : CXT} {k j : Nat} {sp : Sp} {E : XK} {x : Str} {p pos : Pos} {e : Expr} {es : List Expr} {t : TA}
theorem pe_cX (c : CalX X.prog X.w X.K X.mg X.base CX k x sp) (hr : Room j X.A) (hk : k ≤ j) (hg : Gl X x) (hx : Passes CX X E) (ha : PA X (e :: es) t)
    (hdb : (x == ("__debug__" : Str)) = false := by decide) (he : starEach (e :: es) X.env = (false, eval e X.env) :: starEach es X.env := by rfl) (hpl : (backTo pos (starEach es X.env)).any (·.1) = false := by rfl) :
    PE X (.Call (.Name x p) (e :: es) [] pos) (tCall sp [] E t) := by
  obtain ⟨f, fd, ps, F, g, kp, b⟩ := c.ex
  exact pe_call F (hr.mono hk) hg g kp b .nil hx ha hdb he hpl
end
end Rg

set_option Elab.async false
set_option linter.all false
set_option maxRecDepth 100000
set_option maxHeartbeats 2000000
namespace Rg
open PySem PySem.Spec PyProof.Rows L2
theorem strTy (x : Str) : strIterType x = "str_ascii_iterator" ∨ strIterType x = "str_iterator" := by
  unfold strIterType
  split
  · exact .inl rfl
  · exact .inr rfl
theorem drawsStr {P : Program} {w : World} {A : Around} (hh : A.handled = none) (it : Addr) (x : Str) (t : Tok) {ty : String} (hty : ty = "str_ascii_iterator" ∨ ty = "str_iterator") :
    Draws P w A it [it] x.cps.size (fun i v => ∃ c u, x.cps[i]? = some c ∧ v = .str ⟨#[c]⟩ u) (fun i h => h.IsStrIter it ty x t i) := by
  rcases hty with rfl | rfl
  · exact Draws.strAscii hh it x t
  · exact Draws.strWide hh it x t
end Rg

set_option Elab.async false
set_option linter.all false
set_option maxRecDepth 100000
set_option maxHeartbeats 2000000
namespace Rg
open PySem PySem.Spec PyProof.Rows L2
structure Sm (n c : Nat) (d : PyData) : Prop where
  dp : d.depth ≤ n
  sh : d.showable = true
  nd : d.hasDict = false
  ln : d.shown.length ≤ c
theorem Sm.mono {n c n' c' : Nat} {d : PyData} (h : Sm n c d) (hn : n ≤ n') (hc : c ≤ c') : Sm n' c' d := ⟨Nat.le_trans h.dp hn, h.sh, h.nd, Nat.le_trans h.ln hc⟩
theorem sm_bool (b : Bool) : Sm 0 5 (.bool b) := ⟨Nat.le_refl _, rfl, rfl, by cases b <;> decide +kernel⟩
theorem textFrom_le : ∀ (ts : List Str) (k : Nat) (acc : Str), (textFrom k acc ts).length ≤ acc.length + piled ts
  | [], _, _ => Nat.le_add_right _ _
  | t :: r, k, acc => by
    have ih := textFrom_le r (k + 1) (acc ++ (if k > 0 then ", " else "" : String) ++ t)
    have e2 : ((if k > 0 then ", " else "" : String) : Str).length ≤ 2 := by split <;> decide +kernel
    show (textFrom (k + 1) (acc ++ (if k > 0 then ", " else "" : String) ++ t) r).length ≤ _
    rw [strLen_append, strLen_append] at ih
    rw [piled_cons]
    omega
theorem listText_le (ts : List Str) : (listText ts).length ≤ piled ts + 2 := by
  have h := textFrom_le ts 0 "["
  have e1 : (("[" : String) : Str).length = 1 := rfl
  have e2 : (("]" : String) : Str).length = 1 := rfl
  unfold listText
  rw [strLen_append, e2]
  omega
end Rg

set_option Elab.async false
set_option linter.all false
set_option maxRecDepth 100000
set_option maxHeartbeats 2000000
namespace Rg
open PySem PySem.Spec PyProof.Rows L2
structure FnG (P : Program) (w : World) (K : PySem.W.Frag) (mg : Str → Option Value) (base : Heap) (CX : CXT) (k : Nat) (f : Addr) (fd : FuncData) (ps : List Str) (sp : Sp) : Prop where
  len : ∀ vs H Q E, sp vs H Q E → vs.length = ps.length
  run : ∀ (A : Around) (outer : List Env) (s : Shared) (H : Hp) (args : Args) (us : List Value) (vs : List V) (Q : VK) (E : XK),
    Room k A → A.guards = some [] → Env0 P w K mg base A outer s H → BindsTo s fd args (ps.zip us) → Vals vs us → sp vs H Q E →
    codeAny (model P w) A (.call (.ref f) args) (CR CX outer P w H s Q E) s
theorem FnG.of {P : Program} {w : World} {K : PySem.W.Frag} {mg : Str → Option Value} {base : Heap} {CX : CXT} {k : Nat} {f : Addr} {fd : FuncData} {ps : List Str} {sp : Sp}
    (F : FnOk P w K mg base CX k f fd ps sp) : FnG P w K mg base CX k f fd ps sp :=
  ⟨F.len, fun A outer s H args us vs Q E hr _ e0 hb r h => F.run A outer s H args us vs Q E hr e0 hb r h⟩
section
variable {P : Program} {w : World} {K : PySem.W.Frag} {mg : Str → Option Value} {base : Heap}
theorem fn_ofG {CX : CXT} {k : Nat} {f : Addr} {name qual : Str} {params : Arguments} {body : List Stmt} {scope : Scope} {dV kV doc pm cdv ct oc : Value} {an od : Option Addr} {osl : Array (Option Value)} {N ps : List Str} {sp : Sp}
    (lk : K.lookup f = some ⟨oc, od, .func (PySem.W.fnOf name qual params body scope dV kV doc pm an cdv ct), osl⟩)
    (hcd : PySem.W.codeIn K cdv qual = true) (S : FnScope N ps scope) (len : ∀ vs H Q E, sp vs H Q E → vs.length = ps.length)
    (hbody : ∀ (A : Around) (outer : List Env) (s : Shared) (H : Hp) (vs : List V) (Q : VK) (E : XK), Room k (A.deeper (envOfC qual scope s.heap.objs.size f cdv)) → A.guards = some [] → sp vs H Q E →
      ∃ t, PSs (cxOf CX P w K mg base N qual scope f cdv A outer s H E) body t ∧ t { nx := fun _ H' => Q .non H', rt := Q } (start N vs) H) :
    FnG P w K mg base CX (k + 1) f (PySem.W.fnOf name qual params body scope dV kV doc pm an cdv ct) ps sp := by
  constructor
  · exact len
  · intro A outer s H args us vs Q E hr hgd e0 hb r hsp
    have kin : K.In s.heap := e0.mod.kin.keeps fun b o q => (e0.bs b o q).1
    have nol : s.heap.NoLimit := e0.mod.nolimit.keeps fun b o q => (e0.bs b o q).1
    have kinds : ∀ y ∈ ps.zip us, scope.names.lookup y.1 = some .local ∨ (scope.names.lookup y.1 = some .cell ∧ ((cellsFrom (s.heap.objs.size + 1) scope.names []).lookup y.1).isSome = true) := by
      rintro ⟨n, v⟩ hy
      have hp := S.par n (List.of_mem_zip hy).1
      exact hp.elim Or.inl fun c => Or.inr ⟨c, PySem.W.cellsFrom_some _ _ _ (.inl c)⟩
    refine codeAny_call_function hr.depth (kin _ _ lk) rfl S.co S.gen rfl (PySem.W.codeRec_of kin hcd) (hb _ _ _ _ ?_)
    refine wpAny_newFunctionEnv_cells S.kind kinds fun env he s1 x => ?_
    subst he
    refine ⟨nol.keeps x.toInCall.keep, codeAny_func ?_⟩
    obtain ⟨t, ht, hq⟩ := hbody A outer s H vs Q E (hr.deeper _) hgd hsp
    have J := inv_start (CX := CX) (E := E) S hr.hd e0 (len _ _ _ _ hsp) r x
    refine wpAny_mono (ht.run [] s1 _ H _ J hq) ?_ fun e s' z => z
    intro fl s' z
    cases fl with
    | ret u =>
      obtain ⟨v, σ', H', J', rv, q⟩ := z
      exact ⟨v, H', J'.os, J'.bare, J'.base, J'.hok, rv, q⟩
    | next =>
      obtain ⟨σ', H', J', q⟩ := z
      exact ⟨.non, H', J'.os, J'.bare, J'.base, J'.hok, rfl, q⟩
    | brk =>
      obtain ⟨_, _, _, q⟩ := z
      exact q.elim
    | cont =>
      obtain ⟨_, _, _, q⟩ := z
      exact q.elim
theorem FunD.okG {CX : CXT} {x qual : Str} {params : Arguments} {body : List Stmt} {scope : Scope} {dvs : List V} {kws : List (Str × V)} {f : Addr} {fd : FuncData} {N ps : List Str} {k : Nat} {sp : Sp}
    (F : FunD K x qual params body scope dvs kws f fd) (S : FnScope N ps scope) (len : ∀ vs H Q E, sp vs H Q E → vs.length = ps.length)
    (hbody : ∀ (cdv : Value) (A : Around) (outer : List Env) (s : Shared) (H : Hp) (vs : List V) (Q : VK) (E : XK), Room k (A.deeper (envOfC qual scope s.heap.objs.size f cdv)) → A.guards = some [] → sp vs H Q E →
      ∃ t, PSs (cxOf CX P w K mg base N qual scope f cdv A outer s H E) body t ∧ t { nx := fun _ H' => Q .non H', rt := Q } (start N vs) H) :
    FnG P w K mg base CX (k + 1) f fd ps sp := by
  obtain ⟨oc, od, dV, kV, doc, pm, an, cdv, ct, osl, rfl, lk, hcd, _, _⟩ := F.ex
  exact fn_ofG lk hcd S len fun A outer s H vs Q E hr hgd hsp => hbody cdv A outer s H vs Q E hr hgd hsp
end
section
variable {X : Cx} {CX : CXT} {k j : Nat} {sp : Sp} {E : XK} {x : Str} {p pos : Pos} {e : Expr} {es : List Expr} {t : TA}
end
theorem law_callG {P : Program} {w : World} {K : PySem.W.Frag} {mg mb : Str → Option Value} {k : Nat} {fa a : Addr} {fd : FuncData} {x : Str} {sp : Sp} {s1 : Shared} {vs : List Value} {ns : List Int}
    (KX : K.In s1.heap) (hns : s1.heap.Ns mainGlobals mg) (hb : s1.heap.Ns builtinsNs mb) (hbb : ∀ y : Str, y ≠ "__name__" → mb y = bootBuiltins y) (hlim : s1.heap.NoLimit) (hg : s1.gens = #[])
    (ha : s1.heap.get? a = some { cls := .type "list", data := .seq vs.toArray }) (hi : IntsAre vs ns) (hl : ns.length ≤ sizeLine) (hr : Room k callerA)
    (F : ∀ base : Heap, K.In base → base.Ns mainGlobals mg → FnG P w K mg base CX0 k fa fd [x] sp) (hbind : ∀ (s : Shared) (u : Value), BindsTo s fd ⟨[u], []⟩ [(x, u)])
    (hsp : ∀ H : Hp, Only H → SqL K H a (ns.map V.int) → sp [.ref a] H (fun v _ => v = .bl true) fun _ _ _ => False) :
    codeAny (model P w) callerA (.call (.ref fa) ⟨[.ref a], []⟩) (fun r s' => r = .ok (.ret (.bool true)) ∧ OldK s1.heap s'.heap ∧ s'.os = s1.os ∧ AllBare s'.gens) s1 := by
  have rv := vals_ints hi
  have lenV := hi.length
  have main : ∀ H : Hp, Only H → SqL K H a (ns.map V.int) → HOk P w H s1.heap → (∀ b, H b ≠ none → b = a ∧ K.lookup a = none) →
      codeAny (model P w) callerA (.call (.ref fa) ⟨[.ref a], []⟩) (fun r s' => r = .ok (.ret (.bool true)) ∧ OldK s1.heap s'.heap ∧ s'.os = s1.os ∧ AllBare s'.gens) s1 := by
    intro H hO hS hok hA
    have free : ∀ {b : Addr} {o : Obj}, s1.heap.get? b = some o → (∀ its n, o.data ≠ .seq its n) → H b = none := by
      intro b o e nd
      cases q : H b with
      | none => rfl
      | some u =>
        obtain ⟨rfl, _⟩ := hA b (by rw [q]; exact fun z => by cases z)
        rw [ha] at e
        cases e
        exact absurd rfl (nd _ _)
    have inB : ∀ {b : Addr} {o : Obj}, s1.heap.get? b = some o → H b = none → (hidT s1.heap H).get? b = some o := fun e n => hidT_get e n
    have nsB : ∀ {b : Addr} {m : Str → Option Value}, s1.heap.Ns b m → (hidT s1.heap H).Ns b m := by
      rintro b m ⟨o, es, ep, e, d, r⟩
      exact ⟨o, es, ep, inB e (free e fun its n z => by rw [d] at z; cases z), d, r⟩
    have KB : K.In (hidT s1.heap H) := by
      intro b o e
      refine inB (KX b o e) ?_
      cases q : H b with
      | none => rfl
      | some u =>
        obtain ⟨rfl, z⟩ := hA b (by rw [q]; exact fun z => by cases z)
        rw [z] at e
        cases e
    have mod : Mod K mg (hidT s1.heap H) := by
      obtain ⟨mc, h1, h2⟩ := hlim
      exact ⟨KB, nsB hns, ⟨mb, nsB hb, hbb⟩, mc, nsB h1, h2⟩
    have e0 : Env0 P w K mg (hidT s1.heap H) callerA [] s1 H :=
      { frames := rfl, mod := mod, bs := fun b o e => of_hidT e, bsz := Nat.le_of_eq (hidT_size _ _), funs := trivial, frf := fun b z => absurd (show b ∈ ([] : List Addr) from z) (by simp), hok := hok, bare := .of_eq hg }
    refine codeAny_mono ((F _ KB (nsB hns)).run callerA [] s1 H ⟨[.ref a], []⟩ [.ref a] [.ref a] _ _ hr rfl e0 (hbind s1 (.ref a)) (.cons rfl .nil) (hsp H hO hS)) ?_
    intro o s' h
    cases o with
    | error e => exact h.elim
    | ok fl =>
      cases fl with
      | next => exact h.elim
      | brk => exact h.elim
      | cont => exact h.elim
      | ret u =>
        obtain ⟨v, H', os, bare, un, hok', r', q⟩ := h
        obtain rfl : v = .bl true := q
        obtain rfl : u = Value.bool true := r'
        refine ⟨rfl, OldK.of_keep fun b ob e => ?_, os, bare⟩
        rcases hO b with z | ⟨o2, xs, z⟩
        · exact un.keep b ob e z (fun y => absurd (show b ∈ ([] : List Addr) from y) (by simp)) (by simp)
        · have e1 := (hok b _ z).1
          have e2 := (hok' b _ (un.frzs b o2 _ z)).1
          rw [e] at e1
          cases e1
          exact e2
  cases hk : K.lookup a with
  | some o =>
    have e := KX a o hk
    rw [ha] at e
    cases e
    refine main (fun _ => none) (fun _ => .inl rfl) (.inr ⟨_, vs.toArray, _, hk, rfl, rfl, rfl, ?_, ?_⟩) (fun b u z => ?_) fun b z => absurd rfl z
    · rw [List.size_toArray, lenV]
      exact hl
    · simpa using rv
    · exact nomatch (show (none : Option HO) = some u from z)
  | none =>
    let o0 : Obj := { cls := .type "list", data := .seq vs.toArray }
    let H0 : Hp := fun b => if b = a then some (.frz o0 (.lst (ns.map V.int))) else none
    have at0 : H0 a = some (.frz o0 (.lst (ns.map V.int))) := if_pos rfl
    have off0 : ∀ b, b ≠ a → H0 b = none := fun b hb => if_neg hb
    refine main H0 (fun b => ?_) (.inl (.inr ⟨o0, at0⟩)) (fun b u z => ?_) fun b z => ⟨?_, hk⟩
    · by_cases hb : b = a
      · exact .inr ⟨o0, _, hb ▸ at0⟩
      · exact .inl (off0 b hb)
    · by_cases hb : b = a
      · subst hb
        rw [at0] at z
        cases z
        exact ⟨ha, by rw [List.length_map]; exact hl, vs, _, rv, ha⟩
      · rw [off0 b hb] at z
        cases z
    · by_cases hb : b = a
      · exact hb
      · exact absurd (off0 b hb) z
theorem walk_ofG {l : PySem.W.OpenLaw} {n k : Nat} {q : Program} {loose : List Str} {XP : (Str → Option Value) → Heap → Prop} {YP : World → Heap → Prop} {d : DefRec} {x : Str}
    (hn : l.most = some n) (hn2 : n ≤ sizeLine) (hdf : d.params.defaults = []) (hr : Room k callerA)
    (F : ∀ (w : World) (mg : Str → Option Value) (fa : Addr) (h : Heap), YP w h → h.Ns mainGlobals mg → mg d.name = some (.ref fa) →
      ∃ (K : PySem.W.Frag) (fd : FuncData) (sp : Sp), K.In h ∧ (∀ (s : Shared) (u : Value), BindsTo s fd ⟨[u], []⟩ [(x, u)]) ∧
        (∀ (H : Hp) (a : Addr) (ns : List Int), ns.length ≤ n → Only H → SqL K H a (ns.map V.int) → sp [.ref a] H (fun v _ => v = .bl true) fun _ _ _ => False) ∧
        ∀ base : Heap, K.In base → base.Ns mainGlobals mg → FnG l.prog w K mg base CX0 k fa fd [x] sp) :
    PySem.W.WalkO q loose XP YP l.row.toRowW d [] (fun f vs => PySem.call f vs) := by
  refine Att.attach_call hn hdf ?_
  intro w s0 s1 mg mb fa o pm cd doc a vs ns G Y ho hd hcd hmg hobj hints hlen hg
  obtain ⟨K, fd, sp, KX, hb, hsp, hF⟩ := F w mg fa _ Y G.T.g hmg
  exact law_callG KX G.T.g G.T.b G.T.builtins G.T.nolimit hg hobj hints (Nat.le_trans hlen hn2) hr hF hb fun H hO hS => hsp H a ns hlen hO hS
end Rg

set_option Elab.async false
set_option linter.all false
set_option maxRecDepth 100000
set_option maxHeartbeats 2000000
namespace Rg
open PySem PySem.Spec PyProof.Rows L2
structure MetX (P : Program) (w : World) (K : PySem.W.Frag) (mg : Str → Option Value) (base : Heap) (CX : CXT) (k : Nat) (C : Addr) (m : Str) (sp : Sp) : Prop where
  ex : ∃ (f : Addr) (fd : FuncData) (ps : List Str), Meth K C m f ∧ FnOk P w K mg base CX k f fd ps sp ∧ Binds K fd ps []
section
variable {X : Cx} {CX : CXT} {k j : Nat} {C f a : Addr} {fd : FuncData} {ps : List Str} {sp : Sp} {E : XK} {m : Str} {p pos apos : Pos} {o e : Expr} {es : List Expr} {ta tb : TE} {t : TA}
/-- the callee runs, one C level deeper -/
theorem run_fn1 {pins : List (Addr × Obj)} {σ : L2.St} {H : Hp} {s : Shared} {Q : VK} {us : List Value} {vs : List V} (F : FnOk X.prog X.w X.K X.mg X.base CX k f fd ps sp) (hr : Room (k + 1) X.A) (hb : Binds X.K fd ps []) (hx : Passes CX X E)
    (I : Inv X pins σ H s) (r : Vals vs us) (h : sp vs H Q E) : wpAny (model X.prog X.w) X.A.in1 (call (.ref f) us) (EP X pins σ Q) X.xe s := by
  have hl : us.length = ps.length := r.length.symm.trans (F.len _ _ _ _ h)
  have bt := hb s us I.kIn (by rw [List.append_nil]; exact hl)
  rw [List.append_nil] at bt
  refine wpAny_call (codeAny_mono (F.run X.A.in1 X.stack s H ⟨us, []⟩ us vs Q E hr.in1 I.env0.in1 bt r h) fun z s' hq => ?_)
  cases z with
  | error e => exact hx pins σ H s e s' I hq
  | ok fl =>
    cases fl with
    | ret u => exact I.after hq
    | next => exact hq.elim
    | brk => exact hq.elim
    | cont => exact hq.elim
theorem run_fn0 {pins : List (Addr × Obj)} {σ : L2.St} {H : Hp} {s : Shared} {Q : VK} {us : List Value} {vs : List V} (F : FnOk X.prog X.w X.K X.mg X.base CX k f fd ps sp) (hr : Room k X.A) (hb : Binds X.K fd ps []) (hx : Passes CX X E)
    (I : Inv X pins σ H s) (r : Vals vs us) (h : sp vs H Q E) : wpAny (model X.prog X.w) X.A (call (.ref f) us) (EP X pins σ Q) X.xe s :=
  run_fn F hr hb .nil hx I r (by rw [List.append_nil]; exact h)
theorem inst_of {pins : List (Addr × Obj)} {σ : L2.St} {H : Hp} {s : Shared} {dx : Addr} {fs : List (Str × V)} (I : Inv X pins σ H s) (ea : H a = some (.ins C dx fs)) : ∃ ox od, PySem.W.InstAt s.heap a ox C od := by
  obtain ⟨mA, O, _, _, _, _⟩ := ins_get I.hok ea
  obtain ⟨od, J, _⟩ := O.look
  exact ⟨_, _, J⟩
/-- o[x] -/
def rIxO (C : Addr) (sp : Sp) (E : XK) : R2 := fun x y H Q => ∃ a dx fs, x = .ref a ∧ H a = some (.ins C dx fs) ∧ sp [.ref a, y] H Q E
theorem pe_ixO {a b : Expr} (c : MetX X.prog X.w X.K X.mg X.base CX k C "__getitem__" sp) (hfn : ∀ f, Meth X.K C "__getitem__" f → PySem.W.fnIn X.K f = true) (hr : Room j X.A) (hk : k + 1 ≤ j) (hx : Passes CX X E) (ha : PE X a ta) (hb : PE X b tb)
    (hsl : ∀ x i, subscripted b true (.ref x) i = runValue (.builtin "lifetime.subscript" ⟨[.ref x, i], []⟩) := by intro _ _; rfl) : PE X (.Subscript a b pos) (tOp (rIxO C sp E) ta tb) := by
  refine ⟨fun pins s σ H Q I h => ?_⟩
  refine Subscript_ (binT ha hb I h fun v u s2 x y H2 I2 rx ry q => ?_)
  obtain ⟨f, fd, ps, hm, F, b⟩ := c.ex
  obtain ⟨a, dx, fs, rfl, ea, q⟩ := q
  obtain rfl := rx
  obtain ⟨ox, od, J⟩ := inst_of I2 ea
  obtain ⟨mf, hf⟩ := I2.fr
  exact PySem.W.sub_K hf I2.mod.kin J hm.at_ (hfn f hm) hm.fn (run_fn1 (vs := [.ref a, y]) F (hr.mono hk) b hx I2 (.cons rfl (.cons ry .nil)) q) (hsl _ _)
/-- o.m(e, ..) by name -/
theorem pe_mX {pl : Sem Bool} (he : PE X o ta) (c : Cls X.K C) (hm : MetX X.prog X.w X.K X.mg X.base CX k C m sp) (hr : Room j X.A) (hk : k ≤ j) (hx : Passes CX X E) (ha : PA X (e :: es) t)
    (hst : starEach (e :: es) X.env = (false, eval e X.env) :: starEach es X.env := by rfl) (hpl : (backTo pos (starEach es X.env)).any (·.1) = false := by rfl)
    (ht : eval (.Call (.Attribute o m apos) (e :: es) [] pos) X.env = (do
      let ov ← eval o X.env
      standAt apos.atName
      let fx ← holding [ov] (getMethod ov m pl)
      callWith pos fx.1 fx.2 (backTo pos (starEach (e :: es) X.env)) (backToKw pos (keywordEach [] X.env))) := by rfl) :
    PE X (.Call (.Attribute o m apos) (e :: es) [] pos) (tMeth C m sp [] E ta t) := by
  obtain ⟨f, fd, ps, hm', F, b⟩ := hm.ex
  exact pe_meth (pl := pl) he c hm' F (hr.mono hk) b .nil hx ha hst hpl ht
end
end Rg

set_option Elab.async false
set_option linter.all false
set_option maxRecDepth 100000
set_option maxHeartbeats 4000000
namespace Rg
open PySem PySem.Spec PyProof.Rows L2
def hasK (acc : List Key) (k : Key) : Bool := acc.any fun j => decide (j = k)
theorem hasK_iff {acc : List Key} {k : Key} : hasK acc k = true ↔ k ∈ acc := by
  unfold hasK
  rw [List.any_eq_true]
  exact ⟨fun ⟨j, h1, h2⟩ => of_decide_eq_true h2 ▸ h1, fun h => ⟨k, h, decide_eq_true rfl⟩⟩
def metStep (acc : List Key) (k : Key) : List Key := if hasK acc k = true then acc else acc ++ [k]
def met (ks : List Key) : List Key := ks.foldl metStep []
theorem met_snoc (ks : List Key) (k : Key) : met (ks ++ [k]) = metStep (met ks) k := by
  unfold met
  rw [List.foldl_append]
  rfl
theorem metStep_len (acc : List Key) (k : Key) : (metStep acc k).length = if hasK acc k = true then acc.length else acc.length + 1 := by
  unfold metStep
  split
  · rfl
  · rw [List.length_append]
    rfl
theorem metStep_has (acc : List Key) (k j : Key) : hasK (metStep acc k) j = (hasK acc j || decide (j = k)) := by
  unfold metStep
  split
  · rename_i h
    by_cases e : j = k
    · rw [e, h]
      rfl
    · rw [decide_eq_false e, Bool.or_false]
  · unfold hasK
    rw [List.any_append]
    show (_ || (decide (k = j) || false)) = _
    rw [Bool.or_false]
    by_cases e : j = k
    · rw [e]
    · rw [decide_eq_false e, decide_eq_false (Ne.symm e)]
theorem met_fold_le : ∀ (ks acc : List Key), (ks.foldl metStep acc).length ≤ acc.length + ks.length
  | [], acc => Nat.le_add_right _ _
  | k :: r, acc => by
    have ih := met_fold_le r (metStep acc k)
    have e := metStep_len acc k
    show (r.foldl metStep (metStep acc k)).length ≤ _
    rw [List.length_cons]
    split at e <;> omega
theorem met_len_le (ks : List Key) : (met ks).length ≤ ks.length := by
  have := met_fold_le ks []
  simpa [met] using this
theorem take_snoc {ks : List Key} {i : Nat} {k : Key} (h : ks[i]? = some k) : ks.take (i + 1) = ks.take i ++ [k] := by
  rw [List.take_add_one, h]
  rfl
theorem setOf_to {P : Program} {w : World} {h : Heap} {a : Addr} {S S' : Key → Bool} {n n' : Nat} (x : h.SetOf (mixKind P w) a S n) (e : ∀ k, S k = S' k) (en : n = n') : h.SetOf (mixKind P w) a S' n' := by
  obtain rfl : S = S' := funext e
  subst en
  exact x
/-- a set that holds the met ones -/
def SetIs (P : Program) (w : World) (h : Heap) (a : Addr) (ks : List Key) : Prop := h.SetOf (mixKind P w) a (hasK (met ks)) (met ks).length
theorem SetIs.kept {P : Program} {w : World} {h h' : Heap} {a : Addr} {ks : List Key} (x : SetIs P w h a ks) (k : ∀ o, h.get? a = some o → h'.get? a = some o) : SetIs P w h' a ks := by
  obtain ⟨o, es, ep, t, ho, r⟩ := x
  exact ⟨o, es, ep, t, k o ho, r⟩
section
variable {P : Program} {w : World} {A : Around}
theorem setLoop {R : Result → Shared → Prop} {I S : Addr} {fp wr : List Addr} {G : Array GenState → Array GenState → Prop} {n : Nat} {Pv : Nat → Value → Prop} {St : Nat → Shared → Prop} (W : WalksS P w A.in1 I fp wr G n Pv St) (hS : S ∉ fp)
    (ks : List Key) (hn : ks.length = n) (h64 : n < 64) (hv : ∀ i v, Pv i v → ∃ k, ks[i]? = some k ∧ keyIs k v = true) :
    ∀ (m i : Nat) (s : Shared), n - i = m → i ≤ n → St i s → SetIs P w s.heap S (ks.take i) → (∀ s', Moved (S :: wr) G s s' → SetIs P w s'.heap S ks → R (.ok (.ret .none)) s') →
      codeAny (model P w) A (.builtin "set.update.loop" ⟨[.ref S, .ref I], []⟩) R s := by
  have nw : S ∉ wr := fun z => hS (W.sub _ z)
  have up : ∀ b ∈ wr, b ∈ S :: wr := fun b z => List.mem_cons_of_mem _ z
  intro m
  induction m with
  | zero =>
    intro i s hm hi st x hR
    have ei : i = n := by omega
    rw [ei] at st x
    refine codeAny_builtin PyProof.Rows.F.entry_set_update_loop ?_
    rw [Around.under_plainId PyProof.Rows.F.plain_set_update_loop _]
    show wpAny _ A.in1 (pyNext (.ref I) >>= _) _ _ s
    refine wpAny_bind (W.done s _ _ st fun s' mv => ?_)
    rw [← hn, List.take_length] at x
    exact wpAny_pure (hR s' (mv.mono up) (x.kept fun o q => mv.heap S o nw q))
  | succ m ih =>
    intro i s hm hi st x hR
    have lt : i < n := by omega
    refine codeAny_builtin PyProof.Rows.F.entry_set_update_loop ?_
    rw [Around.under_plainId PyProof.Rows.F.plain_set_update_loop _]
    show wpAny _ A.in1 (pyNext (.ref I) >>= _) _ _ s
    refine wpAny_bind (W.item i s _ _ lt st fun v s' hP st' mv => ?_)
    obtain ⟨k, ek, kv⟩ := hv i v hP
    have sc : v.scannable = true := by rcases keyIs_shape kv with ⟨_, _, rfl, rfl⟩ | ⟨_, _, rfl, rfl⟩ <;> rfl
    have x1 : SetIs P w s'.heap S (ks.take i) := x.kept fun o q => mv.heap S o nw q
    show wpAny _ A.in1 (holding [v] (setAdd S v) >>= _) _ _ s'
    refine wpAny_bind (wpAny_holding ?_)
    unfold setAdd
    refine wpAny_holding (wpAny_bind ((mixKind P w).pyHash (k := k) kv ?_))
    have few : (met (ks.take i)).length + 1 < scanBound := by
      have := met_len_le (ks.take i)
      rw [List.length_take] at this
      unfold scanBound
      omega
    refine wpAny_setAddHashed_of (knd := mixKind P w) (s := { s' with toks := s'.toks + 1 }) kv sc x1 few fun h2 sb x2 => ?_
    have x3 : SetIs P w h2 S (ks.take (i + 1)) := by
      refine setOf_to x2 (fun j => ?_) ?_
      · rw [take_snoc ek, met_snoc, metStep_has]
      · rw [take_snoc ek, met_snoc, metStep_len]
    refine wpAny_pure ⟨plainId_quiet PyProof.Rows.F.plain_set_update_loop _, ih (i + 1) _ (by omega) lt (W.frame _ s' _ _ st' (Nat.le_succ _) fun b hb o e => ?_) x3 fun s'' mv2 x4 => ?_⟩
    · have nb : b ≠ S := fun z => hS (z ▸ hb)
      exact (sb.2 b nb).trans e
    · refine hR s'' (Moved.trans W.gtrans ((mv.mono up).then_heap (Nat.le_succ _) fun b o hb e => ?_) mv2) x4
      have nb : b ≠ S := fun z => hb (z ▸ List.mem_cons_self)
      exact (sb.2 b nb).trans e

abbrev set0 (led : Bool) : Obj := { cls := .type "set", dict := none, data := .set #[] 0 (.fresh 0 0 led) }
set_option maxHeartbeats 3200000 in
theorem call_setK {E : Value → Shared → Prop} {s : Shared} {l : Addr} {us : List Value} {n0 : Nat} {ks : List Key} {Q : Value → Shared → Prop} (hh : A.handled = none) (hl : s.heap.IsList l us.toArray) (hk : Vals (ks.map kV) us) (h64 : ks.length < 64)
    (h : ∀ (h' : Heap) (tk : Nat), SetIs P w h' s.heap.objs.size ks → (∀ b o, s.heap.get? b = some o → h'.get? b = some o) → Q (.ref s.heap.objs.size) { s with heap := h', toks := tk }) :
    wpAny (model P w) A (call (.type "set") [.ref l]) Q E s := by
  have len : us.length = ks.length := by rw [← hk.length, List.length_map]
  obtain ⟨c, tl, hmro⟩ := PySem.F.called_set.mro
  have hmade := PySem.F.called_set.made
  have hsub := PySem.F.called_set.sub
  have ht := PySem.F.called_set.notType
  have hc := PySem.F.called_set.canCreate
  have hct := PySem.F.typeCall_set_1 (.ref l)
  refine wpAny_call (codeAny_of_tree ?_)
  show wpAny _ _ (callAny (.type "set") _) _ _ _
  refine wpAny_pure ⟨Code.quiet_builtin _ (by decide +kernel), codeAny_builtin PySem.F.entry_type_call ?_⟩
  rw [Around.under_plain (weight_type_call_type "set" [.ref l] []) rfl]
  repeat (any_goals (first | assumption | wp_step))
  refine codeAny_mono (code_set_new_1 (.ref l) (E := E) (Q₁ := fun ob s1 => ∃ led : Bool, ob = .ref s.heap.objs.size ∧ s1 = { s with heap := s.heap.push (set0 led) }) fun led => ⟨led, rfl, rfl⟩) fun r s1 hr => ?_
  cases r with
  | error e => exact hr
  | ok fl =>
    cases fl with
    | ret ob =>
      obtain ⟨led, rfl, rfl⟩ := hr
      have atS : (s.heap.push (set0 led)).get? s.heap.objs.size = some (set0 led) := Heap.get?_push_size _ rfl
      have tyS : Shared.TypeIs { s with heap := s.heap.push (set0 led) } (.ref s.heap.objs.size) "set" := ⟨_, atS, rfl⟩
      have hli := PySem.F.called_set.init.lookup
      have hbi := PySem.F.called_set.init.bind (.ref s.heap.objs.size)
      repeat (any_goals (first | assumption | wp_step))
      refine codeAny_mono (codeAny_call_builtin (R := wants (fun r s2 => r = .none ∧ ∃ h' tk, s2 = { s with heap := h', toks := tk } ∧ SetIs P w h' s.heap.objs.size ks ∧ (∀ b o, s.heap.get? b = some o → h'.get? b = some o)) E)
        PySem.F.called_set.init.plain PySem.F.entry_set_init (check_set_init_1 tyS ?_)) fun r2 s2 hr2 => ?_
      · obtain ⟨⟨ocls, odict, odata, oslots⟩, hol, hcl, nl, hdl⟩ := hl
        obtain rfl : ocls = _ := hcl
        obtain rfl : odata = _ := hdl
        have hol2 := Heap.get?_push_of_some (h := s.heap) (set0 led) hol
        have a1 := PySem.F.sub_list_set
        have a2 := PySem.F.sub_list_frozenset
        have a3 : (Value.type "list" == Value.type "dict") = false := by decide
        have hl2 : (s.heap.push (set0 led)).IsList l us.toArray := ⟨_, hol2, rfl, nl, rfl⟩
        unfold Builtin.«set.__init__» noKeywords Builtin.Frozenset.updateFrom
        generalize hPI : pyIter = PI
        wp_walk
        subst hPI
        refine wpAny_pyIter_list hl2 (wpAny_bind (wpAny_runValue ?_))
        have lS : l < s.heap.objs.size := Heap.lt_size hol
        have sz1 : (s.heap.push (set0 led)).objs.size = s.heap.objs.size + 1 := Heap.size_push _ _
        have h3 : A.in1.in1.in1.handled = none := by simp [hh]
        have nI : l ≠ (s.heap.push (set0 led)).objs.size := by rw [sz1]; exact Nat.ne_of_lt (Nat.lt_succ_of_lt lS)
        have nS : s.heap.objs.size ∉ [(s.heap.push (set0 led)).objs.size, l] := by
          rw [sz1]
          simp only [List.mem_cons, List.not_mem_nil, or_false, not_or]
          exact ⟨Nat.ne_of_lt (Nat.lt_succ_self _), Nat.ne_of_gt lS⟩
        have val : ∀ (i : Nat) (v : Value), us.toArray[i]? = some v → ∃ k, ks[i]? = some k ∧ keyIs k v = true := by
          intro i v hv
          have hv' : us[i]? = some v := by simpa using hv
          have hi : i < ks.length := by
            have := (List.getElem?_eq_some_iff.mp hv').1
            omega
          refine ⟨ks[i], List.getElem?_eq_getElem hi, ?_⟩
          obtain ⟨u, e1, rv⟩ := hk.get (i := i) (x := kV ks[i]) (by rw [List.getElem?_map, List.getElem?_eq_getElem hi]; rfl)
          rw [hv'] at e1
          cases e1
          cases hki : ks[i] with
          | inl n =>
            rw [hki] at rv
            obtain ⟨t, rfl⟩ := rv
            exact keyIs_int n t
          | inr z =>
            rw [hki] at rv
            obtain ⟨t, rfl⟩ := rv
            exact keyIs_str z t
        refine setLoop ((Walks.list h3 _ l nI us.toArray).toS) nS ks (by rw [List.size_toArray, len]) (by rw [List.size_toArray, len]; exact h64) val (us.toArray.size - 0) 0 _ rfl (Nat.zero_le _) ⟨⟨_, Heap.get?_push_size _ rfl, rfl, rfl⟩, hl2.push _⟩ ?hS0 ?hR
        case hS0 =>
          have got := Heap.get?_push_of_some { cls := .type "list_iterator", data := .fields #[.ref l, .int 0 0] } atS
          refine setOf_to (S := fun _ => false) (n := 0) ⟨_, #[], 0, _, got, ⟨rfl, rfl, rfl⟩, rfl, ?_, ?_, by decide, rfl, rfl⟩ (fun _ => rfl) rfl
          · intro e he
            exact absurd he (by simp)
          · intro k
            simp
        case hR =>
          intro s' mv x
          obtain ⟨h', g', d', tk', os'⟩ := s'
          obtain rfl : g' = s.gens := mv.gens
          obtain rfl : d' = s.drawn := mv.drawn
          obtain rfl : os' = s.os := mv.os
          show wpAny _ _ _ _ _ _
          refine wpAny_pure ?_
          show wpAny _ _ (ret Value.none) _ _ _
          refine wpAny_pure ⟨rfl, h', tk', rfl, x, fun b o e => ?_⟩
          have lb := Heap.lt_size e
          refine mv.heap b o ?_ (Heap.get?_push_of_some _ (Heap.get?_push_of_some _ e))
          rw [sz1]
          simp only [List.mem_cons, List.not_mem_nil, or_false, not_or]
          exact ⟨Nat.ne_of_lt lb, Nat.ne_of_lt (Nat.lt_succ_of_lt lb)⟩
      · cases r2 with
        | error e => exact hr2
        | ok fl2 =>
          cases fl2 with
          | ret r =>
            obtain ⟨rfl, h', tk, rfl, x, keep⟩ := hr2
            repeat (any_goals (first | assumption | wp_step))
            exact h _ _ x keep
          | _ => exact hr2.elim
    | _ => exact hr.elim
end
def tLenSetK (K : PySem.W.Frag) (ta : TE) : TE := fun σ H Q => ta σ H fun x H1 => ∃ (l : Addr) (ks : List Key), x = V.ref l ∧ SqL K H1 l (ks.map kV) ∧ ks.length < 64 ∧ Q (.int ((met ks).length : Nat)) H1
theorem pe_lenSetK {X : Cx} {a : Expr} {ta : TE} {p p2 q pos : Pos} (hc : X.calm = true) (hg : Gl X "len") (hm : X.mg "len" = none) (hg2 : Gl X "set") (hm2 : X.mg "set" = none) (ha : PE X a ta)
    (na : starEach [a] X.env = (false, eval a X.env) :: starEach [] X.env := by rfl) : PE X (.Call (.Name "len" p) [.Call (.Name "set" p2) [a] [] q] [] pos) (tLenSetK X.K ta) := by
  constructor
  intro pins s σ H Q I h
  refine Call_ (ld_blt I hg hm PySem.boot_len (PyProof.Rows.callWith_builtin1 (PyProof.Rows.args_cons ?_ rfl) rfl rfl))
  refine Call_ (ld_blt I hg2 hm2 PyProof.Rows.boot_set (PyProof.Rows.callWith_type1 (PyProof.Rows.args_cons (thn (ha.run pins s σ H _ I h) fun v s1 z => PyProof.Rows.args_nil ?_) na) na rfl))
  obtain ⟨x, H1, I1, r1, l, ks, rfl, hq, h64, q1⟩ := z
  obtain rfl := r1
  obtain ⟨its, r, pl, hz⟩ := I1.list hq
  refine call_setK (n0 := 0) (I1.ok.hd hc) pl.isList r h64 fun h' tk x keep => PyProof.Rows.args_nil ?_
  obtain ⟨o, es, ep, t, ho, hex, hd, _, _, _, hf, hn⟩ := x
  have few := met_len_le ks
  refine call_len_set ho hex hd hf (by rw [hn] <;> omega) ⟨.int (met ks).length, H1, (I1.kept (t' := tk) keep).tok _, ⟨_, by rw [hn]⟩, q1⟩
end Rg

set_option Elab.async false
set_option linter.all false
set_option maxRecDepth 100000
set_option maxHeartbeats 2000000
namespace Rg
open PySem PySem.Spec PyProof.Rows L2
def sgn (c : Nat) : Str := ⟨#[c]⟩
theorem call_listS {X : Cx} (hc : X.calm = true) : CallR X (.type "list") (fun xs H Q => ∃ z : Str, xs = [.str z] ∧ z.length ≤ sizeLine ∧ ∀ l, H l = none → Q (.ref l) (upd H l (.lst (z.cps.toList.map fun c => V.str (sgn c))))) := by
  intro pins s σ H xs us Q I r h
  obtain ⟨z, rfl, hz, q⟩ := h
  cases r with
  | cons r1 r2 =>
    cases r2
    obtain ⟨t, rfl⟩ := r1
    have hz2 : z.cps.size ≤ sizeLine := hz
    refine call_list_str (I.ok.hd hc) z t (hn := hz2) fun h' tk acc c' hk hS hacc => ?_
    obtain ⟨e1, e2⟩ := hacc
    have vals : Vals (z.cps.toList.map fun c => V.str (sgn c)) acc.toList := by
      have gen : ∀ (l : List Nat) (us : List Value), l.length = us.length → (∀ (i : Nat) (u : Value), us[i]? = some u → ∃ (c : Nat) (k : Tok), l[i]? = some c ∧ u = Value.str ⟨#[c]⟩ k) → Vals (l.map fun c => V.str (sgn c)) us := by
        intro l
        induction l with
        | nil =>
          intro us hl _
          cases us with
          | nil => exact .nil
          | cons u r => cases hl
        | cons c l ih =>
          intro us hl hu
          cases us with
          | nil => cases hl
          | cons u r =>
            obtain ⟨c', k, h1, h2⟩ := hu 0 u rfl
            simp at h1
            subst h1
            refine .cons ⟨k, h2⟩ (ih r (Nat.succ.inj hl) fun i u' e => ?_)
            obtain ⟨c2, k2, h3, h4⟩ := hu (i + 1) u' (by simpa using e)
            exact ⟨c2, k2, by simpa using h3, h4⟩
      refine gen _ _ (by simp [e1]) fun i u e => ?_
      obtain ⟨c, k, h1, h2⟩ := e2 i u (by simpa using e)
      exact ⟨c, k, by simpa using h1, h2⟩
    refine ⟨.ref s.heap.objs.size, _, I.laid (t' := tk) hk (Nat.le_refl _) ?_, rfl, q _ (I.hok.fresh (Nat.le_refl _))⟩
    exact ⟨by simpa using hz2, acc.toList, c', vals, by simpa using hS⟩
end Rg

set_option Elab.async false
set_option linter.all false
set_option maxRecDepth 100000
set_option maxHeartbeats 2000000
namespace Rg
open PySem PySem.Spec PyProof.Rows L2
def SqA (K : PySem.W.Frag) (H : Hp) (a : Addr) (xs : List V) : Prop := SqL K H a xs ∨ SqT K H a xs
theorem SqA.mono {K : PySem.W.Frag} {H H' : Hp} {a : Addr} {xs : List V} (h : SqA K H a xs) (e : Same H H') : SqA K H' a xs := h.elim (fun z => .inl (e.seq z)) fun z => .inr (sqT_mono e z)
theorem SqA.len {K : PySem.W.Frag} {H : Hp} {a : Addr} {xs : List V} (h : SqA K H a xs) : SqL K H a xs ∨ SqT K H a xs := h
def SeqR (K : PySem.W.Frag) (a : Addr) (R : It → Hp → Prop) (H1 : Hp) : Prop := ((∃ xs, SqL K H1 a xs) ∧ R (Itl K a) H1) ∨ ((∃ xs, SqT K H1 a xs) ∧ R (Itt K a) H1)
def iSeq (K : PySem.W.Frag) (tl : TE) : TI := fun σ H R => tl σ H fun x H1 => ∃ a, x = .ref a ∧ SeqR K a R H1
theorem pi_seq {X : Cx} {tg l : Expr} {tl : TE} (hl : PE X l tl) : PI X tg l (iSeq X.K tl) := by
  constructor
  intro pins s σ H R I h
  refine thn (hl.run pins s σ H _ I h) ?_
  rintro v s1 ⟨x, H1, I1, r1, a, rfl, q⟩
  obtain rfl := r1
  have fp : ∀ b ∈ [s1.heap.objs.size], FpOk X pins H1 b := fun b hb => by
    obtain rfl : b = s1.heap.objs.size := by simpa using hb
    exact I1.fpOk (Nat.le_refl _) (I1.hok.fresh (Nat.le_refl _))
  have kp : ∀ ob : Obj, Inv X pins σ H1 { s1 with heap := s1.heap.push ob } := fun ob => I1.kept (t' := s1.toks) fun b o e => Heap.get?_push_of_some _ e
  rcases q with ⟨⟨xs, hq⟩, q⟩ | ⟨⟨xs, hq⟩, q⟩
  · obtain ⟨its, rv, p, hz⟩ := I1.list hq
    exact wpAny_pyIter_list p.isList ⟨_, [s1.heap.objs.size], _, _, H1, rfl, kp _, turn_list a _, ⟨_, Heap.get?_push_size _ rfl, rfl, rfl⟩, fp, q⟩
  · obtain ⟨its, rv, p, hz⟩ := I1.tuple hq
    exact wpAny_pyIter_tuple (show s1.heap.IsTuple a its.toArray from p) ⟨_, [s1.heap.objs.size], _, _, H1, rfl, kp _, turn_tuple a _, ⟨_, Heap.get?_push_size _ rfl, rfl, rfl⟩, fp, q⟩
theorem iSeq_of {K : PySem.W.Frag} {D H : Hp} {a : Addr} {xs : List V} {R : It → Hp → Prop} (h : SqA K D a xs) (sd : Same D H) (k : ∀ J, Walk J xs.length (fun H' => Same D H') (YAt xs) → R J H) : SeqR K a R H := by
  rcases h with h | h
  · exact .inl ⟨⟨xs, sd.seq h⟩, k _ (walk_list.mono (fun H' e => e.seq h) fun _ _ _ _ _ _ y => y)⟩
  · exact .inr ⟨⟨xs, sqT_mono sd h⟩, k _ (walk_tup.mono (fun H' e => sqT_mono e h) fun _ _ _ _ _ _ y => y)⟩
theorem ty_list {K : PySem.W.Frag} {H : Hp} {a : Addr} {xs : List V} (h : SqL K H a xs) : TyX K H (.ref a) (.type "list") := by
  rcases h with (h | ⟨o, h⟩) | ⟨o, its, n, h1, h2, _⟩
  · exact .base (.lst h)
  · exact .base (.frz h)
  · exact .kList h1 h2
theorem ty_tup {K : PySem.W.Frag} {H : Hp} {a : Addr} {xs : List V} (h : SqT K H a xs) : TyX K H (.ref a) (.type "tuple") := by
  rcases h with (h | ⟨o, h⟩) | ⟨o, its, n, h1, h2, _⟩
  · exact .base (.tup h)
  · exact .fTuple h
  · exact .kTuple h1 h2
theorem kit_lt {K : PySem.W.Frag} {t : String} {r : Bool} (h1 : kitB t "list" = some false ∧ kitB t "tuple" = some r ∨ kitB t "list" = some true ∧ r = true) : PySem.W.kitAny K (.type t) [.type "list", .type "tuple"] = some r := by
  rcases h1 with ⟨a, b⟩ | ⟨a, b⟩
  · refine kitAny_cons (kit_ty a) (fun _ => kitAny_cons (kit_ty b) (fun z => ?_) fun z => z) fun z => by cases z
    rw [z]
    exact kitAny_nil
  · exact kitAny_cons (kit_ty a) (fun z => by cases z) fun _ => b
theorem isSeq_kit {K : PySem.W.Frag} {H : Hp} {a : Addr} {xs : List V} (h : SqA K H a xs) : ∃ t, TyX K H (.ref a) t ∧ PySem.W.kitAny K t [.type "list", .type "tuple"] = some true := by
  rcases h with h | h
  · exact ⟨_, ty_list h, kit_lt (.inr ⟨by decide +kernel, rfl⟩)⟩
  · exact ⟨_, ty_tup h, kit_lt (.inl ⟨by decide +kernel, by decide +kernel⟩)⟩
theorem cls_lt : Paired ClsV [V.ty "list", V.ty "tuple"] [.type "list", .type "tuple"] := .cons (.ty _) (.cons (.ty _) .nil)
theorem Step.of_same {W : Addr → Prop} {D H H' : Hp} (s : Same D H) (e : Same H H') : Step W D H D H' := by
  refine ⟨Same.refl D, s.trans e, fun b o _ q => e b o q, fun b q => ?_, fun _ _ d => d⟩
  cases h : H b with
  | none => exact absurd h q
  | some o =>
    rw [e b o h]
    exact fun z => by cases z
theorem Same.new {H : Hp} {p : Addr} {o : HO} (h : H p = none) : Same H (upd H p o) := same_new h
/-- the list being made in a comprehension changes: what stood before it stands -/
theorem Same.put {H0 H : Hp} {D : Addr} {o : HO} (e : Same H0 H) (h : H0 D = none) : Same H0 (upd H D o) := fun b u q => by
  rw [upd_ne (ne_of_none q h)]
  exact e b u q
abbrev letters : List Nat := ("abcdefghijklmnopqrstuvwxyz" : Str).cps.toList
structure GoodSigns (z : Str) : Prop where
  pos : 1 ≤ z.cps.toList.length
  few : z.cps.toList.length ≤ 4
  nd : z.cps.toList.Nodup
  let_ : ∀ c ∈ z.cps.toList, c ∈ letters
theorem len_tl (z : Str) : z.length = z.cps.toList.length := by simp [Str.length]
theorem size_tl (z : Str) : z.cps.size = z.cps.toList.length := by simp
theorem get_tl {z : Str} {i : Nat} : z.cps[i]? = z.cps.toList[i]? := by simp
theorem small_line {n : Nat} (h : n ≤ 100000) : n ≤ sizeLine := Nat.le_trans h (by decide)
theorem take_more {α : Type} {l : List α} {i : Nat} {x : α} (h : l[i]? = some x) : l.take (i + 1) = l.take i ++ [x] := by
  rw [List.take_add_one, h]
  rfl
theorem mem_of_at {α : Type} {l : List α} {i : Nat} {x : α} (h : l[i]? = some x) : x ∈ l := List.mem_of_getElem? h
end Rg

set_option Elab.async false
set_option linter.all false
set_option maxRecDepth 100000
set_option maxHeartbeats 2000000
namespace Rg
open PySem PySem.Spec PyProof.Rows L2
section
variable {X : Cx} (K : PySem.W.Frag)
theorem ix_listK (h : X.K = K := by rfl) : IxR X (rIxL K) := h ▸ ix_list
theorem sl_listK (h : X.K = K := by rfl) : SlR X (rSlL K) := h ▸ sl_list
theorem sl_tupK (h : X.K = K := by rfl) : SlR X (rSlT K) := h ▸ sl_tup
def rLenQ : List V → Hp → VK → Prop := fun xs H Q => ∃ p ys, xs = [.ref p] ∧ (SqL K H p ys ∨ SqT K H p ys) ∧ Q (.int ys.length) H
theorem call_len_seqK (h : X.K = K := by rfl) : CallR X (.builtin "len") (rLenQ K) := h ▸ call_len_seq
def rTupleQ : List V → Hp → VK → Prop := fun xs H Q => ∃ p ys, xs = [.ref p] ∧ ((SqL K H p ys ∧ ∀ l, H l = none → Q (.ref l) (upd H l (.tup ys))) ∨ (SqT K H p ys ∧ Q (.ref p) H))
theorem call_tuple_ofK (h : X.K = K := by rfl) : CallR X (.type "tuple") (rTupleQ K) := h ▸ call_tuple_of
def rListQ : List V → Hp → VK → Prop := fun xs H Q => ∃ p ys, xs = [.ref p] ∧ (SqL K H p ys ∨ SqT K H p ys) ∧ ∀ l, H l = none → Q (.ref l) (upd H l (.lst ys))
theorem call_list_ofK (h : X.K = K := by rfl) : CallR X (.type "list") (rListQ K) := h ▸ call_list_of
theorem cr_allK (hc : X.calm = true) (h : X.K = K := by rfl) : CallR X (.builtin "all") (rAll K) := h ▸ cr_all hc
theorem cr_anyK (hc : X.calm = true) (h : X.K = K := by rfl) : CallR X (.builtin "any") (rAny K) := h ▸ cr_any hc
theorem cr_sumK (hc : X.calm = true) (h : X.K = K := by rfl) : CallR X (.builtin "sum") (rSum K) := h ▸ cr_sum hc
theorem call_isiK' (h : X.K = K := by rfl) : CallR X (.builtin "isinstance") (rIsi K) := h ▸ call_isi
theorem call_isiTK (h : X.K = K := by rfl) : CallR X (.builtin "isinstance") (rIsiT K) := h ▸ call_isiT
theorem op_eqDK (hu : X.A.units + 64 < cLine) (h : X.K = K := by rfl) : OpR X (compareOp .Eq) (rEqD K) := h ▸ op_eqD hu
theorem op_neDK (hu : X.A.units + 64 < cLine) (h : X.K = K := by rfl) : OpR X (compareOp .NotEq) (rNeD K) := h ▸ op_neD hu
theorem op_catTK (h : X.K = K := by rfl) : OpR X (binaryOp .Add) (rCatT K) := h ▸ op_catT
theorem pi_seqK {tg l : Expr} {tl : TE} (hl : PE X l tl) (h : X.K = K := by rfl) : PI X tg l (iSeq K tl) := h ▸ pi_seq hl
theorem pg_tupK {es : List Expr} {k : Nat} {pos : Pos} {t : TGs} {n : Nat} (hc : X.calm = true) (ht : PGs X es t) (h : X.K = K := by rfl)
    (hn : (assignEach es X.env).length = n := by rfl) (hst : (assignEach es X.env).findIdx? (·.1) = none := by rfl) : PG X (.Tuple es k pos) (gTup K n t) := h ▸ pg_tup hc ht hn hst
theorem pe_fldK {e : Expr} {f : Str} {pos : Pos} {ta : TE} (he : PE X e ta) (h : X.K = K := by rfl) (hb : attributeBase e f X.env (eval e X.env) = eval e X.env := by rfl) : PE X (.Attribute e f pos) (tFld K ta f) := h ▸ pe_fld he hb
theorem pe_lenSetKK {a : Expr} {ta : TE} {p p2 q pos : Pos} (hc : X.calm = true) (hg : Gl X "len") (hm : X.mg "len" = none) (hg2 : Gl X "set") (hm2 : X.mg "set" = none) (ha : PE X a ta) (h : X.K = K := by rfl)
    (na : starEach [a] X.env = (false, eval a X.env) :: starEach [] X.env := by rfl) : PE X (.Call (.Name "len" p) [.Call (.Name "set" p2) [a] [] q] [] pos) (tLenSetK K ta) := h ▸ pe_lenSetK hc hg hm hg2 hm2 ha na
end
end Rg

set_option Elab.async false
set_option linter.all false
set_option maxRecDepth 100000
namespace Rg
open PySem PySem.Spec PyProof.Rows L2
theorem hu1 {n : Nat} (h : n + 64 < cLine) : n + 1 < cLine := by omega
section
variable {J : It} {n : Nat} {G : Hp → Prop} {Y : Nat → Hp → V → Hp → Prop}
end
section
variable {X : Cx}
end
end Rg

set_option Elab.async false
set_option linter.all false
set_option maxRecDepth 100000
namespace Rg
open PySem PySem.Spec PyProof.Rows L2
structure MkX (P : Program) (w : World) (K : PySem.W.Frag) (mg : Str → Option Value) (base : Heap) (CX : CXT) (k : Nat) (x : Str) (C : Addr) (sp : Sp) : Prop where
  ex : ∃ (f : Addr) (fd : FuncData) (ps : List Str), Mk K C f ∧ FnOk P w K mg base CX k f fd ps sp ∧ mg x = some (.ref C) ∧ Binds K fd ps []
section
variable {X : Cx} {CX : CXT} {k j : Nat} {C : Addr} {sp : Sp} {E : XK} {x : Str} {p pos : Pos} {e : Expr} {es : List Expr} {t : TA}
theorem pe_mkX (c : MkX X.prog X.w X.K X.mg X.base CX k x C sp) (hr : Room j X.A) (hk : k + 1 ≤ j) (hg : Gl X x) (hx : Passes CX X E) (ha : PA X (e :: es) t)
    (hdb : (x == ("__debug__" : Str)) = false := by decide) (he : starEach (e :: es) X.env = (false, eval e X.env) :: starEach es X.env := by rfl) (hpl : (backTo pos (starEach es X.env)).any (·.1) = false := by rfl) :
    PE X (.Call (.Name x p) (e :: es) [] pos) (tMake C sp [] E t) := by
  obtain ⟨f, fd, ps, M, F, hm, b⟩ := c.ex
  exact pe_make M F (hr.mono hk) hg hm b .nil hx ha hdb he hpl
end
theorem Step.fresh {W W' : Addr → Prop} {D H D' H' : Hp} (s : Step W D H D' H') (h : ∀ b, W b → H b = none) : Step W' D H D' H' := by
  obtain ⟨a, b, c, d, e⟩ := s
  refine ⟨a, b, fun x o _ q => c x o (fun z => ?_) q, d, e⟩
  rw [h x z] at q
  cases q
theorem join_signs : ∀ cs : List Nat, TL.joinL [] (cs.map fun c => [c]) = cs
  | [] => rfl
  | [c] => rfl
  | c :: d :: r => by
    have e := join_signs (d :: r)
    show [c] ++ ([] ++ TL.joinL [] ((d :: r).map fun c => [c])) = _
    rw [e]
    rfl
theorem join_sgn (cs : List Nat) : Txt.join "" (cs.map sgn) = SX.S cs := by
  have e : cs.map sgn = (cs.map fun c => [c]).map SX.S := by
    rw [List.map_map]
    rfl
  have e0 : ("" : Str) = SX.S [] := rfl
  rw [e, e0, SX.join_S, join_signs]
theorem sum_sgn (cs : List Nat) : ((cs.map sgn).map (·.length)).sum = cs.length := by
  induction cs with
  | nil => rfl
  | cons c r ih =>
    rw [List.map_cons, List.map_cons, List.sum_cons, ih, List.length_cons]
    show 1 + r.length = _
    omega
end Rg

set_option Elab.async false
set_option linter.all false
set_option maxRecDepth 100000
set_option maxHeartbeats 2000000
namespace Rg
open PySem PySem.Spec PyProof.Rows L2
abbrev ZO (h : Heap) (z ti to : Addr) (f0 : Value) (b : Bool) : Prop := h.get? z = some { cls := .type "zip", dict := none, data := .fields #[f0, .bool b, .bool false, .ref ti, .ref to], slots := #[] }
def ZF (f0 : Value) : Prop := f0 = .none ∨ ∃ T : Addr, f0 = rawInt T
structure ZSt (h : Heap) (z ti to i1 i2 : Addr) : Prop where
  obj : ∃ f0 b, ZO h z ti to f0 b ∧ ZF f0
  its : IsTupOf2 h ti (.ref i1) (.ref i2)
  own : ∃ p q, IsTupOf2 h to p q
section
variable {P : Program} {w : World} {A : Around} {E : Value → Shared → Prop} {s : Shared} {z ti to i1 i2 : Addr}
variable {fa fb : List Addr} {na nb i : Nat} {Pa Pb : Nat → Value → Prop} {Sa Sb : Nat → Heap → Prop}
end
section
variable {P : Program} {w : World} {K : PySem.W.Frag} {tg : Expr} {J : It} {z ti to i1 i2 : Addr} {fa fb : List Addr} {st1 st2 : Nat → Heap → Prop}
end
abbrev SrcV := Hp → List V → Prop
def srcT (K : PySem.W.Frag) (a : Addr) : SrcV := fun H xs => SqT K H a xs
def srcS (z : Str) : SrcV := fun _ xs => xs = z.cps.toList.map fun c => V.str (sgn c)
/-- what an iterator at it over a source draws -/
structure ZOne (P : Program) (w : World) (K : PySem.W.Frag) (A : SrcV) (it : Addr) (fp : List Addr) (st : Nat → Heap → Prop) : Prop where
  o : ∀ i h, st i h → ∃ o, h.get? it = some o ∧ ∀ v, o.data ≠ .cell v
  k : ∀ i h h', st i h → (∀ o, h.get? it = some o → h'.get? it = some o) → st i h'
  d : ∀ (X : Cx), X.prog = P → X.w = w → X.K = K → X.calm = true → ∀ (pins : List (Addr × Obj)) (s : Shared) (σ : L2.St) (H : Hp), Inv X pins σ H s → ∀ xs, A H xs →
    ∃ (Pa : Nat → Value → Prop) (Sa : Nat → Heap → Prop), Draws P w X.A.in1 it (it :: fp) xs.length Pa Sa ∧ (∀ i h, Sa i h → st i h) ∧ (∀ i, st i s.heap → Sa i s.heap) ∧ ∀ i x, Pa i x → ∃ v, RelV v x ∧ ∀ ys, A H ys → ys[i]? = some v
theorem zone_tup {P : Program} {w : World} {K : PySem.W.Frag} {a it : Addr} (ne : a ≠ it) : ZOne P w K (srcT K a) it [a] (fun i h => h.IsTupleIter it a i) where
  o := by
    rintro i h ⟨o, ho, _, hd⟩
    exact ⟨o, ho, fun v q => by rw [hd] at q; cases q⟩
  k := fun i h h' st kk => st.at kk
  d := by
    intro X hP hw hK hc pins s σ H I xs hx
    subst hP hw hK
    obtain ⟨us, rv, hT, _⟩ := I.tuple hx
    have el : us.toArray.size = xs.length := by rw [List.size_toArray, rv.length]
    refine ⟨_, _, el ▸ Draws.tuple (show X.A.in1.handled = none from I.ok.hd hc) it a ne us.toArray, fun i h q => q.1, fun i q => ⟨q, hT⟩, fun i x hi => ?_⟩
    have hi' : us[i]? = some x := by simpa using hi
    obtain ⟨hl, ex⟩ := List.getElem?_eq_some_iff.mp hi'
    have hl2 : i < xs.length := by rw [rv.length]; exact hl
    obtain ⟨u, hu, ru⟩ := rv.get (List.getElem?_eq_getElem hl2)
    rw [hi'] at hu
    cases hu
    refine ⟨xs[i], ru, fun ys hy => ?_⟩
    rw [I.tuple_inj hy hx]
    exact List.getElem?_eq_getElem hl2
theorem zone_str {P : Program} {w : World} {K : PySem.W.Frag} {z : Str} {t : Tok} {it : Addr} : ZOne P w K (srcS z) it [] (fun i h => h.IsStrIter it (strIterType z) z t i) where
  o := by
    rintro i h ⟨o, ho, _, hd⟩
    exact ⟨o, ho, fun v q => by rw [hd] at q; cases q⟩
  k := by
    rintro i h h' ⟨o, ho, r⟩ kk
    exact ⟨o, kk o ho, r⟩
  d := by
    intro X hP hw hK hc pins s σ H I xs hx
    subst hP hw hK
    have el : z.cps.size = xs.length := by
      rw [show xs = _ from hx, List.length_map]
      simp
    refine ⟨_, _, el ▸ drawsStr (show X.A.in1.handled = none from I.ok.hd hc) it z t (strTy z), fun i h q => q, fun i q => q, fun i x hi => ?_⟩
    obtain ⟨c, u, hc', rfl⟩ := hi
    refine ⟨.str (sgn c), ⟨u, rfl⟩, fun ys hy => ?_⟩
    rw [show ys = _ from hy, List.getElem?_map, show z.cps.toList[i]? = some c by rw [← get_tl]; exact hc']
    rfl
section
variable {X : Cx} {e e2 : Expr} {ta : TA} {p pos : Pos} {tg : Expr} (K : PySem.W.Frag)
end
end Rg

set_option Elab.async false
set_option linter.all false
set_option maxRecDepth 100000
set_option maxHeartbeats 2000000
namespace Rg
open PySem PySem.Spec PyProof.Rows L2
section
variable {X : Cx} {CX : CXT} {k j : Nat} {C f a : Addr} {fd : FuncData} {ps : List Str} {sp : Sp} {E : XK} {m : Str} {p pos apos : Pos} {o e : Expr} {es : List Expr} {ta tb : TE} {t : TA}
def rCmpO (K : PySem.W.Frag) (C : Addr) (sp : Sp) (E : XK) : R2 := fun x y H Q => ∃ a dx fs t, x = .ref a ∧ H a = some (.ins C dx fs) ∧ TyX K H y t ∧ PySem.W.notFirst K C t = true ∧ sp [x, y] H Q E
theorem op_cmpO {op : CmpOp} (c : MetX X.prog X.w X.K X.mg X.base CX k C m sp) (hr : Room j X.A) (hk : k ≤ j) (hx : Passes CX X E) (hop : ∀ a b, compareOp op a b = richCompare op a b := by intro _ _; rfl) (hn : (cmpInfo op).2.1 = m := by decide +kernel) : OpR X (compareOp op) (rCmpO X.K C sp E) := by
  intro pins s σ H x y v u Q I rx ry h
  obtain ⟨f, fd, ps, hm, F, b⟩ := c.ex
  obtain ⟨a, dx, fs, t, rfl, ea, ty, nf, q⟩ := h
  obtain rfl := rx
  obtain ⟨ox, od, J⟩ := inst_of I ea
  obtain ⟨mf, hf⟩ := I.fr
  obtain ⟨Pk, kit, hk1, _⟩ := kit_of I ry ty
  rw [hop]
  refine PySem.W.cmp_K (op := op) (tb := t) hr.units0 hf I.mod.kin J (kit.ty _ _ I.kIn hk1) nf (by rw [hn]; exact hm.at_) hm.fn (wpAny_mono (run_fn0 (vs := [.ref a, y]) F (hr.mono hk) b hx I (.cons rfl (.cons ry .nil)) q) ?_ fun _ _ z => z)
  rintro u s' ⟨v, H', I', rv, q'⟩
  exact SlX.cmpback rv ⟨v, H', I', rv, q'⟩
end
end Rg

set_option Elab.async false
set_option linter.all false
set_option maxRecDepth 100000
set_option maxHeartbeats 2000000
namespace Rg
open PySem PySem.Spec PyProof.Rows L2
section
variable {X : Cx} {k v : Expr} {pos : Pos} {tk tv : TE}
end
section
variable {X : Cx} (K : PySem.W.Frag)
theorem op_inDK (hu : X.A.units + 65 < cLine) (h : X.K = K := by rfl) : OpR X (compareOp .In) (rInD K) := h ▸ op_inD hu
theorem op_notInDK (hu : X.A.units + 65 < cLine) (h : X.K = K := by rfl) : OpR X (compareOp .NotIn) (rNotInD K) := h ▸ op_notInD hu
end
theorem hu65 {k : Nat} {A : Around} (r : Room k A) : A.units + 65 < cLine := by
  have := r.un
  omega
end Rg

set_option Elab.async false
set_option linter.all false
set_option maxRecDepth 100000
set_option maxHeartbeats 2000000
namespace Rg
open PySem PySem.Spec PyProof.Rows L2
def srcL (K : PySem.W.Frag) (a : Addr) : SrcV := fun H xs => SqL K H a xs
theorem zone_list {P : Program} {w : World} {K : PySem.W.Frag} {a it : Addr} (ne : a ≠ it) : ZOne P w K (srcL K a) it [a] (fun i h => h.IsListIter it a i) where
  o := by
    rintro i h ⟨o, ho, _, hd⟩
    exact ⟨o, ho, fun v q => by rw [hd] at q; cases q⟩
  k := fun i h h' st kk => st.at kk
  d := by
    intro X hP hw hK hc pins s σ H I xs hx
    subst hP hw hK
    obtain ⟨us, rv, hT, _⟩ := I.list hx
    have el : us.toArray.size = xs.length := by rw [List.size_toArray, rv.length]
    refine ⟨_, _, el ▸ Draws.list (show X.A.in1.handled = none from I.ok.hd hc) it a ne us.toArray, fun i h q => q.1, fun i q => ⟨q, hT.isList⟩, fun i x hi => ?_⟩
    have hi' : us[i]? = some x := by simpa using hi
    obtain ⟨hl, ex⟩ := List.getElem?_eq_some_iff.mp hi'
    have hl2 : i < xs.length := by rw [rv.length]; exact hl
    obtain ⟨u, hu, ru⟩ := rv.get (List.getElem?_eq_getElem hl2)
    rw [hi'] at hu
    cases hu
    refine ⟨xs[i], ru, fun ys hy => ?_⟩
    rw [I.list_inj hy hx]
    exact List.getElem?_eq_getElem hl2
/-- v is a list, a tuple or a text; A: what it holds -/
inductive SrcOf (K : PySem.W.Frag) (H : Hp) : V → SrcV → List V → Prop
  | lst {a : Addr} {xs : List V} : SqL K H a xs → SrcOf K H (.ref a) (srcL K a) xs
  | tup {a : Addr} {xs : List V} : SqT K H a xs → SrcOf K H (.ref a) (srcT K a) xs
  | str {z : Str} : SrcOf K H (.str z) (srcS z) (z.cps.toList.map fun c => V.str (sgn c))
theorem src_begins {X : Cx} {pins : List (Addr × Obj)} {σ : L2.St} {H : Hp} {s : Shared} {v : V} {u : Value} {A : SrcV} {xs : List V} (I : Inv X pins σ H s) (r : RelV v u) (h : SrcOf X.K H v A xs) :
    ∃ (o : Obj) (Hh : Heap → Prop), Begins u o Hh ∧ Hh s.heap ∧ ∀ (it : Addr), s.heap.objs.size ≤ it → ∃ (fp : List Addr) (st : Nat → Heap → Prop), (∀ c ∈ fp, c < s.heap.objs.size) ∧ ZOne X.prog X.w X.K A it fp st ∧ ∀ g : Heap, g.get? it = some o → st 0 g := by
  cases h with
  | @lst a xs h =>
    obtain rfl : u = Value.ref a := r
    obtain ⟨us, _, hT, _⟩ := I.list h
    have la : a < s.heap.objs.size := by obtain ⟨_, _, q, _⟩ := hT; exact Heap.lt_size q
    exact ⟨_, _, begins_list a us.toArray, hT.isList, fun it hi => ⟨[a], _, fun c hc => by rw [List.mem_singleton.mp hc]; exact la, zone_list (Nat.ne_of_lt (Nat.lt_of_lt_of_le la hi)), fun g e => ⟨_, e, rfl, rfl⟩⟩⟩
  | @tup a xs h =>
    obtain rfl : u = Value.ref a := r
    obtain ⟨us, _, hT, _⟩ := I.tuple h
    have la : a < s.heap.objs.size := by obtain ⟨_, q, _⟩ := hT; exact Heap.lt_size q
    exact ⟨_, _, begins_tuple a us.toArray, hT, fun it hi => ⟨[a], _, fun c hc => by rw [List.mem_singleton.mp hc]; exact la, zone_tup (Nat.ne_of_lt (Nat.lt_of_lt_of_le la hi)), fun g e => ⟨_, e, rfl, rfl⟩⟩⟩
  | @str z =>
    obtain ⟨t, rfl⟩ : ∃ t, u = Value.str z t := r
    exact ⟨_, _, begins_text z t, trivial, fun it hi => ⟨[], _, fun c hc => by simp at hc, zone_str (t := t), fun g e => ⟨_, e, rfl, rfl⟩⟩⟩
section
variable {X : Cx} {e e2 : Expr} {ta : TA} {p pos : Pos} {tg : Expr} (K : PySem.W.Frag)
end
def Itn (A : SrcV) : It := ⟨fun i H => ∃ xs x, A H xs ∧ xs[i]? = some x, fun i H v H' => ∃ T x, v = .ref T ∧ H T = none ∧ H' = upd H T (.tup [.int (i : Nat), x]) ∧ ∀ xs, A H xs → xs[i]? = some x, fun i H => ∃ xs, A H xs ∧ i = xs.length⟩
theorem walk_enumA {A : SrcV} {xs : List V} : Walk (Itn A) xs.length (fun H => A H xs) (YPair (fun i => some (.int (i : Nat))) (fun i => xs[i]?)) := by
  refine ⟨fun i H hi q => ⟨xs, xs[i], q, List.getElem?_eq_getElem hi⟩, fun H q => ⟨xs, q, rfl⟩, fun i H v H' hi q y => ?_⟩
  obtain ⟨T, x, h1, h2, h3, h4⟩ := y
  exact ⟨T, _, x, h1, h2, h3, rfl, h4 xs q⟩
theorem turn_enumA {P : Program} {w : World} {K : PySem.W.Frag} {elts : List Expr} {kk : Nat} {tpos : Pos} {A : SrcV} {e it : Addr} {fp : List Addr} {st : Nat → Heap → Prop} (z : ZOne P w K A it fp st) (hne : e ≠ it) (hef : e ∉ fp) :
    Turn P w K (.Tuple elts kk tpos) (Itn A) [e, it] e (fun i h => (∃ old, IsEnum h e it ((i : Nat) : Int) old) ∧ st i h) where
  mem := List.mem_cons_self
  obj := by
    rintro i h ⟨⟨old, he⟩, hs⟩ b hb
    have hb' : b = e ∨ b = it := by simpa using hb
    rcases hb' with rfl | rfl
    · exact ⟨_, he, fun v q => nomatch q⟩
    · exact z.o i h hs
  keep := by
    rintro i h h' ⟨⟨old, he⟩, hs⟩ kk
    exact ⟨⟨old, kk e (by simp) _ he⟩, z.k i h h' hs (kk it (by simp))⟩
  item := by
    intro X hP hw hK hc i pins s σ H E I hf st' hg
    obtain ⟨⟨old, he⟩, hit⟩ := st'
    obtain ⟨xs, x0, hx, ex⟩ := hg
    obtain ⟨Pa, Sa, Da, a1, a2, a3⟩ := z.d X hP hw hK hc pins s σ H I xs hx
    subst hP hw hK
    have hel : e < s.heap.objs.size := Heap.lt_size he
    have hil : it < s.heap.objs.size := by
      obtain ⟨_, q, _⟩ := z.o i _ hit
      exact Heap.lt_size q
    refine wpAny_pyNext_enum_itemD Da he (a2 i hit) (List.getElem?_eq_some_iff.mp ex).1 hne (fun h => (List.mem_cons.mp h).elim hne hef) fun x h' tk hx' ho hit' hT hsz hk => ?_
    obtain ⟨v, rv, hv⟩ := a3 i x hx'
    refine ⟨_, rfl, wpAny_letOwnedTupleGo_enum (s := { s with heap := h', toks := tk + 1 }) ho fun h2 he2 sb => ?_⟩
    have hT2 := (sb.2 _ (Nat.ne_of_gt hel)).trans hT
    have obj : ObjOk X.prog X.w (upd H s.heap.objs.size (.tup [.int (i : Nat), v])) h2 s.heap.objs.size (.tup [.int (i : Nat), v]) :=
      ⟨(by show 2 ≤ sizeLine; decide), [.int i tk, x], .cons ⟨tk, rfl⟩ (.cons rv .nil), _, hT2, rfl, _, rfl⟩
    have kept : ∀ b o, b ∉ [e, it] → s.heap.get? b = some o → h2.get? b = some o := fun b o hb q => by
      have h1 : b ≠ e := fun z => hb (by simp [z])
      have h3 : b ≠ it := fun z => hb (by simp [z])
      exact (sb.2 b h1).trans (hk b o h1 h3 q)
    have J := I.turnedNew (t' := tk + 1) kept hf (Nat.le_refl _) obj
    refine ⟨.ref s.heap.objs.size, _, J, rfl, ⟨_, v, rfl, I.hok.fresh (Nat.le_refl _), rfl, hv⟩, ⟨⟨x, ?_⟩, ?_⟩, fun b hb => ?_⟩
    · have e1 : ((i + 1 : Nat) : Int) = (i : Int) + 1 := by omega
      rw [e1]
      exact he2
    · exact z.k _ _ _ (a1 _ _ hit') fun o q => (sb.2 it (Ne.symm hne)).trans q
    · have hlt : b < s.heap.objs.size := by
        have hb' : b = e ∨ b = it := by simpa using hb
        rcases hb' with rfl | rfl
        · exact hel
        · exact hil
      rw [upd_ne (Nat.ne_of_lt hlt)]
      exact (hf b hb).1
  done := by
    intro X hP hw hK hc i pins s σ H E I hf st' hg
    obtain ⟨⟨old, he⟩, hit⟩ := st'
    obtain ⟨xs, hx, rfl⟩ := hg
    obtain ⟨Pa, Sa, Da, a1, a2, a3⟩ := z.d X hP hw hK hc pins s σ H I xs hx
    subst hP hw hK
    obtain ⟨f0, f1, f2, f3, f4, f5⟩ := hf it (by simp)
    exact wpAny_pyNext_enum_endD Da he (a2 _ hit) fun h' eb => ⟨rfl, I.turned (t' := s.toks) (fun b o hb q => eb b o hb q) f0 f1 f3 f4 f5⟩
  self := fun A i s Q E st h => let ⟨⟨_, he⟩, _⟩ := st; wpAny_pyIter_enum he h
set_option maxHeartbeats 1000000 in
theorem meets_enumerate_new1 {v : Value} {o : Obj} {H : Heap → Prop} (B : Begins v o H) :
    Meets (Builtin.«enumerate.__new__» ⟨[.type "enumerate", v], []⟩) (fun _ R s => H s.heap ∧
      R (.ok (.ret (.ref (s.heap.push o).objs.size))) { s with heap := (s.heap.push o).push { cls := .type "enumerate", data := .fields #[.none, .bool false, .ref s.heap.objs.size, rawInt 0, .none, .none] } }) :=
  .of_wp fun prog w A R s h => by
    obtain ⟨hp, g, d, tk, os⟩ := s; obtain ⟨h1, h⟩ := h
    have hsub := sub_enumerate
    have q1 : ∀ {A' : Around} {E : Value → Shared → Prop} {Q : Value → Shared → Prop}, Q (.ref hp.objs.size) ⟨hp.push o, g, d, tk, os⟩ → wpAny (model prog w) A' (pyIter v) Q E ⟨hp, g, d, tk, os⟩ :=
      fun q => B.iter prog w _ _ ⟨hp, g, d, tk, os⟩ _ h1 q
    wp_walk using q1
    refine wpAny_stack_any fun st => wpAny_pure ?_
    split
    · rename_i c _ _ _ _ _
      cases (c == Value.type "enumerate")
      · wp_walk using q1
        exact ⟨_, rfl, h⟩
      · wp_walk using q1
        exact ⟨_, rfl, h⟩
    · wp_walk using q1
      exact ⟨_, rfl, h⟩
theorem enum_begins1 {prog : Program} {w : World} {A : Around} {E : Value → Shared → Prop} {s : Shared} {v : Value} {o : Obj} {H : Heap → Prop} {Q : Value → Shared → Prop} (B : Begins v o H) (h1 : H s.heap)
    (h : ∀ h', IsEnum h' (s.heap.objs.size + 1) s.heap.objs.size 0 .none → h'.get? s.heap.objs.size = some o → h'.objs.size = s.heap.objs.size + 2 →
      (∀ b o, s.heap.get? b = some o → h'.get? b = some o) → Q (.ref (s.heap.objs.size + 1)) { s with heap := h' }) :
    wpAny (model prog w) A (call (.type "enumerate") [v]) Q E s := by
  refine callType_new F.called_enumerate (by decide) (F.typeCall_enumerate_1 _) (F.newCall_enumerate_1 _) (fun obj => F.args_object_init_2 obj _) F.entry_enumerate_new
    (meets_enumerate_new1 B) ⟨h1, ?_⟩
  have hz : (s.heap.push o).objs.size = s.heap.objs.size + 1 := Heap.size_push ..
  show _ ∧ _
  rw [hz]
  have he : IsEnum ((s.heap.push o).push { cls := .type "enumerate", data := .fields #[.none, .bool false, .ref s.heap.objs.size, rawInt 0, .none, .none] }) (s.heap.objs.size + 1) s.heap.objs.size 0 .none := by
    have := Heap.get?_push_size (s.heap.push o) (o := { cls := .type "enumerate", data := .fields #[.none, .bool false, .ref s.heap.objs.size, rawInt 0, .none, .none] }) rfl
    rw [hz] at this; exact this
  refine ⟨⟨_, he, rfl⟩, h _ he (Heap.get?_push_of_some _ (Heap.get?_push_size _ B.free)) (by rw [Heap.size_push, hz]) fun b o x => Heap.get?_push_of_some _ (Heap.get?_push_of_some _ x)⟩
section
variable {X : Cx} {e : Expr} {ta : TA} {p pos tpos : Pos} {elts : List Expr} {kk : Nat} (K : PySem.W.Frag)
def iEnumA (ta : TA) : TI := fun σ H R => ta σ H fun vs H1 => ∃ v A xs, vs = [v] ∧ SrcOf K H1 v A xs ∧ R (Itn A) H1
theorem pi_enumA (hg : Gl X "enumerate") (hm : X.mg "enumerate" = none) (ha : PA X [e] ta) (h : X.K = K := by rfl) (hs : starEach [e] X.env = [(false, eval e X.env)] := by rfl) :
    PI X (.Tuple elts kk tpos) (.Call (.Name "enumerate" p) [e] [] pos) (iEnumA K ta) := by
  subst h
  refine ⟨fun pins s σ H R I h => ?_⟩
  refine Call_ (ld_blt I hg hm boot_enumerate (PyProof.Rows.callWith_type1 (thn (ha.run pos pins s σ H _ I h) fun us s1 z1 => ?_) hs rfl))
  obtain ⟨vs, H1, I1, r1, v, A, xs, rfl, hx, q⟩ := z1
  cases r1 with
  | cons r rr =>
    cases rr
    obtain ⟨o1, P1, B1, h1, k1⟩ := src_begins I1 r hx
    refine enum_begins1 B1 h1 fun h' he hit hsz hk => wpAny_pyIter_enum he ?_
    have I2 : Inv X pins σ H1 { s1 with heap := h' } := I1.kept (t' := s1.toks) hk
    obtain ⟨f1, st1, l1, z1, s1'⟩ := k1 s1.heap.objs.size (Nat.le_refl _)
    refine ⟨s1.heap.objs.size + 1, [s1.heap.objs.size + 1, s1.heap.objs.size], _, _, H1, rfl, I2, turn_enumA (e := s1.heap.objs.size + 1) z1 (Nat.succ_ne_self _) (fun hc => absurd (l1 _ hc) (Nat.not_lt.mpr (Nat.le_succ _))), ⟨⟨.none, he⟩, s1' h' hit⟩, fun b hb => ?_, q⟩
    have hb' : b = s1.heap.objs.size + 1 ∨ b = s1.heap.objs.size := by simpa using hb
    have hle : s1.heap.objs.size ≤ b := by
      rcases hb' with z | z <;> rw [z]
      · exact Nat.le_add_right _ _
      · exact Nat.le_refl _
    exact I1.fpOk hle (I1.hok.fresh hle)
end
end Rg

set_option Elab.async false
set_option linter.all false
set_option maxRecDepth 100000
set_option maxHeartbeats 2000000
namespace Rg
open PySem PySem.Spec PyProof.Rows L2
mutual
inductive NkV (H : Hp) : V → NestedKey → Prop
  | non : NkV H .non .none
  | int (i : Int) : NkV H (.int i) (.num i)
  | str (x : Str) : NkV H (.str x) (.text x)
  | tup {a : Addr} {vs : List V} {ks : List NestedKey} : H a = some (.tup vs) → NkA H vs ks → NkV H (.ref a) (.tup ks)
inductive NkA (H : Hp) : List V → List NestedKey → Prop
  | nil : NkA H [] []
  | cons {v : V} {vs : List V} {k : NestedKey} {ks : List NestedKey} : NkV H v k → NkA H vs ks → NkA H (v :: vs) (k :: ks)
end
theorem nk_mono {H H' : Hp} (e : Same H H') {v : V} {k : NestedKey} (h : NkV H v k) : NkV H' v k :=
  NkV.rec (motive_1 := fun v k _ => NkV H' v k) (motive_2 := fun vs ks _ => NkA H' vs ks) .non .int .str (fun h _ i => .tup (e _ _ h) i) .nil (fun _ _ i j => .cons i j) h
abbrev NX := List (NestedKey × Addr × V)
def NRel : NX → List (NestedKey × Addr × Value) → Prop := Paired fun x y => x.1 = y.1 ∧ x.2.1 = y.2.1 ∧ RelV x.2.2 y.2.2
/-- what is true of the object -/
def nestP (P : Program) (w : World) (a : Addr) (xs : NX) (h : Heap) : Prop := (a == sysModules) = false ∧ xs.length ≤ sizeLine ∧ ∃ ys, NRel xs ys ∧ (ys.map (·.1)).Nodup ∧ ∃ o es ep, h.get? a = some o ∧ o.ExactDict ∧ o.data = .dict es ep ∧ es.toList = ys.map (entryOfKey (nestedKind P w))
def lookN (xs : NX) (k : NestedKey) : Option V := (xs.find? fun x => decide (x.1 = k)).map (·.2.2)
theorem NRel.look (k : NestedKey) : ∀ {xs : NX} {ys : List (NestedKey × Addr × Value)}, NRel xs ys → (lookN xs k = none ∧ atKey ys k = none) ∨ ∃ v p, lookN xs k = some v ∧ atKey ys k = some p ∧ RelV v p.2
  | _, _, .nil => .inl ⟨rfl, rfl⟩
  | x :: xs, y :: ys, .cons a b => by
    by_cases h : x.1 = k
    · have h2 : y.1 = k := a.1 ▸ h
      exact .inr ⟨x.2.2, y.2, by simp [lookN, List.find?_cons, h], by simp [atKey, List.find?_cons, h2], a.2.2⟩
    · have h2 : ¬ y.1 = k := fun e => h (a.1.trans e)
      have e1 : lookN (x :: xs) k = lookN xs k := by simp [lookN, List.find?_cons, h]
      have e2 : atKey (y :: ys) k = atKey ys k := by simp [atKey, List.find?_cons, h2]
      rw [e1, e2]
      exact NRel.look k b
theorem NRel.mem : ∀ {xs : NX} {ys : List (NestedKey × Addr × Value)}, NRel xs ys → ∀ y ∈ ys, ∃ x ∈ xs, x.1 = y.1 ∧ x.2.1 = y.2.1
  | _, _, .nil, y, h => by simp at h
  | _, _, .cons (a := x) a b, y, h => by
    rcases List.mem_cons.mp h with e | e
    · exact ⟨x, List.mem_cons_self, by rw [e]; exact ⟨a.1, a.2.1⟩⟩
    · obtain ⟨z, hz, q⟩ := NRel.mem b y e
      exact ⟨z, List.mem_cons_of_mem _ hz, q⟩
section
variable {X : Cx} {pins : List (Addr × Obj)} {σ : L2.St} {H : Hp} {s : Shared} {a b : Addr} {xs : NX} {k : NestedKey} {A : Around} {E : Value → Shared → Prop}
end
section
variable {X : Cx} {o i e value : Expr} {td ty tv : TE} {pos pos' : Pos}
end
end Rg

set_option Elab.async false
set_option linter.all false
set_option maxRecDepth 100000
set_option maxHeartbeats 2000000
namespace Rg
open PySem PySem.Spec PyProof.Rows L2
inductive Tg where
  | lst | tup | ins (C : Str) (fs : List Str) | exc (C : Str) (fs : List Str) | dct (ks : List Key)
  deriving DecidableEq
/-- a value as data: the heap is in it -/
inductive DV where
  | non | bl (b : Bool) | int (i : Int) | str (x : Str) | raw (v : V) | node (t : Tg) (xs : List DV)
abbrev DV.lst (xs : List DV) : DV := .node .lst xs
abbrev DV.tup (xs : List DV) : DV := .node .tup xs
/-- an exception of the class cls, with its dict at d -/
def ExG (cls : Value) (d : Option Addr) (a : Addr) : HO := .ext fun h => ∃ (oe : Obj) (vs : Array Value), h.get? a = some oe ∧ Zc cls d oe ∧ oe.data = .fields vs
mutual
inductive Rv (K : PySem.W.Frag) (D : Hp) : V → DV → Prop
  | non : Rv K D .non .non
  | bl (b : Bool) : Rv K D (.bl b) (.bl b)
  | int (i : Int) : Rv K D (.int i) (.int i)
  | str (x : Str) : Rv K D (.str x) (.str x)
  | raw (v : V) : Rv K D v (.raw v)
  | lst {a : Addr} {vs : List V} {ds : List DV} : D a = some (.lst vs) → RvA K D vs ds → Rv K D (.ref a) (.node .lst ds)
  | tup {a : Addr} {vs : List V} {ds : List DV} : D a = some (.tup vs) → RvA K D vs ds → Rv K D (.ref a) (.node .tup ds)
  | ins {a dx : Addr} {C : Str} {fs : List Str} {vs : List V} {ds : List DV} : D a = some (.ins (He.ga K C) dx (fs.zip vs)) → fs.length = vs.length → RvA K D vs ds → Rv K D (.ref a) (.node (.ins C fs) ds)
  | exc {a d : Addr} {C : Str} {fs : List Str} {ps : List (Str × V)} {ds : List DV} : D a = some (ExG (.ref (He.ga K C)) (some d) a) → D d = some (.xd ps) → ps.map (·.1) = fs → RvA K D (ps.map (·.2)) ds → Rv K D (.ref a) (.node (.exc C fs) ds)
  | dct {a : Addr} {ks : List Key} {vs : List V} {ds : List DV} : D a = some (.dK (ks.zip vs)) → ks.length = vs.length → RvA K D vs ds → Rv K D (.ref a) (.node (.dct ks) ds)
inductive RvA (K : PySem.W.Frag) (D : Hp) : List V → List DV → Prop
  | nil : RvA K D [] []
  | cons {v : V} {vs : List V} {d : DV} {ds : List DV} : Rv K D v d → RvA K D vs ds → RvA K D (v :: vs) (d :: ds)
end
section
variable {K : PySem.W.Frag} {D D' : Hp}
theorem rv_mono (e : Same D D') {v : V} {d : DV} (h : Rv K D v d) : Rv K D' v d :=
  Rv.rec (motive_1 := fun v d _ => Rv K D' v d) (motive_2 := fun vs ds _ => RvA K D' vs ds) .non .bl .int .str .raw (fun h _ i => .lst (e _ _ h) i) (fun h _ i => .tup (e _ _ h) i) (fun h l _ i => .ins (e _ _ h) l i) (fun h h2 l _ i => .exc (e _ _ h) (e _ _ h2) l i) (fun h l _ i => .dct (e _ _ h) l i) .nil (fun _ _ i j => .cons i j) h
theorem rvA_mono (e : Same D D') : ∀ {vs : List V} {ds : List DV}, RvA K D vs ds → RvA K D' vs ds
  | _, _, .nil => .nil
  | _, _, .cons a b => .cons (rv_mono e a) (rvA_mono e b)
theorem rvA_len : ∀ {vs : List V} {ds : List DV}, RvA K D vs ds → vs.length = ds.length
  | _, _, .nil => rfl
  | _, _, .cons _ t => congrArg Nat.succ (rvA_len t)
theorem rvA_app : ∀ {vs ws : List V} {ds es : List DV}, RvA K D vs ds → RvA K D ws es → RvA K D (vs ++ ws) (ds ++ es)
  | _, _, _, _, .nil, h => h
  | _, _, _, _, .cons r t, h => .cons r (rvA_app t h)
theorem rvA_get : ∀ {vs : List V} {ds : List DV} {i : Nat} {v : V}, RvA K D vs ds → vs[i]? = some v → ∃ d, ds[i]? = some d ∧ Rv K D v d
  | _, _, _, _, .nil, e => by simp at e
  | _, _, 0, _, .cons r _, e => by simp at e; subst e; exact ⟨_, rfl, r⟩
  | _, _, i + 1, v, .cons _ t, e => by
    obtain ⟨d, h1, h2⟩ := rvA_get (i := i) (v := v) t (by simpa using e)
    exact ⟨d, by simpa using h1, h2⟩
theorem rvA_at : ∀ {vs : List V} {ds : List DV} {i : Nat} {d : DV}, RvA K D vs ds → ds[i]? = some d → ∃ v, vs[i]? = some v ∧ Rv K D v d
  | _, _, _, _, .nil, e => by simp at e
  | _, _, 0, _, .cons r _, e => by simp at e; subst e; exact ⟨_, rfl, r⟩
  | _, _, i + 1, d, .cons _ t, e => by
    obtain ⟨v, h1, h2⟩ := rvA_at (i := i) (d := d) t (by simpa using e)
    exact ⟨v, by simpa using h1, h2⟩
theorem rvA_one {v : V} {d : DV} (h : Rv K D v d) : RvA K D [v] [d] := .cons h .nil
theorem rvA_take : ∀ (n : Nat) {vs : List V} {ds : List DV}, RvA K D vs ds → RvA K D (vs.take n) (ds.take n)
  | 0, _, _, _ => .nil
  | _ + 1, _, _, .nil => .nil
  | n + 1, _, _, .cons a b => .cons a (rvA_take n b)
theorem rvA_drop : ∀ (n : Nat) {vs : List V} {ds : List DV}, RvA K D vs ds → RvA K D (vs.drop n) (ds.drop n)
  | 0, _, _, h => h
  | _ + 1, _, _, .nil => .nil
  | n + 1, _, _, .cons a b => rvA_drop n b
theorem rvA_set {v : V} {d : DV} (r : Rv K D v d) : ∀ {vs : List V} {ds : List DV} (i : Nat), RvA K D vs ds → RvA K D (vs.set i v) (ds.set i d)
  | _, _, _, .nil => .nil
  | _, _, 0, .cons _ t => .cons r t
  | _, _, i + 1, .cons q t => .cons q (rvA_set r i t)
theorem rv_lst {v : V} {ds : List DV} (h : Rv K D v (.node .lst ds)) : ∃ a vs, v = .ref a ∧ D a = some (.lst vs) ∧ RvA K D vs ds := by
  cases h with
  | lst h1 h2 => exact ⟨_, _, rfl, h1, h2⟩
theorem rv_tup {v : V} {ds : List DV} (h : Rv K D v (.node .tup ds)) : ∃ a vs, v = .ref a ∧ D a = some (.tup vs) ∧ RvA K D vs ds := by
  cases h with
  | tup h1 h2 => exact ⟨_, _, rfl, h1, h2⟩
theorem rv_ins {v : V} {C : Str} {fs : List Str} {ds : List DV} (h : Rv K D v (.node (.ins C fs) ds)) : ∃ a dx vs, v = .ref a ∧ D a = some (.ins (He.ga K C) dx (fs.zip vs)) ∧ fs.length = vs.length ∧ RvA K D vs ds := by
  cases h with
  | ins h1 h2 h3 => exact ⟨_, _, _, rfl, h1, h2, h3⟩
theorem rv_int {v : V} {i : Int} (h : Rv K D v (.int i)) : v = .int i := by cases h; rfl
theorem rv_str {v : V} {i : Str} (h : Rv K D v (.str i)) : v = .str i := by cases h; rfl
theorem rv_bl {v : V} {i : Bool} (h : Rv K D v (.bl i)) : v = .bl i := by cases h; rfl
theorem rv_raw {v u : V} (h : Rv K D v (.raw u)) : v = u := by cases h; rfl
end

section
variable {κ : Type} [DecidableEq κ]
def dput (kvs : List (κ × DV)) (k : κ) (d : DV) : List (κ × DV) :=
  if (kvs.any fun kv => decide (kv.1 = k)) = true then kvs.map (fun kv => if kv.1 = k then (kv.1, d) else kv) else kvs ++ [(k, d)]
def RvP (K : PySem.W.Frag) (D : Hp) : List (κ × V) → List (κ × DV) → Prop := Paired fun p q => p.1 = q.1 ∧ Rv K D p.2 q.2
variable {K : PySem.W.Frag} {D D' : Hp}
theorem rvP_mono (e : Same D D') : ∀ {ps : List (κ × V)} {qs : List (κ × DV)}, RvP K D ps qs → RvP K D' ps qs
  | _, _, .nil => .nil
  | _, _, .cons a b => .cons ⟨a.1, rv_mono e a.2⟩ (rvP_mono e b)
theorem rvP_len : ∀ {ps : List (κ × V)} {qs : List (κ × DV)}, RvP K D ps qs → ps.length = qs.length
  | _, _, .nil => rfl
  | _, _, .cons _ b => congrArg Nat.succ (rvP_len b)
theorem rvP_any (k : κ) : ∀ {ps : List (κ × V)} {qs : List (κ × DV)}, RvP K D ps qs → (ps.any fun kv => decide (kv.1 = k)) = (qs.any fun kv => decide (kv.1 = k))
  | _, _, .nil => rfl
  | p :: ps, q :: qs, .cons a b => by rw [List.any_cons, List.any_cons, rvP_any k b, a.1]
theorem rvP_app : ∀ {ps ps' : List (κ × V)} {qs qs' : List (κ × DV)}, RvP K D ps qs → RvP K D ps' qs' → RvP K D (ps ++ ps') (qs ++ qs')
  | _, _, _, _, .nil, h => h
  | _, _, _, _, .cons a b, h => .cons a (rvP_app b h)
theorem rvP_map (k : κ) {v : V} {d : DV} (r : Rv K D v d) : ∀ {ps : List (κ × V)} {qs : List (κ × DV)}, RvP K D ps qs → RvP K D (ps.map fun kv => if kv.1 = k then (kv.1, v) else kv) (qs.map fun kv => if kv.1 = k then (kv.1, d) else kv)
  | _, _, .nil => .nil
  | p :: ps, q :: qs, .cons a b => by
    refine .cons ?_ (rvP_map k r b)
    show (if p.1 = k then (p.1, v) else p).1 = (if q.1 = k then (q.1, d) else q).1 ∧ Rv K D (if p.1 = k then (p.1, v) else p).2 (if q.1 = k then (q.1, d) else q).2
    by_cases h : p.1 = k
    · have h2 : q.1 = k := a.1 ▸ h
      rw [if_pos h, if_pos h2]
      exact ⟨a.1, r⟩
    · have h2 : ¬ q.1 = k := fun e => h (a.1.trans e)
      rw [if_neg h, if_neg h2]
      exact a
theorem rvP_put (k : κ) {v : V} {d : DV} (r : Rv K D v d) {ps : List (κ × V)} {qs : List (κ × DV)} (h : RvP K D ps qs) : RvP K D (putK ps k v) (dput qs k d) := by
  unfold putK dput
  rw [rvP_any k h]
  split
  · exact rvP_map k r h
  · exact rvP_app h (.cons ⟨rfl, r⟩ .nil)
end
/-- what a slot holds: a settled value, or an object of its own that may yet be written -/
inductive SV where
  | val (d : DV) | lst (ds : List DV) | dK (kvs : List (Key × DV)) | dT (kvs : List (List Key × DV)) | ins (C : Str) (fs : List (Str × DV)) | dN (P : Program) (w : World) (kvs : List (NestedKey × DV))
def NOb (K : PySem.W.Frag) (D : Hp) : NX → List (NestedKey × DV) → Prop := Paired fun x kv => x.1 = kv.1 ∧ NkV D (.ref x.2.1) x.1 ∧ x.1.depth ≤ 8 ∧ Rv K D x.2.2 kv.2
theorem nob_mono {K : PySem.W.Frag} {D D' : Hp} (e : Same D D') : ∀ {xs : NX} {kvs : List (NestedKey × DV)}, NOb K D xs kvs → NOb K D' xs kvs
  | _, _, .nil => .nil
  | _, _, .cons a b => .cons ⟨a.1, nk_mono e a.2.1, a.2.2.1, rv_mono e a.2.2.2⟩ (nob_mono e b)
def Ob (K : PySem.W.Frag) (D H : Hp) (a : Addr) : SV → Prop
  | .val _ => False
  | .lst ds => ∃ vs, H a = some (.lst vs) ∧ RvA K D vs ds
  | .dK kvs => ∃ ps, H a = some (.dK ps) ∧ RvP K D ps kvs
  | .dT kvs => ∃ ps, H a = some (.dT ps) ∧ RvP K D ps kvs
  | .ins C fs => ∃ dx ps, H a = some (.ins (He.ga K C) dx ps) ∧ RvP K D ps fs
  | .dN P w kvs => ∃ xs, H a = some (.ext (nestP P w a xs)) ∧ NOb K D xs kvs
theorem Ob.mono {K : PySem.W.Frag} {D D' H H' : Hp} {a : Addr} {s : SV} (h : Ob K D H a s) (e : Same D D') (eh : H' a = H a) : Ob K D' H' a s := by
  cases s with
  | val d => exact h
  | lst ds => obtain ⟨vs, h1, h2⟩ := h; exact ⟨vs, eh.trans h1, rvA_mono e h2⟩
  | dK ds => obtain ⟨vs, h1, h2⟩ := h; exact ⟨vs, eh.trans h1, rvP_mono e h2⟩
  | dT ds => obtain ⟨vs, h1, h2⟩ := h; exact ⟨vs, eh.trans h1, rvP_mono e h2⟩
  | ins C ds => obtain ⟨dx, vs, h1, h2⟩ := h; exact ⟨dx, vs, eh.trans h1, rvP_mono e h2⟩
  | dN P w ds => obtain ⟨vs, h1, h2⟩ := h; exact ⟨vs, eh.trans h1, nob_mono e h2⟩
theorem Ob.there {K : PySem.W.Frag} {D H : Hp} {a : Addr} {s : SV} (h : Ob K D H a s) : H a ≠ none := by
  cases s with
  | val d => exact h.elim
  | lst ds => obtain ⟨vs, h1, h2⟩ := h; rw [h1]; exact fun z => nomatch z
  | dK ds => obtain ⟨vs, h1, h2⟩ := h; rw [h1]; exact fun z => nomatch z
  | dT ds => obtain ⟨vs, h1, h2⟩ := h; rw [h1]; exact fun z => nomatch z
  | ins C ds => obtain ⟨dx, vs, h1, h2⟩ := h; rw [h1]; exact fun z => nomatch z
  | dN P w ds => obtain ⟨vs, h1, h2⟩ := h; rw [h1]; exact fun z => nomatch z
abbrev Sl := List (Option SV)
/-- the slots of a def: as: the objects that are its own, F: objects of its own outside of the slots -/
inductive Rs (K : PySem.W.Frag) (D H H0 : Hp) (F : List Addr) : L2.St → Sl → List Addr → Prop
  | nil : Rs K D H H0 F [] [] F
  | no {o : Option V} {σ : L2.St} {ρ : Sl} {as : List Addr} : Rs K D H H0 F σ ρ as → Rs K D H H0 F (o :: σ) (none :: ρ) as
  | val {v : V} {d : DV} {σ : L2.St} {ρ : Sl} {as : List Addr} : Rv K D v d → Rs K D H H0 F σ ρ as → Rs K D H H0 F (some v :: σ) (some (.val d) :: ρ) as
  | own {a : Addr} {s : SV} {σ : L2.St} {ρ : Sl} {as : List Addr} : Ob K D H a s → D a = none → H0 a = none → a ∉ as → Rs K D H H0 F σ ρ as → Rs K D H H0 F (some (.ref a) :: σ) (some s :: ρ) (a :: as)
section
variable {K : PySem.W.Frag} {D H D' H' H0 : Hp} {F : List Addr}
theorem Rs.len : ∀ {σ : L2.St} {ρ : Sl} {as : List Addr}, Rs K D H H0 F σ ρ as → σ.length = ρ.length
  | _, _, _, .nil => rfl
  | _, _, _, .no h => congrArg Nat.succ h.len
  | _, _, _, .val _ h => congrArg Nat.succ h.len
  | _, _, _, .own _ _ _ _ h => congrArg Nat.succ h.len
theorem Rs.frame : ∀ {σ : L2.St} {ρ : Sl} {as : List Addr}, Rs K D H H0 F σ ρ as → ∀ a ∈ F, a ∈ as
  | _, _, _, .nil, _, h => h
  | _, _, _, .no r, a, h => r.frame a h
  | _, _, _, .val _ r, a, h => r.frame a h
  | _, _, _, .own _ _ _ _ r, a, h => List.mem_cons_of_mem _ (r.frame a h)
/-- heaps that keep what is of the slots' own -/
theorem Rs.mono (e : Same D D') : ∀ {σ : L2.St} {ρ : Sl} {as : List Addr}, Rs K D H H0 F σ ρ as → (∀ a ∈ as, H a ≠ none → H' a = H a) → (∀ a ∈ as, D a = none → H a ≠ none → D' a = none) → Rs K D' H' H0 F σ ρ as
  | _, _, _, .nil, _, _ => .nil
  | _, _, _, .no r, k, n => .no (r.mono e k n)
  | _, _, _, .val q r, k, n => .val (rv_mono e q) (r.mono e k n)
  | _, _, _, .own o d z x r, k, n => .own (o.mono e (k _ List.mem_cons_self o.there)) (n _ List.mem_cons_self d o.there) z x (r.mono e (fun a h => k a (List.mem_cons_of_mem _ h)) (fun a h => n a (List.mem_cons_of_mem _ h)))
theorem Rs.get : ∀ {σ : L2.St} {ρ : Sl} {as : List Addr} {i : Nat} {d : DV}, Rs K D H H0 F σ ρ as → ρ[i]? = some (some (.val d)) → ∃ v, σ[i]? = some (some v) ∧ Rv K D v d
  | _, _, _, _, _, .nil, e => by simp at e
  | _, _, _, 0, _, .no _, e => by simp at e
  | _, _, _, i + 1, d, .no r, e => by simpa using r.get (i := i) (d := d) (by simpa using e)
  | _, _, _, 0, _, .val q _, e => by
    have e' := Option.some.inj (Option.some.inj e)
    cases e'
    exact ⟨_, rfl, q⟩
  | _, _, _, i + 1, d, .val _ r, e => by simpa using r.get (i := i) (d := d) (by simpa using e)
  | _, _, _, 0, _, .own o _ _ _ _, e => by
    have e' := Option.some.inj (Option.some.inj e)
    rw [e'] at o
    exact o.elim
  | _, _, _, i + 1, d, .own _ _ _ _ r, e => by simpa using r.get (i := i) (d := d) (by simpa using e)
/-- a slot with an object of its own: what is known, and another state of the object put in -/
theorem Rs.own_at : ∀ {σ : L2.St} {ρ : Sl} {as : List Addr} {i : Nat} {s : SV}, Rs K D H H0 F σ ρ as → ρ[i]? = some (some s) → (∀ d, s ≠ .val d) → ∃ a, σ[i]? = some (some (.ref a)) ∧ Ob K D H a s ∧ D a = none ∧ H0 a = none ∧ a ∈ as ∧ a ∉ F ∧
    (∀ (H' : Hp) (s' : SV), (∀ b, b ≠ a → H' b = H b) → Ob K D H' a s' → (∀ d, s' ≠ .val d) → Rs K D H' H0 F σ (ρ.set i (some s')) as) ∧
    (∀ (D' : Hp) (d : DV), Same D D' → (∀ b, b ≠ a → D' b = D b) → Rv K D' (.ref a) d → ∃ as', (∀ b ∈ as', b ∈ as) ∧ a ∉ as' ∧ Rs K D' H H0 F σ (ρ.set i (some (.val d))) as')
  | _, _, _, _, _, .nil, e, _ => by simp at e
  | _, _, _, 0, _, .no _, e, _ => by simp at e
  | _, _, _, i + 1, s, .no r, e, n => by
    obtain ⟨a, h1, h2, h3, h4, h5, h6, h7, h8⟩ := r.own_at (i := i) (s := s) (by simpa using e) n
    exact ⟨a, by simpa using h1, h2, h3, h4, h5, h6, fun H' s' k o z => .no (h7 H' s' k o z), fun D' d k q w => let ⟨as', x, y, z⟩ := h8 D' d k q w; ⟨as', x, y, .no z⟩⟩
  | _, _, _, 0, _, .val q _, e, n => by
    have e' := Option.some.inj (Option.some.inj e)
    exact absurd e'.symm (n _)
  | _, _, _, i + 1, s, .val q r, e, n => by
    obtain ⟨a, h1, h2, h3, h4, h5, h6, h7, h8⟩ := r.own_at (i := i) (s := s) (by simpa using e) n
    exact ⟨a, by simpa using h1, h2, h3, h4, h5, h6, fun H' s' k o z => .val q (h7 H' s' k o z), fun D' d k q' w => let ⟨as', x, y, z⟩ := h8 D' d k q' w; ⟨as', x, y, .val (rv_mono k q) z⟩⟩
  | _, _, _, 0, _, .own (a := a) o d z x r, e, n => by
    have e' := Option.some.inj (Option.some.inj e)
    cases e'
    refine ⟨a, rfl, o, d, z, List.mem_cons_self, fun h => x (r.frame a h), fun H' s' k o' z' => ?_, fun D' dv k q w => ?_⟩
    · exact .own o' d z x (r.mono (Same.refl D) (fun b hb _ => k b fun e => x (e ▸ hb)) fun _ _ e _ => e)
    · exact ⟨_, fun b hb => List.mem_cons_of_mem _ hb, x, .val w (r.mono k (fun _ _ _ => rfl) fun b hb e _ => (q b fun e => x (e ▸ hb)).trans e)⟩
  | _, _, _, i + 1, s, .own (a := b) o d z x r, e, n => by
    obtain ⟨a, h1, h2, h3, h4, h5, h6, h7, h8⟩ := r.own_at (i := i) (s := s) (by simpa using e) n
    have ne : b ≠ a := fun e => x (e ▸ h5)
    refine ⟨a, by simpa using h1, h2, h3, h4, List.mem_cons_of_mem _ h5, h6, fun H' s' k o' z' => ?_, fun D' dv k q w => ?_⟩
    · exact .own (o.mono (Same.refl D) (k b ne)) d z x (h7 H' s' k o' z')
    · obtain ⟨as', u1, u2, u3⟩ := h8 D' dv k q w
      refine ⟨b :: as', fun c hc => ?_, fun hc => ?_, .own (o.mono k rfl) ((q b ne).trans d) z (fun hb => x (u1 b hb)) u3⟩
      · rcases List.mem_cons.mp hc with h | h
        · exact h ▸ List.mem_cons_self
        · exact List.mem_cons_of_mem _ (u1 c h)
      · rcases List.mem_cons.mp hc with h | h
        · exact ne h.symm
        · exact u2 h
/-- a slot gets a settled value -/
theorem Rs.set {v : V} {d : DV} (q : Rv K D v d) : ∀ {σ : L2.St} {ρ : Sl} {as : List Addr} (i : Nat), Rs K D H H0 F σ ρ as → ∃ as', (∀ b ∈ as', b ∈ as) ∧ Rs K D H H0 F (σ.set i (some v)) (ρ.set i (some (.val d))) as'
  | _, _, _, _, .nil => ⟨_, fun _ h => h, .nil⟩
  | _, _, _, 0, .no r => ⟨_, fun _ h => h, .val q r⟩
  | _, _, _, i + 1, .no r => let ⟨as', x, y⟩ := r.set q i; ⟨as', x, .no y⟩
  | _, _, _, 0, .val _ r => ⟨_, fun _ h => h, .val q r⟩
  | _, _, _, i + 1, .val p r => let ⟨as', x, y⟩ := r.set q i; ⟨as', x, .val p y⟩
  | _, _, _, 0, .own _ _ _ _ r => ⟨_, fun _ h => List.mem_cons_of_mem _ h, .val q r⟩
  | _, _, _, i + 1, .own (a := a) o d z x r => by
    obtain ⟨as', x1, y⟩ := r.set q i
    refine ⟨a :: as', fun b hb => ?_, .own o d z (fun h => x (x1 a h)) y⟩
    rcases List.mem_cons.mp hb with h | h
    · exact h ▸ List.mem_cons_self
    · exact List.mem_cons_of_mem _ (x1 b h)
/-- a slot gets a new object of its own -/
theorem Rs.setOwn {a : Addr} {s : SV} (o : Ob K D H a s) (d : D a = none) (z : H0 a = none) : ∀ {σ : L2.St} {ρ : Sl} {as : List Addr} (i : Nat), a ∉ as → Rs K D H H0 F σ ρ as → ∃ as', (∀ b ∈ as', b = a ∨ b ∈ as) ∧ Rs K D H H0 F (σ.set i (some (.ref a))) (ρ.set i (some s)) as'
  | _, _, _, _, n, .nil => ⟨_, fun _ h => .inr h, .nil⟩
  | _, _, _, 0, n, .no r => ⟨_, fun b h => List.mem_cons.mp h, .own o d z n r⟩
  | _, _, _, i + 1, n, .no r => let ⟨as', x, y⟩ := r.setOwn o d z i n; ⟨as', x, .no y⟩
  | _, _, _, 0, n, .val _ r => ⟨_, fun b h => List.mem_cons.mp h, .own o d z n r⟩
  | _, _, _, i + 1, n, .val p r => let ⟨as', x, y⟩ := r.setOwn o d z i n; ⟨as', x, .val p y⟩
  | _, _, _, 0, n, .own _ _ _ _ r => ⟨_, fun c h => (List.mem_cons.mp h).imp_right (List.mem_cons_of_mem _), .own o d z (fun h => n (List.mem_cons_of_mem _ h)) r⟩
  | _, _, _, i + 1, n, .own o' d' z' x r => by
    obtain ⟨as', x1, y⟩ := r.setOwn o d z i (fun h => n (List.mem_cons_of_mem _ h))
    refine ⟨_, fun c hc => ?_, .own o' d' z' (fun h => ?_) y⟩
    · rcases List.mem_cons.mp hc with h | h
      · exact .inr (h ▸ List.mem_cons_self)
      · exact (x1 c h).imp_right (List.mem_cons_of_mem _)
    · rcases x1 _ h with e | e
      · exact n (e ▸ List.mem_cons_self)
      · exact x e
/-- a slot is forgotten -/
theorem Rs.drop : ∀ {σ : L2.St} {ρ : Sl} {as : List Addr} (o : Option V) (i : Nat), Rs K D H H0 F σ ρ as → ∃ as', (∀ b ∈ as', b ∈ as) ∧ Rs K D H H0 F (σ.set i o) (ρ.set i none) as'
  | _, _, _, _, _, .nil => ⟨_, fun _ h => h, .nil⟩
  | _, _, _, _, 0, .no r => ⟨_, fun _ h => h, .no r⟩
  | _, _, _, o, i + 1, .no r => let ⟨as', x, y⟩ := r.drop o i; ⟨as', x, .no y⟩
  | _, _, _, _, 0, .val _ r => ⟨_, fun _ h => h, .no r⟩
  | _, _, _, o, i + 1, .val p r => let ⟨as', x, y⟩ := r.drop o i; ⟨as', x, .val p y⟩
  | _, _, _, _, 0, .own _ _ _ _ r => ⟨_, fun _ h => List.mem_cons_of_mem _ h, .no r⟩
  | _, _, _, o, i + 1, .own (a := a) o' d z x r => by
    obtain ⟨as', x1, y⟩ := r.drop o i
    refine ⟨a :: as', fun b hb => ?_, .own o' d z (fun h => x (x1 a h)) y⟩
    rcases List.mem_cons.mp hb with h | h
    · exact h ▸ List.mem_cons_self
    · exact List.mem_cons_of_mem _ (x1 b h)
end
/-- less is known of some slots -/
inductive Le : Sl → Sl → Prop
  | nil : Le [] []
  | no {o : Option SV} {a b : Sl} : Le a b → Le (none :: a) (o :: b)
  | eq {o : Option SV} {a b : Sl} : Le a b → Le (o :: a) (o :: b)
theorem Le.refl : ∀ a : Sl, Le a a
  | [] => .nil
  | _ :: r => .eq (Le.refl r)
theorem Rs.le {K : PySem.W.Frag} {D H H0 : Hp} {F : List Addr} : ∀ {σ : L2.St} {ρ ρ' : Sl} {as : List Addr}, Rs K D H H0 F σ ρ as → Le ρ' ρ → ∃ as', (∀ b ∈ as', b ∈ as) ∧ Rs K D H H0 F σ ρ' as'
  | _, _, _, _, .nil, .nil => ⟨_, fun _ h => h, .nil⟩
  | _, _, _, _, .no r, .no l => let ⟨as', x, y⟩ := r.le l; ⟨as', x, .no y⟩
  | _, _, _, _, .no r, .eq l => let ⟨as', x, y⟩ := r.le l; ⟨as', x, .no y⟩
  | _, _, _, _, .val p r, .no l => let ⟨as', x, y⟩ := r.le l; ⟨as', x, .no y⟩
  | _, _, _, _, .val p r, .eq l => let ⟨as', x, y⟩ := r.le l; ⟨as', x, .val p y⟩
  | _, _, _, _, .own o d z x r, .no l => let ⟨as', x', y⟩ := r.le l; ⟨as', fun b h => List.mem_cons_of_mem _ (x' b h), .no y⟩
  | _, _, _, _, .own (a := a) o d z x r, .eq l => by
    obtain ⟨as', x1, y⟩ := r.le l
    refine ⟨a :: as', fun b hb => ?_, .own o d z (fun h => x (x1 a h)) y⟩
    rcases List.mem_cons.mp hb with h | h
    · exact h ▸ List.mem_cons_self
    · exact List.mem_cons_of_mem _ (x1 b h)
end Rg

set_option Elab.async false
set_option linter.all false
set_option maxRecDepth 100000
set_option maxHeartbeats 2000000
namespace Rg
open PySem PySem.Spec PyProof.Rows L2
/-- no table -/
def NT : HO → Prop
  | .tbl _ => False
  | _ => True
/-- the table at P: each code object that it tells is settled and bears the name of a lambda of that code -/
def TabD (K : PySem.W.Frag) (D H : Hp) (P : Addr) : Prop := D P = none ∧ ∃ ps : Array Value, H P = some (.tbl ps) ∧ TriplesOk ps.toList ∧ ∀ (pos : Pos) (cv : Value), codeAmong pos ps.toList = some cv → ∃ c, cv = .ref c ∧ D c = some (LamX.CodeO c (qnK K P ++ ".<locals>.<lambda>"))
structure StepT (K : PySem.W.Frag) (W : Addr → Prop) (D H D' H' : Hp) : Prop where
  dd : Same D D'
  dh : Same D' H'
  kq : ∀ b o, ¬ W b → NT o → H b = some o → H' b = some o
  ns : ∀ b, H b ≠ none → H' b ≠ none
  fr : ∀ b, H b ≠ none → D b = none → D' b = none
  tb : ∀ b, ¬ W b → TabD K D H b → TabD K D' H' b
section
variable {K : PySem.W.Frag} {W W' : Addr → Prop} {D H D1 H1 D2 H2 : Hp}
theorem TabD.there {b : Addr} (t : TabD K D H b) : H b ≠ none := by
  obtain ⟨_, ps, h, _⟩ := t
  rw [h]
  exact fun z => nomatch z
theorem Step.t (s : Step W D H D1 H1) : StepT K W D H D1 H1 := ⟨s.dd, s.dh, fun b o hw _ e => s.kp b o hw e, s.ns, s.fr, fun b hw t => by
  have n := t.there
  obtain ⟨h0, ps, h, ht, hc⟩ := t
  exact ⟨s.fr b n h0, ps, s.kp b _ hw h, ht, fun pos cv z => let ⟨c, e1, e2⟩ := hc pos cv z; ⟨c, e1, s.dd _ _ e2⟩⟩⟩
instance : Coe (Step W D H D1 H1) (StepT K W D H D1 H1) := ⟨Step.t⟩
theorem StepT.kp (s : StepT K W D H D1 H1) (b : Addr) (o : HO) (hw : ¬ W b) (e : H b = some o) (n : NT o := by trivial) : H1 b = some o := s.kq b o hw n e
theorem StepT.trans (a : StepT K W D H D1 H1) (b : StepT K W D1 H1 D2 H2) : StepT K W D H D2 H2 :=
  ⟨a.dd.trans b.dd, b.dh, fun c o hc n e => b.kq c o hc n (a.kq c o hc n e), fun c e => b.ns c (a.ns c e), fun c e d => b.fr c (a.ns c e) (a.fr c e d), fun c hc t => b.tb c hc (a.tb c hc t)⟩
theorem StepT.mono (a : StepT K W D H D1 H1) (h : ∀ b, W b → W' b) : StepT K W' D H D1 H1 :=
  ⟨a.dd, a.dh, fun c o hc n e => a.kq c o (fun z => hc (h c z)) n e, a.ns, a.fr, fun c hc t => a.tb c (fun z => hc (h c z)) t⟩
theorem StepT.any (a : StepT K NoW D H D1 H1) : StepT K W D H D1 H1 := a.mono fun _ z => z.elim
theorem StepT.settle {p : Addr} {o : HO} (a : StepT K W D H D1 H1) (h0 : H p = none) (h1 : H1 p = some o) (hd : D1 p = none) : StepT K W D H (upd D1 p o) H1 := by
  refine ⟨a.dd.trans (same_new hd), fun b u e => ?_, a.kq, a.ns, fun b e d => ?_, fun b hw t => ?_⟩
  · by_cases q : b = p
    · rw [q, upd_same] at e
      rw [q, h1]
      exact e
    · rw [upd_ne q] at e
      exact a.dh b u e
  · have q : b ≠ p := fun z => e (z ▸ h0)
    rw [upd_ne q]
    exact a.fr b e d
  · have ne : b ≠ p := fun z => t.there (z ▸ h0)
    obtain ⟨g0, ps, h, ht, hc⟩ := a.tb b hw t
    exact ⟨by rw [upd_ne ne]; exact g0, ps, h, ht, fun pos cv z => let ⟨c, e1, e2⟩ := hc pos cv z; ⟨c, e1, same_new hd _ _ e2⟩⟩
theorem StepT.write {p : Addr} {o : HO} (a : StepT K W D H D1 H1) (hw : W p ∨ H p = none) (hd : D1 p = none) : StepT K W D H D1 (upd H1 p o) := by
  have np : ∀ b, ¬ W b → H b ≠ none → b ≠ p := fun b h1 h2 z => by
    rcases hw with w | w
    · exact h1 (z ▸ w)
    · exact h2 (z ▸ w)
  refine ⟨a.dd, fun b u e => ?_, fun b u hb n e => ?_, fun b e => upd_ne_none (a.ns b e), a.fr, fun b hb t => ?_⟩
  · have q : b ≠ p := fun z => by
      rw [z, hd] at e
      cases e
    rw [upd_ne q]
    exact a.dh b u e
  · rw [upd_ne (np b hb (by rw [e]; exact fun z => nomatch z))]
    exact a.kq b u hb n e
  · obtain ⟨g0, ps, h, ht, hc⟩ := a.tb b hb t
    exact ⟨g0, ps, by rw [upd_ne (np b hb t.there)]; exact h, ht, hc⟩
theorem StepT.free {p : Addr} (a : StepT K W D H D1 H1) (h : H1 p = none) : H p = none := by
  cases e : H p with
  | none => rfl
  | some o => exact absurd h (a.ns p (by rw [e]; exact fun z => by cases z))
theorem StepT.dfree {p : Addr} (a : StepT K W D H D1 H1) (h : H1 p = none) : D1 p = none := a.dh.free h
theorem StepT.refl (h : Same D H) : StepT K W D H D H := (Step.refl h).t
/-- what is written was new -/
theorem StepT.fresh (a : StepT K W D H D1 H1) (h : ∀ b, W b → W' b ∨ H b = none) : StepT K W' D H D1 H1 := by
  have nw : ∀ b, ¬ W' b → H b ≠ none → ¬ W b := fun b h1 h2 z => (h b z).elim h1 h2
  exact ⟨a.dd, a.dh, fun b o hb n e => a.kq b o (nw b hb (by rw [e]; exact fun z => nomatch z)) n e, a.ns, a.fr, fun b hb t => a.tb b (nw b hb t.there) t⟩
theorem PenAt.keepT {p : Addr} {n : Nat} (h : PenAt K D H p n) (s : StepT K W D H D1 H1) (hw : ¬ W p) : PenAt K D1 H1 p n := by
  have hn := h.there
  obtain ⟨o, q, ns, t, g, h1, h2, h3, h4⟩ := h
  exact ⟨s.fr p hn o, q, ns, t, g, s.kp p _ hw h1, s.dd.seq h2, h3, h4⟩
end
structure Ps where
  sl : Sl
  ink : Nat
/-- where a def's body runs: the written part, the pen, the heaps at its start, what is wanted of an exception -/
structure Gx where
  K : PySem.W.Frag
  pn : Option Addr
  D0 : Hp
  H0 : Hp
  E : XK
  fr : List (Addr × HO)
abbrev Wn (pn : Option Addr) : Addr → Prop := fun b => pn = some b
def PenOk (K : PySem.W.Frag) (D H : Hp) (pn : Option Addr) (n : Nat) : Prop := ∀ p, pn = some p → PenAt K D H p n
structure RelB (G : Gx) (F : List (Addr × HO)) (D : Hp) (σ : L2.St) (H : Hp) (ρ : Ps) : Prop where
  st : StepT G.K (Wn G.pn) G.D0 G.H0 D H
  sl : ∃ as, Rs G.K D H G.H0 (F.map (·.1)) σ ρ.sl as
  fr : ∀ p ∈ F, H p.1 = some p.2 ∧ D p.1 = none ∧ G.H0 p.1 = none
  pen : PenOk G.K D H G.pn ρ.ink
  ph : ∀ p, G.pn = some p → G.H0 p ≠ none
  nt : ∀ p ∈ F, NT p.2
/-- the frame: objects of one's own outside of the slots, and what the whole def keeps aside -/
abbrev Rel (G : Gx) (F : List (Addr × HO)) (D : Hp) (σ : L2.St) (H : Hp) (ρ : Ps) : Prop := RelB G (F ++ G.fr) D σ H ρ
section
variable {G : Gx} {F : List (Addr × HO)} {D D' H H' : Hp} {σ : L2.St} {ρ : Ps} {p : Addr} {o : HO}
theorem PenOk.keep {K : PySem.W.Frag} {pn : Option Addr} {n : Nat} (h : PenOk K D H pn n) (s : StepT K NoW D H D' H') : PenOk K D' H' pn n := fun p e => (h p e).keepT s (fun z => z)
theorem rs_own_h0 {K : PySem.W.Frag} {H0 : Hp} {Fa : List Addr} (hf : ∀ a ∈ Fa, H0 a = none) : ∀ {σ : L2.St} {sl : Sl} {as : List Addr}, Rs K D H H0 Fa σ sl as → ∀ a ∈ as, H0 a = none
  | _, _, _, .nil, a, h => hf a h
  | _, _, _, .no r, a, h => rs_own_h0 hf r a h
  | _, _, _, .val _ r, a, h => rs_own_h0 hf r a h
  | _, _, _, .own _ _ z _ r, a, h => by
    rcases List.mem_cons.mp h with h | h
    · exact h ▸ z
    · exact rs_own_h0 hf r a h
theorem RelB.frH0 (R : RelB G F D σ H ρ) : ∀ a ∈ F.map (·.1), G.H0 a = none := fun a h => by
  obtain ⟨p, hp, rfl⟩ := List.mem_map.mp h
  exact (R.fr p hp).2.2
theorem Ob.nt {K : PySem.W.Frag} {a : Addr} {s : SV} (h : Ob K D H a s) : ∀ o, H a = some o → NT o := fun o e => by
  have key : ∃ u, H a = some u ∧ NT u := by
    cases s with
    | val d => exact h.elim
    | lst ds => obtain ⟨vs, h1, _⟩ := h; exact ⟨_, h1, True.intro⟩
    | dK ds => obtain ⟨vs, h1, _⟩ := h; exact ⟨_, h1, True.intro⟩
    | dT ds => obtain ⟨vs, h1, _⟩ := h; exact ⟨_, h1, True.intro⟩
    | ins C fs => obtain ⟨dx, ps, h1, _⟩ := h; exact ⟨_, h1, True.intro⟩
    | dN P w kvs => obtain ⟨xs, h1, _⟩ := h; exact ⟨_, h1, True.intro⟩
  obtain ⟨u, h1, h2⟩ := key
  rw [h1] at e
  cases e
  exact h2
theorem rs_nt {K : PySem.W.Frag} {H0 : Hp} {Fa : List Addr} (hf : ∀ a ∈ Fa, ∀ o, H a = some o → NT o) : ∀ {σ : L2.St} {sl : Sl} {as : List Addr}, Rs K D H H0 Fa σ sl as → ∀ a ∈ as, ∀ o, H a = some o → NT o
  | _, _, _, .nil, a, h => hf a h
  | _, _, _, .no r, a, h => rs_nt hf r a h
  | _, _, _, .val _ r, a, h => rs_nt hf r a h
  | _, _, _, .own ob _ _ _ r, a, h => by
    rcases List.mem_cons.mp h with e | e
    · rw [e]
      exact ob.nt
    · exact rs_nt hf r a e
theorem RelB.ntA (R : RelB G F D σ H ρ) : ∀ a ∈ F.map (·.1), ∀ o, H a = some o → NT o := fun a h o e => by
  obtain ⟨p, hp, rfl⟩ := List.mem_map.mp h
  rw [(R.fr p hp).1] at e
  cases e
  exact R.nt p hp
/-- behind a step that writes at most the pen -/
theorem RelB.step {n : Nat} (R : RelB G F D σ H ρ) (s : StepT G.K (Wn G.pn) D H D' H') (pen : PenOk G.K D' H' G.pn n) : RelB G F D' σ H' { ρ with ink := n } := by
  obtain ⟨as, r⟩ := R.sl
  have z := rs_own_h0 R.frH0 r
  have nw : ∀ a, G.H0 a = none → ¬ Wn G.pn a := fun a h e => R.ph a e h
  have nt := rs_nt (fun a ha => R.ntA a ha) r
  have kp : ∀ a, G.H0 a = none → (∀ o, H a = some o → NT o) → H a ≠ none → H' a = H a := fun a h ht hn => by
    cases e : H a with
    | none => exact absurd e hn
    | some o => exact s.kq a o (nw a h) (ht o e) e
  refine ⟨R.st.trans s, ⟨as, r.mono s.dd (fun a ha => kp a (z a ha) (nt a ha)) (fun a _ hd hn => s.fr a hn hd)⟩, fun p hp => ?_, pen, R.ph, R.nt⟩
  obtain ⟨f1, f2, f3⟩ := R.fr p hp
  have hn : H p.1 ≠ none := by rw [f1]; exact fun z => nomatch z
  exact ⟨(kp p.1 f3 (R.ntA p.1 (List.mem_map.mpr ⟨p, hp, rfl⟩)) hn).trans f1, s.fr _ hn f2, f3⟩
theorem RelB.stepN (R : RelB G F D σ H ρ) (s : StepT G.K NoW D H D' H') : RelB G F D' σ H' ρ := R.step s.any (R.pen.keep s)
theorem RelB.new (R : RelB G F D σ H ρ) (h : H p = none) : RelB G F (upd D p o) σ (upd H p o) ρ := R.stepN (Step.new R.st.dh h).t
theorem RelB.tmp (R : RelB G F D σ H ρ) (h : H p = none) : RelB G F D σ (upd H p o) ρ := R.stepN (Step.tmp R.st.dh h).t
theorem RelB.newS (R : RelB G F D σ H ρ) (h : H p = none) : Same D (upd D p o) := same_new (R.st.dh.free h)
theorem RelB.same (R : RelB G F D σ H ρ) : Same D H := R.st.dh
theorem RelB.get {i : Nat} {d : DV} (R : RelB G F D σ H ρ) (e : ρ.sl[i]? = some (some (.val d))) : ∃ v, σ[i]? = some (some v) ∧ Rv G.K D v d := by
  obtain ⟨as, r⟩ := R.sl
  exact r.get e
theorem RelB.set {i : Nat} {v : V} {d : DV} (R : RelB G F D σ H ρ) (q : Rv G.K D v d) : RelB G F D (σ.set i (some v)) H { ρ with sl := ρ.sl.set i (some (.val d)) } := by
  obtain ⟨as, r⟩ := R.sl
  obtain ⟨as', _, r'⟩ := r.set q i
  exact ⟨R.st, ⟨as', r'⟩, R.fr, R.pen, R.ph, R.nt⟩
theorem RelB.drop {i : Nat} (R : RelB G F D σ H ρ) (o : Option V) : RelB G F D (σ.set i o) H { ρ with sl := ρ.sl.set i none } := by
  obtain ⟨as, r⟩ := R.sl
  obtain ⟨as', _, r'⟩ := r.drop o i
  exact ⟨R.st, ⟨as', r'⟩, R.fr, R.pen, R.ph, R.nt⟩
theorem RelB.le {sl : Sl} (R : RelB G F D σ H ρ) (l : Le sl ρ.sl) : RelB G F D σ H { ρ with sl := sl } := by
  obtain ⟨as, r⟩ := R.sl
  obtain ⟨as', _, r'⟩ := r.le l
  exact ⟨R.st, ⟨as', r'⟩, R.fr, R.pen, R.ph, R.nt⟩
/-- an object of the slots' own is settled -/
theorem RelB.settle {i : Nat} {ds : List DV} (R : RelB G F D σ H ρ) (e : ρ.sl[i]? = some (some (.lst ds))) : ∃ a D', σ[i]? = some (some (.ref a)) ∧ Same D D' ∧ RelB G F D' σ H { ρ with sl := ρ.sl.set i (some (.val (.lst ds))) } ∧ Rv G.K D' (.ref a) (.lst ds) := by
  obtain ⟨as, r⟩ := R.sl
  obtain ⟨a, h1, ⟨vs, h2, h3⟩, h4, h5, h6, h7, _, h8⟩ := r.own_at e (fun d z => nomatch z)
  have sm : Same D (upd D a (.lst vs)) := same_new h4
  have rv : Rv G.K (upd D a (.lst vs)) (.ref a) (.lst ds) := .lst upd_same (rvA_mono sm h3)
  obtain ⟨as', _, _, r'⟩ := h8 _ _ sm (fun b hb => upd_ne hb) rv
  refine ⟨a, _, h1, sm, ⟨R.st.settle h5 h2 h4, ⟨as', r'⟩, fun p hp => ?_, fun p e => ?_, R.ph, R.nt⟩, rv⟩
  · obtain ⟨f1, f2, f3⟩ := R.fr p hp
    exact ⟨f1, by rw [upd_ne (fun e => h7 (List.mem_map.mpr ⟨p, hp, e⟩))]; exact f2, f3⟩
  · obtain ⟨o, q, ns, t, g, e1, e2, e3, e4⟩ := R.pen p e
    have ne : p ≠ a := fun z => R.ph p e (z ▸ h5)
    exact ⟨by rw [upd_ne ne]; exact o, q, ns, t, g, e1, sm.seq e2, e3, e4⟩
/-- an object of the slots' own is looked at, and written -/
theorem RelB.own {i : Nat} {s : SV} (R : RelB G F D σ H ρ) (e : ρ.sl[i]? = some (some s)) (n : ∀ d, s ≠ .val d) : ∃ a, σ[i]? = some (some (.ref a)) ∧ Ob G.K D H a s ∧
    ∀ (o : HO) (s' : SV), Ob G.K D (upd H a o) a s' → (∀ d, s' ≠ .val d) → RelB G F D σ (upd H a o) { ρ with sl := ρ.sl.set i (some s') } := by
  obtain ⟨as, r⟩ := R.sl
  obtain ⟨a, h1, h2, h4, h5, h6, h7, h8, _⟩ := r.own_at e n
  refine ⟨a, h1, h2, fun o s' ob z => ⟨R.st.write (.inr h5) h4, ⟨as, h8 _ _ (fun b hb => upd_ne hb) ob z⟩, fun p hp => ?_, fun p e => ?_, R.ph, R.nt⟩⟩
  · obtain ⟨f1, f2, f3⟩ := R.fr p hp
    exact ⟨by rw [upd_ne (fun e => h7 (List.mem_map.mpr ⟨p, hp, e⟩))]; exact f1, f2, f3⟩
  · have ne : p ≠ a := fun z => R.ph p e (z ▸ h5)
    obtain ⟨o, q, ns, t, g, e1, e2, e3, e4⟩ := R.pen p e
    exact ⟨o, q, ns, t, g, by rw [upd_ne ne]; exact e1, e2, e3, e4⟩
theorem rs_push {K : PySem.W.Frag} {H0 : Hp} {Fa : List Addr} {p : Addr} : ∀ {σ : L2.St} {sl : Sl} {as : List Addr}, Rs K D H H0 Fa σ sl as → p ∉ as → ∃ as', (∀ b ∈ as', b = p ∨ b ∈ as) ∧ Rs K D H H0 (p :: Fa) σ sl as'
  | _, _, _, .nil, _ => ⟨_, fun b h => List.mem_cons.mp h, .nil⟩
  | _, _, _, .no r, n => let ⟨as', x, y⟩ := rs_push r n; ⟨as', x, .no y⟩
  | _, _, _, .val q r, n => let ⟨as', x, y⟩ := rs_push r n; ⟨as', x, .val q y⟩
  | _, _, _, .own o d z x r, n => by
    obtain ⟨as', x', y⟩ := rs_push r (fun h => n (List.mem_cons_of_mem _ h))
    refine ⟨_, fun b hb => ?_, .own o d z (fun h => ?_) y⟩
    · rcases List.mem_cons.mp hb with e | e
      · exact .inr (e ▸ List.mem_cons_self)
      · exact (x' b e).imp_right (List.mem_cons_of_mem _)
    · rcases x' _ h with e | e
      · exact n (e ▸ List.mem_cons_self)
      · exact x e
theorem rs_pop {K : PySem.W.Frag} {H0 : Hp} {Fa : List Addr} {p : Addr} : ∀ {σ : L2.St} {sl : Sl} {as : List Addr}, Rs K D H H0 (p :: Fa) σ sl as → p ∉ Fa → ∃ as', (∀ b ∈ as', b ∈ as) ∧ p ∉ as' ∧ Rs K D H H0 Fa σ sl as'
  | _, _, _, .nil, n => ⟨_, fun b h => List.mem_cons_of_mem _ h, n, .nil⟩
  | _, _, _, .no r, n => let ⟨as', x, z, y⟩ := rs_pop r n; ⟨as', x, z, .no y⟩
  | _, _, _, .val q r, n => let ⟨as', x, z, y⟩ := rs_pop r n; ⟨as', x, z, .val q y⟩
  | _, _, _, .own o d z x r, n => by
    obtain ⟨as', x', w, y⟩ := rs_pop r n
    refine ⟨_, fun b hb => ?_, fun h => ?_, .own o d z (fun h => x (x' _ h)) y⟩
    · rcases List.mem_cons.mp hb with e | e
      · exact e ▸ List.mem_cons_self
      · exact List.mem_cons_of_mem _ (x' b e)
    · rcases List.mem_cons.mp h with e | e
      · exact x (e ▸ r.frame _ List.mem_cons_self)
      · exact w e
theorem RelB.notin (R : RelB G F D σ H ρ) (h : H p = none) {as : List Addr} (r : Rs G.K D H G.H0 (F.map (·.1)) σ ρ.sl as) : p ∉ as := by
  have key : ∀ {σ : L2.St} {sl : Sl} {as : List Addr}, Rs G.K D H G.H0 (F.map (·.1)) σ sl as → ∀ a ∈ as, H a ≠ none := by
    intro σ sl as r
    induction r with
    | nil =>
      intro a ha
      obtain ⟨q, hq, rfl⟩ := List.mem_map.mp ha
      rw [(R.fr q hq).1]
      exact fun z => nomatch z
    | no _ ih => exact ih
    | val _ _ ih => exact ih
    | own ob _ _ _ _ ih =>
      intro a ha
      rcases List.mem_cons.mp ha with e | e
      · exact e ▸ ob.there
      · exact ih a e
  exact fun hp => key r p hp h
/-- a new object outside of the slots, of one's own -/
theorem RelB.push (R : RelB G F D σ H ρ) (h : H p = none) (no : NT o := by trivial) : RelB G ((p, o) :: F) D σ (upd H p o) ρ := by
  have R1 := R.tmp (o := o) h
  obtain ⟨as, r⟩ := R.sl
  have n := R.notin h r
  have r2 : Rs G.K D (upd H p o) G.H0 (F.map (·.1)) σ ρ.sl as := r.mono (Same.refl D) (fun a ha _ => upd_ne fun e => n (e ▸ ha)) fun _ _ e _ => e
  obtain ⟨as', _, r3⟩ := rs_push r2 n
  refine ⟨R1.st, ⟨as', r3⟩, fun q hq => ?_, R1.pen, R1.ph, List.forall_mem_cons.mpr ⟨no, R1.nt⟩⟩
  rcases List.mem_cons.mp hq with e | e
  · rw [e]
    exact ⟨upd_same, R.st.dh.free h, R.st.free h⟩
  · exact R1.fr q e
theorem RelB.top (R : RelB G ((p, o) :: F) D σ H ρ) : H p = some o := (R.fr _ List.mem_cons_self).1
/-- it is written -/
theorem RelB.poke {o' : HO} (R : RelB G ((p, o) :: F) D σ H ρ) (nf : p ∉ F.map (·.1)) (no : NT o' := by trivial) : RelB G ((p, o') :: F) D σ (upd H p o') ρ := by
  obtain ⟨f1, f2, f3⟩ := R.fr _ (List.mem_cons_self (a := (p, o)) (l := F))
  obtain ⟨as, r⟩ := R.sl
  have key : ∀ {σ : L2.St} {sl : Sl} {as : List Addr}, Rs G.K D H G.H0 (((p, o) :: F).map (·.1)) σ sl as → Rs G.K D (upd H p o') G.H0 (((p, o') :: F).map (·.1)) σ sl as := by
    intro σ sl as r
    induction r with
    | nil => exact .nil
    | no _ ih => exact .no ih
    | val q _ ih => exact .val q ih
    | @own a s σ ρ as ob d z x r ih => exact .own (ob.mono (Same.refl D) (upd_ne fun e => x (by rw [e]; exact r.frame p List.mem_cons_self))) d z x ih
  refine ⟨R.st.write (.inr f3) f2, ⟨as, key r⟩, fun q hq => ?_, fun b e => ?_, R.ph, List.forall_mem_cons.mpr ⟨no, (List.forall_mem_cons.mp R.nt).2⟩⟩
  · rcases List.mem_cons.mp hq with e | e
    · rw [e]
      exact ⟨upd_same, f2, f3⟩
    · obtain ⟨g1, g2, g3⟩ := R.fr q (List.mem_cons_of_mem _ e)
      exact ⟨by rw [upd_ne (fun z => nf (List.mem_map.mpr ⟨q, e, z⟩))]; exact g1, g2, g3⟩
  · have ne : b ≠ p := fun z => R.ph b e (by rw [z]; exact f3)
    obtain ⟨o, q, ns, t, g, e1, e2, e3, e4⟩ := R.pen b e
    exact ⟨o, q, ns, t, g, by rw [upd_ne ne]; exact e1, e2, e3, e4⟩
/-- it is settled -/
theorem RelB.pop (R : RelB G ((p, o) :: F) D σ H ρ) (nf : p ∉ F.map (·.1)) : RelB G F (upd D p o) σ H ρ ∧ Same D (upd D p o) := by
  obtain ⟨f1, f2, f3⟩ := R.fr _ (List.mem_cons_self (a := (p, o)) (l := F))
  obtain ⟨as, r⟩ := R.sl
  obtain ⟨as', x, y, r'⟩ := rs_pop r nf
  have sm : Same D (upd D p o) := same_new f2
  refine ⟨⟨R.st.settle f3 f1 f2, ⟨as', r'.mono sm (fun _ _ _ => rfl) (fun a ha e _ => by rw [upd_ne fun z => y (by rw [← z]; exact ha)]; exact e)⟩, fun q hq => ?_, fun b e => ?_, R.ph, (List.forall_mem_cons.mp R.nt).2⟩, sm⟩
  · obtain ⟨g1, g2, g3⟩ := R.fr q (List.mem_cons_of_mem _ hq)
    exact ⟨g1, by rw [upd_ne (fun z => nf (List.mem_map.mpr ⟨q, hq, z⟩))]; exact g2, g3⟩
  · have ne : b ≠ p := fun z => R.ph b e (by rw [z]; exact f3)
    obtain ⟨o, q, ns, t, g, e1, e2, e3, e4⟩ := R.pen b e
    exact ⟨by rw [upd_ne ne]; exact o, q, ns, t, g, e1, sm.seq e2, e3, e4⟩
/-- it comes to stand in a slot -/
theorem RelB.popOwn {i : Nat} {s : SV} (R : RelB G ((p, o) :: F) D σ H ρ) (nf : p ∉ F.map (·.1)) (ob : Ob G.K D H p s) : RelB G F D (σ.set i (some (.ref p))) H { ρ with sl := ρ.sl.set i (some s) } := by
  obtain ⟨f1, f2, f3⟩ := R.fr _ (List.mem_cons_self (a := (p, o)) (l := F))
  obtain ⟨as, r⟩ := R.sl
  obtain ⟨as', x, y, r'⟩ := rs_pop r nf
  obtain ⟨as2, _, r2⟩ := r'.setOwn ob f2 f3 i y
  exact ⟨R.st, ⟨as2, r2⟩, fun q hq => R.fr q (List.mem_cons_of_mem _ hq), R.pen, R.ph, (List.forall_mem_cons.mp R.nt).2⟩
theorem RelB.fresh (R : RelB G F D σ H ρ) (h : H p = none) : p ∉ F.map (·.1) := fun hp => by
  obtain ⟨q, hq, e⟩ := List.mem_map.mp hp
  have := (R.fr q hq).1
  rw [e, h] at this
  cases this
theorem RelB.swap2 {q1 q2 : Addr} {o1 o2 : HO} (R : RelB G ((q2, o2) :: (q1, o1) :: F) D σ H ρ) : RelB G ((q1, o1) :: (q2, o2) :: F) D σ H ρ := by
  obtain ⟨a1, ⟨as, a2⟩, a3, a4, a5, a7⟩ := R
  have key : ∀ {σ : L2.St} {sl : Sl} {as : List Addr}, Rs G.K D H G.H0 (q2 :: q1 :: F.map (·.1)) σ sl as → ∃ as', (∀ b, b ∈ as' ↔ b ∈ as) ∧ Rs G.K D H G.H0 (q1 :: q2 :: F.map (·.1)) σ sl as' := by
    intro σ sl as r
    induction r with
    | nil => exact ⟨_, fun b => by simp only [List.mem_cons, or_left_comm], .nil⟩
    | no _ ih => obtain ⟨as', x, y⟩ := ih; exact ⟨as', x, .no y⟩
    | val q _ ih => obtain ⟨as', x, y⟩ := ih; exact ⟨as', x, .val q y⟩
    | own ob d z n _ ih =>
      obtain ⟨as', x, y⟩ := ih
      exact ⟨_, fun b => by simp [x], .own ob d z (fun h => n ((x _).mp h)) y⟩
  obtain ⟨as', _, a6⟩ := key a2
  have sw : ∀ p, p ∈ (q1, o1) :: (q2, o2) :: F → p ∈ (q2, o2) :: (q1, o1) :: F := fun p hp => by
    simp only [List.mem_cons] at hp ⊢
    exact or_left_comm.mp hp
  exact ⟨a1, ⟨as', a6⟩, fun p hp => a3 p (sw p hp), a4, a5, fun p hp => a7 p (sw p hp)⟩
end
/-- an exception: its class, its fields, their values -/
abbrev Exn := Str × List Str × List DV
abbrev PQ := DV → Ps → Prop
abbrev PR := Exn → Nat → Prop
abbrev PEt := Ps → PQ → PR → Prop
abbrev PTt := Ps → (Bool → Ps → Prop) → PR → Prop
abbrev PAt := Ps → (List DV → Ps → Prop) → PR → Prop
structure ExOk (G : Gx) (R : PR) : Prop where
  ok : ∀ (D H : Hp) (x : Exn) (n : Nat) (d : Addr) (ps : List (Str × V)), StepT G.K (Wn G.pn) G.D0 G.H0 D H → PenOk G.K D H G.pn n → D d = some (.xd ps) → ps.map (·.1) = x.2.1 → RvA G.K D (ps.map (·.2)) x.2.2 → R x n → G.E (.ref (He.ga G.K x.1)) (some d) H
def SimE (G : Gx) (t : TE) (p : PEt) : Prop := ∀ (F : List (Addr × HO)) (D : Hp) (σ : L2.St) (H : Hp) (ρ : Ps) (Q : PQ) (R : PR) (k : VK), Rel G F D σ H ρ → p ρ Q R → ExOk G R →
  (∀ d ρ' D' v H', Same D D' → Rel G F D' σ H' ρ' → Rv G.K D' v d → Q d ρ' → k v H') → t σ H k
def SimT (G : Gx) (t : TT) (p : PTt) : Prop := ∀ (F : List (Addr × HO)) (D : Hp) (σ : L2.St) (H : Hp) (ρ : Ps) (Q : Bool → Ps → Prop) (R : PR) (k : Bool → Hp → Prop), Rel G F D σ H ρ → p ρ Q R → ExOk G R →
  (∀ b ρ' D' H', Same D D' → Rel G F D' σ H' ρ' → Q b ρ' → k b H') → t σ H k
def SimA (G : Gx) (t : TA) (p : PAt) : Prop := ∀ (F : List (Addr × HO)) (D : Hp) (σ : L2.St) (H : Hp) (ρ : Ps) (Q : List DV → Ps → Prop) (R : PR) (k : List V → Hp → Prop), Rel G F D σ H ρ → p ρ Q R → ExOk G R →
  (∀ ds ρ' D' vs H', Same D D' → Rel G F D' σ H' ρ' → RvA G.K D' vs ds → Q ds ρ' → k vs H') → t σ H k
def lE (G : Gx) (p : PEt) : TE := fun σ H k => ∃ (F : List (Addr × HO)) (D : Hp) (ρ : Ps) (Q : PQ) (R : PR), Rel G F D σ H ρ ∧ p ρ Q R ∧ ExOk G R ∧ ∀ d ρ' D' v H', Same D D' → Rel G F D' σ H' ρ' → Rv G.K D' v d → Q d ρ' → k v H'
def lT (G : Gx) (p : PTt) : TT := fun σ H k => ∃ (F : List (Addr × HO)) (D : Hp) (ρ : Ps) (Q : Bool → Ps → Prop) (R : PR), Rel G F D σ H ρ ∧ p ρ Q R ∧ ExOk G R ∧ ∀ b ρ' D' H', Same D D' → Rel G F D' σ H' ρ' → Q b ρ' → k b H'
def lA (G : Gx) (p : PAt) : TA := fun σ H k => ∃ (F : List (Addr × HO)) (D : Hp) (ρ : Ps) (Q : List DV → Ps → Prop) (R : PR), Rel G F D σ H ρ ∧ p ρ Q R ∧ ExOk G R ∧ ∀ ds ρ' D' vs H', Same D D' → Rel G F D' σ H' ρ' → RvA G.K D' vs ds → Q ds ρ' → k vs H'
theorem simE_l {G : Gx} {p : PEt} : SimE G (lE G p) p := fun F D σ H ρ Q R k a b c d => ⟨F, D, ρ, Q, R, a, b, c, d⟩
theorem simT_l {G : Gx} {p : PTt} : SimT G (lT G p) p := fun F D σ H ρ Q R k a b c d => ⟨F, D, ρ, Q, R, a, b, c, d⟩
theorem simA_l {G : Gx} {p : PAt} : SimA G (lA G p) p := fun F D σ H ρ Q R k a b c d => ⟨F, D, ρ, Q, R, a, b, c, d⟩
structure DE (G : Gx) (X : Cx) (e : Expr) (p : PEt) : Prop where
  run : PE X e (lE G p)
structure DT (G : Gx) (X : Cx) (e : Expr) (p : PTt) : Prop where
  run : PT X e (lT G p)
structure DW (G : Gx) (X : Cx) (e : Expr) (p : PTt) : Prop where
  run : PW X e (lT G p)
structure DA (G : Gx) (X : Cx) (es : List Expr) (p : PAt) : Prop where
  run : PA X es (lA G p)
section
variable {G : Gx} {X : Cx} {e : Expr} {es : List Expr} {p : PEt} {q : PTt} {l : PAt}
theorem DE.of {t : TE} (h : PE X e t) (s : SimE G t p) : DE G X e p := ⟨⟨fun pins sh σ H Q I ⟨F, D, ρ, Qp, R, a, b, c, d⟩ => h.run pins sh σ H Q I (s F D σ H ρ Qp R Q a b c d)⟩⟩
theorem DT.of {t : TT} (h : PT X e t) (s : SimT G t q) : DT G X e q := ⟨⟨fun pins sh σ H Q I ⟨F, D, ρ, Qp, R, a, b, c, d⟩ => h.run pins sh σ H Q I (s F D σ H ρ Qp R Q a b c d)⟩⟩
theorem DW.of {t : TT} (h : PW X e t) (s : SimT G t q) : DW G X e q := ⟨⟨fun wh pins sh σ H Q I ⟨F, D, ρ, Qp, R, a, b, c, d⟩ => h.run wh pins sh σ H Q I (s F D σ H ρ Qp R Q a b c d)⟩⟩
theorem DA.of {t : TA} (h : PA X es t) (s : SimA G t l) : DA G X es l := ⟨⟨fun pos pins sh σ H Q I ⟨F, D, ρ, Qp, R, a, b, c, d⟩ => h.run pos pins sh σ H Q I (s F D σ H ρ Qp R Q a b c d)⟩⟩
theorem DE.ex (h : DE G X e p) : ∃ t, PE X e t ∧ SimE G t p := ⟨_, h.run, simE_l⟩
theorem DT.ex (h : DT G X e q) : ∃ t, PT X e t ∧ SimT G t q := ⟨_, h.run, simT_l⟩
theorem DW.ex (h : DW G X e q) : ∃ t, PW X e t ∧ SimT G t q := ⟨_, h.run, simT_l⟩
theorem DA.ex (h : DA G X es l) : ∃ t, PA X es t ∧ SimA G t l := ⟨_, h.run, simA_l⟩
end
section
variable {G : Gx} {X : Cx} {a b c e : Expr} {es : List Expr} {pos : Pos} {pa pb pc : PEt} {pt pu : PTt} {pl : PAt}
def pVar (i : Nat) : PEt := fun ρ Q _ => match ρ.sl[i]? with
  | some (some (.val d)) => Q d ρ
  | some (some (.lst ds)) => Q (.lst ds) { ρ with sl := ρ.sl.set i (some (.val (.lst ds))) }
  | _ => False
theorem d_var {i : Nat} {x : Str} (h : PE X (.Name x pos) (tVar i)) : DE G X (.Name x pos) (pVar i) := by
  refine DE.of h fun F D σ H ρ Q R k rel hp hx cont => ?_
  unfold pVar at hp
  split at hp
  · next d e =>
    obtain ⟨v, h1, h2⟩ := rel.get e
    exact ⟨v, h1, cont d ρ D v H (Same.refl D) rel h2 hp⟩
  · next ds e =>
    obtain ⟨a, D', h1, sm, rel', rv⟩ := rel.settle e
    exact ⟨_, h1, cont _ _ D' _ H sm rel' rv hp⟩
  · exact hp.elim
def pC (d : DV) : PEt := fun ρ Q _ => Q d ρ
theorem d_int {i : Int} {j} : DE G X (.Constant (.int i) j pos) (pC (.int i)) := DE.of pe_int fun F D σ H ρ Q R k rel hp hx cont => cont _ _ D _ H (Same.refl D) rel (.int i) hp
theorem d_bl {i : Bool} {j} : DE G X (.Constant (.bool i) j pos) (pC (.bl i)) := DE.of pe_bl fun F D σ H ρ Q R k rel hp hx cont => cont _ _ D _ H (Same.refl D) rel (.bl i) hp
theorem d_str {i : Str} {j} : DE G X (.Constant (.str i) j pos) (pC (.str i)) := DE.of pe_str fun F D σ H ρ Q R k rel hp hx cont => cont _ _ D _ H (Same.refl D) rel (.str i) hp
theorem d_non {j} : DE G X (.Constant .none j pos) (pC .non) := DE.of pe_non fun F D σ H ρ Q R k rel hp hx cont => cont _ _ D _ H (Same.refl D) rel .non hp
/-- a value that stands fast -/
theorem d_fast {v : V} {d : DV} (h : PE X e (tC v)) (r : ∀ K D, Rv K D v d) : DE G X e (pC d) := DE.of h fun F D σ H ρ Q R k rel hp hx cont => cont _ _ D _ H (Same.refl D) rel (r _ _) hp
def pNil : PAt := fun ρ Q _ => Q [] ρ
def pCons (pa : PEt) (pl : PAt) : PAt := fun ρ Q R => pa ρ (fun d ρ1 => pl ρ1 (fun ds ρ2 => Q (d :: ds) ρ2) R) R
theorem a_nil : DA G X [] pNil := DA.of pa_nil fun F D σ H ρ Q R k rel hp hx cont => cont [] ρ D [] H (Same.refl D) rel .nil hp
theorem a_cons (ha : DE G X e pa) (hl : DA G X es pl) (hs : starEach (e :: es) X.env = (false, eval e X.env) :: starEach es X.env := by rfl) : DA G X (e :: es) (pCons pa pl) := by
  obtain ⟨t, h1, s1⟩ := ha.ex
  obtain ⟨u, h2, s2⟩ := hl.ex
  refine DA.of (pa_cons h1 h2 hs) fun F D σ H ρ Q R k rel hp hx cont => ?_
  refine s1 F D σ H ρ _ R _ rel hp hx fun d ρ1 D1 v H1 e1 r1 q1 hp1 => ?_
  refine s2 F D1 σ H1 ρ1 _ R _ r1 hp1 hx fun ds ρ2 D2 vs H2 e2 r2 q2 hp2 => ?_
  exact cont _ ρ2 D2 _ H2 (e1.trans e2) r2 (.cons (rv_mono e2 q1) q2) hp2
def pTup (pl : PAt) : PEt := fun ρ Q R => pl ρ (fun ds ρ1 => ds.length ≤ sizeLine ∧ Q (.tup ds) ρ1) R
theorem d_tup {x1} (hl : DA G X es pl) : DE G X (.Tuple es x1 pos) (pTup pl) := by
  obtain ⟨u, h2, s2⟩ := hl.ex
  refine DE.of (pe_tup h2) fun F D σ H ρ Q R k rel hp hx cont => ?_
  refine s2 F D σ H ρ _ R _ rel hp hx fun ds ρ2 D2 vs H2 e2 r2 q2 hp2 => ⟨by rw [rvA_len q2]; exact hp2.1, fun p np => ?_⟩
  exact cont _ ρ2 _ _ _ (e2.trans (r2.newS np)) (r2.new np) (.tup upd_same (rvA_mono (r2.newS np) q2)) hp2.2
end
end Rg

set_option Elab.async false
set_option linter.all false
set_option maxRecDepth 100000
set_option maxHeartbeats 2000000
namespace Rg
open PySem PySem.Spec PyProof.Rows L2
mutual
def toPy : DV → Option PyData
  | .non => some .none
  | .bl b => some (.bool b)
  | .int i => some (.int i)
  | .str x => some (.str x)
  | .raw _ => none
  | .node .lst xs => (toPyA xs).map PyData.list
  | .node .tup xs => (toPyA xs).map PyData.tuple
  | .node (.ins _ _) _ => none
  | .node (.exc _ _) _ => none
  | .node (.dct _) _ => none
def toPyA : List DV → Option (List PyData)
  | [] => some []
  | d :: ds => (toPy d).bind fun p => (toPyA ds).map fun ps => p :: ps
end
theorem rv_dp {K : PySem.W.Frag} {D : Hp} {v : V} {d : DV} (h : Rv K D v d) : ∀ p, toPy d = some p → Dp K D v p :=
  Rv.rec (motive_1 := fun v d _ => ∀ p, toPy d = some p → Dp K D v p) (motive_2 := fun vs ds _ => ∀ ps, toPyA ds = some ps → DpAll K D vs ps)
    (fun p e => by rw [toPy] at e; cases e; exact .non) (fun b p e => by rw [toPy] at e; cases e; exact .bl b) (fun b p e => by rw [toPy] at e; cases e; exact .int b) (fun b p e => by rw [toPy] at e; cases e; exact .str b)
    (fun v p e => by rw [toPy] at e; cases e)
    (fun h _ i p e => by
      rw [toPy] at e
      obtain ⟨ps, h1, rfl⟩ := Option.map_eq_some_iff.mp e
      exact .lst (SqL.of h) (i ps h1))
    (fun h _ i p e => by
      rw [toPy] at e
      obtain ⟨ps, h1, rfl⟩ := Option.map_eq_some_iff.mp e
      exact .tup (SqT.of h) (i ps h1))
    (fun _ _ _ _ p e => by rw [toPy] at e; cases e)
    (fun _ _ _ _ _ p e => by rw [toPy] at e; cases e)
    (fun _ _ _ _ p e => by rw [toPy] at e; cases e)
    (fun ps e => by rw [toPyA] at e; cases e; exact .nil)
    (fun _ _ i j ps e => by
      rw [toPyA] at e
      obtain ⟨q, h1, h2⟩ := Option.bind_eq_some_iff.mp e
      obtain ⟨qs, h3, rfl⟩ := Option.map_eq_some_iff.mp h2
      exact .cons (i q h1) (j qs h3)) h
abbrev O2 := DV → DV → (DV → Prop) → Prop
structure BinD (G : Gx) (X : Cx) (f : Value → Value → Sem Value) (o : O2) : Prop where
  ex : ∃ r, OpR X f r ∧ ∀ (F : List (Addr × HO)) (D : Hp) (σ : L2.St) (H : Hp) (ρ : Ps) (x y : V) (a b : DV) (Q : DV → Prop) (k : VK), Rel G F D σ H ρ → Rv G.K D x a → Rv G.K D y b → o a b Q →
    (∀ d v D' H', Same D D' → Rel G F D' σ H' ρ → Rv G.K D' v d → Q d → k v H') → r x y H k
def pOp (o : O2) (pa pb : PEt) : PEt := fun ρ Q R => pa ρ (fun x ρ1 => pb ρ1 (fun y ρ2 => o x y fun z => Q z ρ2) R) R
section
variable {G : Gx} {X : Cx} {a b c e : Expr} {es : List Expr} {pos : Pos} {pa pb pc : PEt} {pt pu : PTt} {pl : PAt} {o : O2}
theorem sim_op {ta tb : TE} {r : R2} (s1 : SimE G ta pa) (s2 : SimE G tb pb) (hr : ∀ (F : List (Addr × HO)) (D : Hp) (σ : L2.St) (H : Hp) (ρ : Ps) (x y : V) (a b : DV) (Q : DV → Prop) (k : VK), Rel G F D σ H ρ → Rv G.K D x a → Rv G.K D y b → o a b Q →
    (∀ d v D' H', Same D D' → Rel G F D' σ H' ρ → Rv G.K D' v d → Q d → k v H') → r x y H k) : SimE G (tOp r ta tb) (pOp o pa pb) := by
  intro F D σ H ρ Q R k rel hp hx cont
  refine s1 F D σ H ρ _ R _ rel hp hx fun x ρ1 D1 v H1 e1 r1 q1 hp1 => ?_
  refine s2 F D1 σ H1 ρ1 _ R _ r1 hp1 hx fun y ρ2 D2 w H2 e2 r2 q2 hp2 => ?_
  exact hr F D2 σ H2 ρ2 v w x y _ k r2 (rv_mono e2 q1) q2 hp2 fun d v D' H' s r q h => cont d ρ2 D' v H' ((e1.trans e2).trans s) r q h
theorem d_op {op : Operator} (ho : BinD G X (binaryOp op) o) (ha : DE G X a pa) (hb : DE G X b pb) : DE G X (.BinOp a op b pos) (pOp o pa pb) := by
  obtain ⟨r, h, s⟩ := ho.ex
  exact DE.of (pe_op h ha.run hb.run) (sim_op simE_l simE_l s)
theorem d_cmp {op : CmpOp} (ho : BinD G X (compareOp op) o) (ha : DE G X a pa) (hb : DE G X b pb) (hm : behindInMarks op b = false) : DE G X (.Compare a [op] [b] pos) (pOp o pa pb) := by
  obtain ⟨r, h, s⟩ := ho.ex
  exact DE.of (pe_cmpR h ha.run hb.run hm) (sim_op simE_l simE_l s)
def pTst (p : PEt) : PTt := fun ρ Q R => p ρ (fun d ρ1 => match d with | .bl b => Q b ρ1 | _ => False) R
theorem sim_tst {t : TE} (s : SimE G t pa) : SimT G (tTest t) (pTst pa) := by
  intro F D σ H ρ Q R k rel hp hx cont
  refine s F D σ H ρ _ R _ rel hp hx fun d ρ1 D1 v H1 e1 r1 q1 hp1 => ?_
  cases d with
  | bl b => exact ⟨b, rv_bl q1, cont b ρ1 D1 H1 e1 r1 hp1⟩
  | _ => exact hp1.elim
theorem t_cmp {op : CmpOp} (ho : BinD G X (compareOp op) o) (ha : DE G X a pa) (hb : DE G X b pb) (hm : behindInMarks op b = false) : DT G X (.Compare a [op] [b] pos) (pTst (pOp o pa pb)) := by
  obtain ⟨r, h, s⟩ := ho.ex
  exact DT.of (pt_cmpR h ha.run hb.run hm) (sim_tst (sim_op simE_l simE_l s))
/-- a < b < c -/
def pChain (o o' : O2) (pa pb pc : PEt) : PEt := fun ρ Q R => pa ρ (fun x ρ1 => pb ρ1 (fun y ρ2 => o x y fun z => match z with
  | .bl true => pc ρ2 (fun w ρ3 => o' y w fun u => match u with | .bl k => Q (.bl k) ρ3 | _ => False) R
  | .bl false => Q (.bl false) ρ2
  | _ => False) R) R
def oCmp (g : Int → Int → Bool) : O2 := fun a b Q => match a, b with
  | .int i, .int j => Q (.bl (g i j))
  | _, _ => False
theorem binC {f : Value → Value → Sem Value} {g : Int → Int → Bool} (h : OpR X f (rI0 fun i j => .bl (g i j))) : BinD G X f (oCmp g) := by
  refine ⟨_, h, fun F D σ H ρ x y a b Q k rel ra rb ho cont => ?_⟩
  unfold oCmp at ho
  split at ho
  · exact ⟨_, _, rv_int ra, rv_int rb, cont _ _ D H (Same.refl D) rel (.bl _) ho⟩
  · exact ho.elim
theorem b_le : BinD G X (compareOp .LtE) (oCmp fun i j => decide (i ≤ j)) := binC op_le
theorem b_gt : BinD G X (compareOp .Gt) (oCmp fun i j => decide (j < i)) := binC op_gt
theorem OpR.or {f : Value → Value → Sem Value} {r r' : R2} (h : OpR X f r) (h' : OpR X f r') : OpR X f (fun x y H Q => r x y H Q ∨ r' x y H Q) := by
  intro pins s σ H x y v u Q I rx ry q
  rcases q with q | q
  · exact h pins s σ H x y v u Q I rx ry q
  · exact h' pins s σ H x y v u Q I rx ry q
/-- +: numbers, texts, lists, tuples -/
def oAdd : O2 := fun a b Q => match a, b with
  | .int i, .int j => Q (.int (i + j))
  | .str i, .str j => i.length + j.length ≤ sizeLine ∧ Q (.str (i ++ j))
  | .node .lst xs, .node .lst ys => xs.length + ys.length ≤ sizeLine ∧ Q (.lst (xs ++ ys))
  | .node .tup (x :: xs), .node .tup ys => (x :: xs).length + ys.length ≤ sizeLine ∧ Q (.tup (x :: xs ++ ys))
  | _, _ => False
theorem b_add (hK : X.K = G.K := by rfl) : BinD G X (binaryOp .Add) oAdd := by
  refine ⟨_, OpR.or op_add (OpR.or op_add_str (OpR.or op_cat (op_catTK G.K hK))), fun F D σ H ρ x y a b Q k rel ra rb ho cont => ?_⟩
  unfold oAdd at ho
  split at ho
  · exact .inl ⟨_, _, rv_int ra, rv_int rb, cont _ _ D H (Same.refl D) rel (.int _) ho⟩
  · exact .inr (.inl ⟨_, _, rv_str ra, rv_str rb, ho.1, cont _ _ D H (Same.refl D) rel (.str _) ho.2⟩)
  · obtain ⟨p, vs, rfl, h1, h2⟩ := rv_lst ra
    obtain ⟨q, ws, rfl, h3, h4⟩ := rv_lst rb
    refine .inr (.inr (.inl ⟨p, q, vs, ws, rfl, rfl, rel.same _ _ h1, rel.same _ _ h3, by rw [rvA_len h2, rvA_len h4]; exact ho.1, fun l hl => ?_⟩))
    exact cont _ _ _ _ (rel.newS hl) (rel.new hl) (.lst upd_same (rvA_mono (rel.newS hl) (rvA_app h2 h4))) ho.2
  · obtain ⟨p, vs, rfl, h1, h2⟩ := rv_tup ra
    obtain ⟨q, ws, rfl, h3, h4⟩ := rv_tup rb
    have hv : vs ≠ [] := fun e => by rw [e] at h2; cases h2
    refine .inr (.inr (.inr ⟨p, q, vs, ws, rfl, rfl, SqT.of (rel.same _ _ h1), SqT.of (rel.same _ _ h3), hv, by rw [rvA_len h2, rvA_len h4]; exact ho.1, fun e => ?_, fun _ l hl => ?_⟩))
    · have e0 : _ = [] := e
      subst e0
      cases h4
      have h5 := ho.2
      rw [List.append_nil] at h5
      exact cont _ _ D H (Same.refl D) rel (.tup h1 h2) h5
    · exact cont _ _ _ _ (rel.newS hl) (rel.new hl) (.tup upd_same (rvA_mono (rel.newS hl) (rvA_app h2 h4))) ho.2
  · exact ho.elim
theorem rvA_rep {K : PySem.W.Frag} {D : Hp} {vs : List V} {ds : List DV} (h : RvA K D vs ds) : ∀ n : Nat, RvA K D (List.replicate n vs).flatten (List.replicate n ds).flatten
  | 0 => .nil
  | n + 1 => by
    rw [List.replicate_succ, List.replicate_succ, List.flatten_cons, List.flatten_cons]
    exact rvA_app h (rvA_rep h n)
def oEqN (neg : Bool) : O2 := fun a b Q => match a, b with
  | .int i, .int j => Q (.bl (decide (i = j) ^^ neg))
  | .str i, .str j => Q (.bl (decide (i = j) ^^ neg))
  | .bl i, .bl j => Q (.bl (decide (i = j) ^^ neg))
  | a, b => ∃ d e, toPy a = some d ∧ toPy b = some e ∧ SeqAt.shaped d = true ∧ SeqAt.shaped e = true ∧ Q (.bl (PyData.eqv d e ^^ neg))
theorem xor_f (b : Bool) : (b ^^ false) = b := by cases b <;> rfl
theorem xor_t (b : Bool) : (b ^^ true) = !b := by cases b <;> rfl
theorem b_eq (hu : X.A.units + 64 < cLine) (hK : X.K = G.K := by rfl) : BinD G X (compareOp .Eq) (oEqN false) := by
  refine ⟨_, OpR.or op_eq (op_eqDK G.K hu hK), fun F D σ H ρ x y a b Q k rel ra rb ho cont => ?_⟩
  unfold oEqN at ho
  split at ho
  · rw [xor_f] at ho
    rw [rv_int ra, rv_int rb]
    exact .inl ⟨rfl, cont _ _ D H (Same.refl D) rel (by rw [show decide (V.int _ = V.int _) = _ from decide_eq_decide.mpr ⟨fun e => V.int.inj e, fun e => by rw [e]⟩]; exact .bl _) ho⟩
  · rw [xor_f] at ho
    rw [rv_str ra, rv_str rb]
    exact .inl ⟨rfl, cont _ _ D H (Same.refl D) rel (by rw [show decide (V.str _ = V.str _) = _ from decide_eq_decide.mpr ⟨fun e => V.str.inj e, fun e => by rw [e]⟩]; exact .bl _) ho⟩
  · rw [xor_f] at ho
    rw [rv_bl ra, rv_bl rb]
    exact .inl ⟨rfl, cont _ _ D H (Same.refl D) rel (by rw [show decide (V.bl _ = V.bl _) = _ from decide_eq_decide.mpr ⟨fun e => V.bl.inj e, fun e => by rw [e]⟩]; exact .bl _) ho⟩
  · obtain ⟨d, e, h1, h2, h3, h4, h5⟩ := ho
    rw [xor_f] at h5
    exact .inr ⟨d, e, rv_dp (rv_mono rel.same ra) _ h1, rv_dp (rv_mono rel.same rb) _ h2, h3, h4, cont _ _ D H (Same.refl D) rel (.bl _) h5⟩
theorem b_ne (hu : X.A.units + 64 < cLine) (hK : X.K = G.K := by rfl) : BinD G X (compareOp .NotEq) (oEqN true) := by
  refine ⟨_, OpR.or op_ne (op_neDK G.K hu hK), fun F D σ H ρ x y a b Q k rel ra rb ho cont => ?_⟩
  unfold oEqN at ho
  split at ho
  · rw [xor_t] at ho
    rw [rv_int ra, rv_int rb]
    exact .inl ⟨rfl, cont _ _ D H (Same.refl D) rel (by rw [show decide (V.int _ = V.int _) = _ from decide_eq_decide.mpr ⟨fun e => V.int.inj e, fun e => by rw [e]⟩]; exact .bl _) ho⟩
  · rw [xor_t] at ho
    rw [rv_str ra, rv_str rb]
    exact .inl ⟨rfl, cont _ _ D H (Same.refl D) rel (by rw [show decide (V.str _ = V.str _) = _ from decide_eq_decide.mpr ⟨fun e => V.str.inj e, fun e => by rw [e]⟩]; exact .bl _) ho⟩
  · rw [xor_t] at ho
    rw [rv_bl ra, rv_bl rb]
    exact .inl ⟨rfl, cont _ _ D H (Same.refl D) rel (by rw [show decide (V.bl _ = V.bl _) = _ from decide_eq_decide.mpr ⟨fun e => V.bl.inj e, fun e => by rw [e]⟩]; exact .bl _) ho⟩
  · obtain ⟨d, e, h1, h2, h3, h4, h5⟩ := ho
    rw [xor_t] at h5
    exact .inr ⟨d, e, rv_dp (rv_mono rel.same ra) _ h1, rv_dp (rv_mono rel.same rb) _ h2, h3, h4, cont _ _ D H (Same.refl D) rel (.bl _) h5⟩
def oIn (neg : Bool) : O2 := fun a b Q => match b with
  | .str z => match a with
    | .str x => ∃ c, x = sgn c ∧ Q (.bl (decide (c ∈ z.cps.toList) ^^ neg))
    | _ => False
  | .node .lst xs => ∃ d ds, toPy a = some d ∧ toPyA xs = some ds ∧ SeqAt.shaped d = true ∧ SeqAt.shaped (.list ds) = true ∧ Q (.bl ((ds.any fun z => PyData.eqv z d) ^^ neg))
  | _ => False
theorem b_in (hu : X.A.units + 65 < cLine) (hK : X.K = G.K := by rfl) : BinD G X (compareOp .In) (oIn false) := by
  refine ⟨_, OpR.or op_in_sign (op_inDK G.K hu hK), fun F D σ H ρ x y a b Q k rel ra rb ho cont => ?_⟩
  unfold oIn at ho
  split at ho
  · split at ho
    · obtain ⟨c, e, ho⟩ := ho
      rw [xor_f] at ho
      exact .inl ⟨c, _, by rw [rv_str ra, e]; rfl, rv_str rb, cont _ _ D H (Same.refl D) rel (.bl _) ho⟩
    · exact ho.elim
  · obtain ⟨d, ds, h1, h2, h3, h4, h5⟩ := ho
    rw [xor_f] at h5
    exact .inr ⟨d, ds, rv_dp (rv_mono rel.same ra) _ h1, rv_dp (rv_mono rel.same rb) _ (by rw [toPy, h2]; rfl), h3, h4, cont _ _ D H (Same.refl D) rel (.bl _) h5⟩
  · exact ho.elim
theorem b_notIn (hu : X.A.units + 65 < cLine) (hK : X.K = G.K := by rfl) : BinD G X (compareOp .NotIn) (oIn true) := by
  refine ⟨_, OpR.or op_notIn_sign (op_notInDK G.K hu hK), fun F D σ H ρ x y a b Q k rel ra rb ho cont => ?_⟩
  unfold oIn at ho
  split at ho
  · split at ho
    · obtain ⟨c, e, ho⟩ := ho
      rw [xor_t] at ho
      exact .inl ⟨c, _, by rw [rv_str ra, e]; rfl, rv_str rb, cont _ _ D H (Same.refl D) rel (.bl _) ho⟩
    · exact ho.elim
  · obtain ⟨d, ds, h1, h2, h3, h4, h5⟩ := ho
    rw [xor_t] at h5
    exact .inr ⟨d, ds, rv_dp (rv_mono rel.same ra) _ h1, rv_dp (rv_mono rel.same rb) _ (by rw [toPy, h2]; rfl), h3, h4, cont _ _ D H (Same.refl D) rel (.bl _) h5⟩
  · exact ho.elim
def tru : DV → Option Bool
  | .non => some false
  | .bl b => some b
  | .int i => some (i != 0)
  | .str _ => none
  | .raw _ => none
  | .node .lst xs => some (!xs.isEmpty)
  | .node .tup xs => some (!xs.isEmpty)
  | .node (.ins _ _) _ => none
  | .node (.exc _ _) _ => none
  | .node (.dct _) _ => none
theorem rv_tru {K : PySem.W.Frag} {D H : Hp} {v : V} {d : DV} {k : Bool} (h : Rv K D v d) (sd : Same D H) (e : tru d = some k) : TruV K v H k := by
  cases h with
  | non => cases e; rfl
  | bl b => cases e; rfl
  | int b => cases e; rfl
  | str x => cases e
  | raw v => cases e
  | lst h1 h2 =>
    cases e
    refine .inl ⟨_, SqL.of (sd _ _ h1), ?_⟩
    cases h2 <;> rfl
  | tup h1 h2 =>
    cases e
    refine .inr (.inl ⟨_, SqT.of (sd _ _ h1), ?_⟩)
    cases h2 <;> rfl
  | ins _ _ _ => cases e
  | exc _ _ _ _ => cases e
  | dct _ _ _ => cases e
def pTru (pa : PEt) : PTt := fun ρ Q R => pa ρ (fun d ρ1 => match tru d with | some k => Q k ρ1 | none => False) R
theorem t_tru (ha : DE G X a pa) (he : ∀ whole, isTrue a X.env whole = (do let v ← whole; standAt a.pos; holding [v] (truthy v)) := by intro _; rfl) (hK : X.K = G.K := by rfl) : DT G X a (pTru pa) := by
  refine DT.of (pt_truth ha.run he) fun F D σ H ρ Q R k rel hp hx cont => ?_
  refine simE_l F D σ H ρ _ R _ rel hp hx fun d ρ1 D1 v H1 e1 r1 q1 hp1 => ?_
  split at hp1
  · next kk e => exact ⟨kk, by rw [hK]; exact rv_tru q1 r1.same e, cont kk ρ1 D1 H1 e1 r1 hp1⟩
  · exact hp1.elim
def pNotV (pa : PEt) : PEt := fun ρ Q R => pa ρ (fun d ρ1 => match tru d with | some k => Q (.bl (!k)) ρ1 | none => False) R
theorem d_not (ha : DE G X a pa) (hK : X.K = G.K := by rfl) : DE G X (.UnaryOp .Not a pos) (pNotV pa) := by
  refine DE.of (pe_notT ha.run) fun F D σ H ρ Q R k rel hp hx cont => ?_
  refine simE_l F D σ H ρ _ R _ rel hp hx fun d ρ1 D1 v H1 e1 r1 q1 hp1 => ?_
  split at hp1
  · next kk e => exact ⟨kk, by rw [hK]; exact rv_tru q1 r1.same e, cont _ ρ1 D1 _ H1 e1 r1 (.bl _) hp1⟩
  · exact hp1.elim
def pAndV (pa pb : PEt) : PEt := fun ρ Q R => pa ρ (fun d ρ1 => match tru d with | some true => pb ρ1 Q R | some false => Q d ρ1 | none => False) R
def pOrV (pa pb : PEt) : PEt := fun ρ Q R => pa ρ (fun d ρ1 => match tru d with | some true => Q d ρ1 | some false => pb ρ1 Q R | none => False) R
variable {rest : List Expr}
theorem d_one {op} (h : DE G X a pa) : DE G X (.BoolOp op [a] pos) pa := ⟨pe_one h.run⟩
theorem d_and (ha : DE G X a pa) (hb : DE G X (.BoolOp .And (b :: rest) pos) pb) (hK : X.K = G.K := by rfl) : DE G X (.BoolOp .And (a :: b :: rest) pos) (pAndV pa pb) := by
  refine DE.of (pe_andT ha.run hb.run) fun F D σ H ρ Q R k rel hp hx cont => ?_
  refine simE_l F D σ H ρ _ R _ rel hp hx fun d ρ1 D1 v H1 e1 r1 q1 hp1 => ?_
  split at hp1
  · next e => exact ⟨true, by rw [hK]; exact rv_tru q1 r1.same e, iteT (simE_l F D1 σ H1 ρ1 Q R _ r1 hp1 hx fun d ρ2 D2 v H2 e2 r2 q2 hp2 => cont d ρ2 D2 v H2 (e1.trans e2) r2 q2 hp2)⟩
  · next e => exact ⟨false, by rw [hK]; exact rv_tru q1 r1.same e, iteF (cont _ ρ1 D1 _ H1 e1 r1 q1 hp1)⟩
  · exact hp1.elim
theorem d_or (ha : DE G X a pa) (hb : DE G X (.BoolOp .Or (b :: rest) pos) pb) (hK : X.K = G.K := by rfl) : DE G X (.BoolOp .Or (a :: b :: rest) pos) (pOrV pa pb) := by
  refine DE.of (pe_orT ha.run hb.run) fun F D σ H ρ Q R k rel hp hx cont => ?_
  refine simE_l F D σ H ρ _ R _ rel hp hx fun d ρ1 D1 v H1 e1 r1 q1 hp1 => ?_
  split at hp1
  · next e => exact ⟨true, by rw [hK]; exact rv_tru q1 r1.same e, iteT (cont _ ρ1 D1 _ H1 e1 r1 q1 hp1)⟩
  · next e => exact ⟨false, by rw [hK]; exact rv_tru q1 r1.same e, iteF (simE_l F D1 σ H1 ρ1 Q R _ r1 hp1 hx fun d ρ2 D2 v H2 e2 r2 q2 hp2 => cont d ρ2 D2 v H2 (e1.trans e2) r2 q2 hp2)⟩
  · exact hp1.elim
def pOr (pt pu : PTt) : PTt := fun ρ Q R => pt ρ (fun c ρ1 => if c = true then Q true ρ1 else pu ρ1 Q R) R
def pNot (pt : PTt) : PTt := fun ρ Q R => pt ρ (fun c ρ1 => Q (!c) ρ1) R
theorem w_or1 (h : DT G X a pt) : DW G X (.BoolOp .Or [a] pos) pt := ⟨pw_or1 h.run⟩
theorem DW.t (h : DW G X a pt) : DT G X a pt := ⟨h.run.pt⟩
theorem w_or (ha : DT G X a pt) (hb : DW G X (.BoolOp .Or (b :: rest) pos) pu) : DW G X (.BoolOp .Or (a :: b :: rest) pos) (pOr pt pu) := by
  refine DW.of (pw_or ha.run hb.run) fun F D σ H ρ Q R k rel hp hx cont => ?_
  refine simT_l F D σ H ρ _ R _ rel hp hx fun c ρ1 D1 H1 e1 r1 hp1 => ?_
  cases c with
  | true => exact iteT (cont _ ρ1 D1 H1 e1 r1 hp1)
  | false => exact iteF (simT_l F D1 σ H1 ρ1 Q R _ r1 hp1 hx fun d ρ2 D2 H2 e2 r2 hp2 => cont d ρ2 D2 H2 (e1.trans e2) r2 hp2)
theorem t_not (ha : DT G X a pt) : DT G X (.UnaryOp .Not a pos) (pNot pt) := by
  refine DT.of (pt_not ha.run) fun F D σ H ρ Q R k rel hp hx cont => ?_
  exact simT_l F D σ H ρ _ R _ rel hp hx fun c ρ1 D1 H1 e1 r1 hp1 => cont _ ρ1 D1 H1 e1 r1 hp1
def pIf (pt : PTt) (pa pb : PEt) : PEt := fun ρ Q R => pt ρ (fun c ρ1 => if c = true then pa ρ1 Q R else pb ρ1 Q R) R
theorem d_if (hc : DT G X c pt) (ha : DE G X a pa) (hb : DE G X b pb) : DE G X (.IfExp c a b pos) (pIf pt pa pb) := by
  refine DE.of (pe_ifExp hc.run ha.run hb.run) fun F D σ H ρ Q R k rel hp hx cont => ?_
  refine simT_l F D σ H ρ _ R _ rel hp hx fun c ρ1 D1 H1 e1 r1 hp1 => ?_
  cases c with
  | true => exact iteT (simE_l F D1 σ H1 ρ1 Q R _ r1 hp1 hx fun d ρ2 D2 v H2 e2 r2 q2 hp2 => cont d ρ2 D2 v H2 (e1.trans e2) r2 q2 hp2)
  | false => exact iteF (simE_l F D1 σ H1 ρ1 Q R _ r1 hp1 hx fun d ρ2 D2 v H2 e2 r2 q2 hp2 => cont d ρ2 D2 v H2 (e1.trans e2) r2 q2 hp2)
end
end Rg

set_option Elab.async false
set_option linter.all false
set_option maxRecDepth 100000
set_option maxHeartbeats 2000000
namespace Rg
open PySem PySem.Spec PyProof.Rows L2
theorem rvA_atI {K : PySem.W.Frag} {D : Hp} {vs : List V} {ds : List DV} {i : Int} {d : DV} (h : RvA K D vs ds) (e : atI ds i = some d) : ∃ v, atI vs i = some v ∧ Rv K D v d := by
  unfold atI at e ⊢
  rw [rvA_len h]
  obtain ⟨j, h1, h2⟩ := Option.bind_eq_some_iff.mp e
  obtain ⟨v, h3, h4⟩ := rvA_at h h2
  exact ⟨v, by rw [h1]; exact h3, h4⟩
section
variable {G : Gx} {X : Cx} {a b c e : Expr} {es : List Expr} {pos : Pos} {pa pb pc : PEt} {pt pu : PTt} {pl : PAt} {o : O2}
def oIx : O2 := fun a b Q => match a, b with
  | .node .lst xs, .int i => match atI xs i with | some d => Q d | none => False
  | .node .tup xs, .int i => match atI xs i with | some d => Q d | none => False
  | .str z, .int i => z.length ≤ sizeLine ∧ match atI z.cps.toList i with | some c => Q (.str (sgn c)) | none => False
  | _, _ => False
theorem ix_sim {F : List (Addr × HO)} {D : Hp} {σ : L2.St} {H : Hp} {ρ : Ps} {x y : V} {a b : DV} {Q : DV → Prop} {k : VK} (rel : Rel G F D σ H ρ) (ra : Rv G.K D x a) (rb : Rv G.K D y b) (ho : oIx a b Q)
    (cont : ∀ d v D' H', Same D D' → Rel G F D' σ H' ρ → Rv G.K D' v d → Q d → k v H') : rIx G.K x y H k := by
  unfold oIx at ho
  split at ho
  · split at ho
    · next d e =>
      obtain ⟨p, vs, rfl, h1, h2⟩ := rv_lst ra
      obtain ⟨v, h3, h4⟩ := rvA_atI h2 e
      exact .inl ⟨p, vs, _, v, rfl, rv_int rb, SqL.of (rel.same _ _ h1), h3, cont _ _ D H (Same.refl D) rel h4 ho⟩
    · exact ho.elim
  · split at ho
    · next d e =>
      obtain ⟨p, vs, rfl, h1, h2⟩ := rv_tup ra
      obtain ⟨v, h3, h4⟩ := rvA_atI h2 e
      exact .inr (.inl ⟨p, vs, _, v, rfl, rv_int rb, SqT.of (rel.same _ _ h1), h3, cont _ _ D H (Same.refl D) rel h4 ho⟩)
    · exact ho.elim
  · obtain ⟨hz, ho⟩ := ho
    split at ho
    · next c e => exact .inr (.inr ⟨_, _, c, rv_str ra, rv_int rb, hz, e, cont _ _ D H (Same.refl D) rel (.str _) ho⟩)
    · exact ho.elim
  · exact ho.elim
theorem ix_seqK {K : PySem.W.Frag} (h : X.K = K) : IxR X (rIx K) := h ▸ ix_seq
theorem d_ix (ha : DE G X a pa) (hb : DE G X b pb) (hs : PlainIx b := by exact fun _ _ => rfl) (hK : X.K = G.K := by rfl) : DE G X (.Subscript a b pos) (pOp oIx pa pb) :=
  DE.of (pe_ix (ix_seqK hK) ha.run hb.run hs) (sim_op simE_l simE_l fun F D σ H ρ x y a b Q k rel ra rb ho cont => ix_sim rel ra rb ho cont)
/-- x[e], x a name: it may hold a list of its own -/
def pIxV (i : Nat) (pb : PEt) : PEt := fun ρ Q R => match ρ.sl[i]? with
  | some (some (.val d)) => pb ρ (fun y ρ1 => oIx d y fun z => Q z ρ1) R
  | some (some (.lst _)) => pb ρ (fun y ρ1 => match ρ1.sl[i]?, y with
    | some (some (.lst ds)), .int j => match atI ds j with | some d => Q d ρ1 | none => False
    | _, _ => False) R
  | _ => False
theorem d_ixV {i : Nat} {x : Str} {p : Pos} (h : PE X (.Name x p) (tVar i)) (hb : DE G X b pb) (hs : PlainIx b := by exact fun _ _ => rfl) (hK : X.K = G.K := by rfl) : DE G X (.Subscript (.Name x p) b pos) (pIxV i pb) := by
  refine DE.of (pe_ix (ix_seqK hK) h hb.run hs) fun F D σ H ρ Q R k rel hp hx cont => ?_
  unfold pIxV at hp
  split at hp
  · next d e =>
    obtain ⟨v, h1, h2⟩ := rel.get e
    refine ⟨v, h1, simE_l F D σ H ρ _ R _ rel hp hx fun y ρ1 D1 w H1 e1 r1 q1 hp1 => ?_⟩
    exact ix_sim r1 (rv_mono e1 h2) q1 hp1 fun d v D' H' s r q h => cont d ρ1 D' v H' (e1.trans s) r q h
  · next ds e =>
    obtain ⟨p, h1, h2, _⟩ := rel.own e (fun d z => nomatch z)
    refine ⟨_, h1, simE_l F D σ H ρ _ R _ rel hp hx fun y ρ1 D1 w H1 e1 r1 q1 hp1 => ?_⟩
    split at hp1
    · next ds1 j es =>
      split at hp1
      · next d ed =>
        obtain ⟨p1, h3, ⟨vs, h4, h5⟩, _⟩ := r1.own es (fun d z => nomatch z)
        rw [h1] at h3
        cases h3
        obtain ⟨v, h6, h7⟩ := rvA_atI h5 ed
        exact .inl ⟨p, vs, j, v, rfl, rv_int q1, SqL.of h4, h6, cont _ _ D1 _ H1 e1 r1 h7 hp1⟩
      · exact hp1.elim
    · exact hp1.elim
  · exact hp.elim
def keyOf : DV → Option Key
  | .int i => some (.inl i)
  | .str z => some (.inr z)
  | _ => none
theorem rv_key {K : PySem.W.Frag} {D : Hp} {v : V} {d : DV} {k : Key} (h : Rv K D v d) (e : keyOf d = some k) : v = kV k := by
  cases h <;> cases e <;> rfl
abbrev ON := List DV → (DV → Prop) → Prop
structure CallD (G : Gx) (X : Cx) (f : Value) (o : ON) : Prop where
  ex : ∃ r, CallR X f r ∧ ∀ (F : List (Addr × HO)) (D : Hp) (σ : L2.St) (H : Hp) (ρ : Ps) (vs : List V) (ds : List DV) (Q : DV → Prop) (k : VK), Rel G F D σ H ρ → RvA G.K D vs ds → o ds Q →
    (∀ d v D' H', Same D D' → Rel G F D' σ H' ρ → Rv G.K D' v d → Q d → k v H') → r vs H k
def pCallB (o : ON) (pl : PAt) : PEt := fun ρ Q R => pl ρ (fun ds ρ1 => o ds fun d => Q d ρ1) R
variable {x : Str} {p : Pos} {on : ON}
theorem d_callB {id : String} (hc : CallD G X (.builtin id) on) (hg : Gl X x) (hm : X.mg x = none) (hv : bootBuiltins x = some (.builtin id)) (ha : DA G X (e :: es) pl) (hn : x ≠ "__name__" := by decide) (hdb : (x == ("__debug__" : Str)) = false := by decide)
    (he : starEach (e :: es) X.env = (false, eval e X.env) :: starEach es X.env := by rfl) (hpl : (backTo pos (starEach es X.env)).any (·.1) = false := by rfl) : DE G X (.Call (.Name x p) (e :: es) [] pos) (pCallB on pl) := by
  obtain ⟨r, h, s⟩ := hc.ex
  refine DE.of (pe_callB h hg hm hv ha.run hn hdb he hpl) fun F D σ H ρ Q R k rel hp hx cont => ?_
  refine simA_l F D σ H ρ _ R _ rel hp hx fun ds ρ1 D1 vs H1 e1 r1 q1 hp1 => ?_
  exact s F D1 σ H1 ρ1 vs ds _ k r1 q1 hp1 fun d v D' H' s r q h => cont d ρ1 D' v H' (e1.trans s) r q h
theorem d_callTy {T : String} (hc : CallD G X (.type T) on) (hg : Gl X x) (hm : X.mg x = none) (hv : bootBuiltins x = some (.type T)) (ha : DA G X (e :: es) pl) (hn : x ≠ "__name__" := by decide) (hdb : (x == ("__debug__" : Str)) = false := by decide)
    (he : starEach (e :: es) X.env = (false, eval e X.env) :: starEach es X.env := by rfl) (hpl : (backTo pos (starEach es X.env)).any (·.1) = false := by rfl) : DE G X (.Call (.Name x p) (e :: es) [] pos) (pCallB on pl) := by
  obtain ⟨r, h, s⟩ := hc.ex
  refine DE.of (pe_callTy h hg hm hv ha.run hn hdb he hpl) fun F D σ H ρ Q R k rel hp hx cont => ?_
  refine simA_l F D σ H ρ _ R _ rel hp hx fun ds ρ1 D1 vs H1 e1 r1 q1 hp1 => ?_
  exact s F D1 σ H1 ρ1 vs ds _ k r1 q1 hp1 fun d v D' H' s r q h => cont d ρ1 D' v H' (e1.trans s) r q h
theorem CallR.or {f : Value} {r r' : List V → Hp → VK → Prop} (h : CallR X f r) (h' : CallR X f r') : CallR X f (fun xs H Q => r xs H Q ∨ r' xs H Q) := by
  intro pins s σ H xs us Q I rx q
  rcases q with q | q
  · exact h pins s σ H xs us Q I rx q
  · exact h' pins s σ H xs us Q I rx q
theorem rvA1 {K : PySem.W.Frag} {D : Hp} {vs : List V} {d : DV} (h : RvA K D vs [d]) : ∃ v, vs = [v] ∧ Rv K D v d := by
  cases h with
  | cons a b =>
    cases b
    exact ⟨_, rfl, a⟩
theorem rvA2 {K : PySem.W.Frag} {D : Hp} {vs : List V} {d e : DV} (h : RvA K D vs [d, e]) : ∃ v w, vs = [v, w] ∧ Rv K D v d ∧ Rv K D w e := by
  cases h with
  | cons a b =>
    obtain ⟨w, rfl, h⟩ := rvA1 b
    exact ⟨_, w, rfl, a, h⟩
def oLen : ON := fun ds Q => match ds with
  | [.node .lst xs] => Q (.int (xs.length : Nat))
  | [.node .tup xs] => Q (.int (xs.length : Nat))
  | [.str z] => z.length ≤ sizeLine ∧ Q (.int (z.length : Nat))
  | _ => False
def bools : List DV → Option (List Bool)
  | [] => some []
  | .bl b :: ds => (bools ds).map fun bs => b :: bs
  | _ :: _ => none
theorem rvA_bools {K : PySem.W.Frag} {D : Hp} : ∀ {vs : List V} {ds : List DV} {bs : List Bool}, RvA K D vs ds → bools ds = some bs → vs = bs.map V.bl
  | _, _, _, .nil, e => by cases e; rfl
  | _, _, _, .cons (d := d) a b, e => by
    cases d with
    | bl x =>
      obtain ⟨r, h3, rfl⟩ := Option.map_eq_some_iff.mp (show (bools _).map _ = some _ from e)
      rw [rv_bl a, rvA_bools b h3]
      rfl
    | _ => cases e
theorem bools_map (bs : List Bool) : bools (bs.map DV.bl) = some bs := by
  induction bs with
  | nil => rfl
  | cons b r ih => show (bools (r.map DV.bl)).map _ = _; rw [ih]; rfl
def oAll : ON := fun ds Q => match ds with
  | [.node .lst xs] => match bools xs with | some bs => Q (.bl (bs.all id)) | none => False
  | _ => False
theorem c_all (hc : X.calm = true) (hK : X.K = G.K := by rfl) : CallD G X (.builtin "all") oAll := by
  refine ⟨_, cr_allK G.K hc hK, fun F D σ H ρ vs ds Q k rel ra ho cont => ?_⟩
  unfold oAll at ho
  split at ho
  · split at ho
    · next bs e =>
      obtain ⟨v, rfl, r⟩ := rvA1 ra
      obtain ⟨p, vs, rfl, h1, h2⟩ := rv_lst r
      rw [rvA_bools h2 e] at h1
      exact ⟨p, bs, rfl, SqL.of (rel.same _ _ h1), cont _ _ D H (Same.refl D) rel (.bl _) ho⟩
    · exact ho.elim
  · exact ho.elim
def oAny : ON := fun ds Q => match ds with
  | [.node .lst xs] => match bools xs with | some bs => Q (.bl (bs.any id)) | none => False
  | _ => False
theorem c_any (hc : X.calm = true) (hK : X.K = G.K := by rfl) : CallD G X (.builtin "any") oAny := by
  refine ⟨_, cr_anyK G.K hc hK, fun F D σ H ρ vs ds Q k rel ra ho cont => ?_⟩
  unfold oAny at ho
  split at ho
  · split at ho
    · next bs e =>
      obtain ⟨v, rfl, r⟩ := rvA1 ra
      obtain ⟨p, vs, rfl, h1, h2⟩ := rv_lst r
      rw [rvA_bools h2 e] at h1
      exact ⟨p, bs, rfl, SqL.of (rel.same _ _ h1), cont _ _ D H (Same.refl D) rel (.bl _) ho⟩
    · exact ho.elim
  · exact ho.elim
def pLenV (i : Nat) : PEt := fun ρ Q _ => match ρ.sl[i]? with
  | some (some (.val d)) => oLen [d] fun z => Q z ρ
  | some (some (.lst ds)) => Q (.int (ds.length : Nat)) ρ
  | _ => False
theorem d_lenV {i : Nat} {y : Str} {p2 : Pos} (hg : Gl X "len") (hm : X.mg "len" = none) (h : PE X (.Name y p2) (tVar i)) (he : starEach [.Name y p2] X.env = (false, eval (.Name y p2) X.env) :: starEach [] X.env := by rfl) (hpl : (backTo pos (starEach [] X.env)).any (·.1) = false := by rfl) (hK : X.K = G.K := by rfl) :
    DE G X (.Call (.Name "len" p) [.Name y p2] [] pos) (pLenV i) := by
  refine DE.of (pe_callB (CallR.or (call_len_seqK G.K hK) call_len_str) hg hm PySem.boot_len (pa_cons h pa_nil he) (by decide) (by decide) he hpl) fun F D σ H ρ Q R k rel hp hx cont => ?_
  unfold pLenV at hp
  split at hp
  · next d e =>
    obtain ⟨v, h1, h2⟩ := rel.get e
    refine ⟨v, h1, ?_⟩
    unfold oLen at hp
    split at hp
    · next xs hd =>
      cases hd
      obtain ⟨q, vs, rfl, h3, h4⟩ := rv_lst h2
      exact .inl ⟨q, vs, rfl, .inl (SqL.of (rel.same _ _ h3)), by rw [rvA_len h4]; exact cont _ _ D _ H (Same.refl D) rel (.int _) hp⟩
    · next xs hd =>
      cases hd
      obtain ⟨q, vs, rfl, h3, h4⟩ := rv_tup h2
      exact .inl ⟨q, vs, rfl, .inr (SqT.of (rel.same _ _ h3)), by rw [rvA_len h4]; exact cont _ _ D _ H (Same.refl D) rel (.int _) hp⟩
    · next z hd =>
      cases hd
      exact .inr ⟨_, by rw [rv_str h2], hp.1, cont _ _ D _ H (Same.refl D) rel (.int _) hp.2⟩
    · exact hp.elim
  · next ds e =>
    obtain ⟨q, h1, ⟨vs, h2, h3⟩, _⟩ := rel.own e (fun d z => nomatch z)
    exact ⟨_, h1, .inl ⟨q, vs, rfl, .inl (SqL.of h2), by rw [rvA_len h3]; exact cont _ _ D _ H (Same.refl D) rel (.int _) hp⟩⟩
  · exact hp.elim
def lookF (f : Str) : List Str → List DV → Option DV
  | g :: gs, d :: ds => if f = g then some d else lookF f gs ds
  | _, _ => none
theorem rv_field {K : PySem.W.Frag} {D : Hp} {f : Str} : ∀ {fs : List Str} {vs : List V} {ds : List DV} {d : DV}, RvA K D vs ds → lookF f fs ds = some d → ∃ v, (fs.zip vs).lookup f = some v ∧ Rv K D v d
  | [], _, _, _, _, e => by unfold lookF at e; cases e
  | g :: gs, _, _, _, .nil, e => by unfold lookF at e; cases e
  | g :: gs, v :: vs, d :: ds, d', .cons a b, e => by
    unfold lookF at e
    rw [List.zip_cons_cons, List.lookup_cons]
    by_cases h : f = g
    · rw [if_pos h] at e
      cases e
      exact ⟨v, by rw [h]; simp, a⟩
    · rw [if_neg h] at e
      have hb : (f == g) = false := by simp [h]
      rw [hb]
      exact rv_field b e
def FldIn (K : PySem.W.Frag) (f : Str) (Cs : List Str) : Prop := ∀ C ∈ Cs, Cls K (He.ga K C) ∧ NoAttr K (He.ga K C) f
def pFld (Cs : List Str) (f : Str) (pa : PEt) : PEt := fun ρ Q R => pa ρ (fun d ρ1 => match d with
  | .node (.ins C fs) ds => C ∈ Cs ∧ match lookF f fs ds with | some z => Q z ρ1 | none => False
  | _ => False) R
theorem d_fld {Cs : List Str} {f : Str} (hf : FldIn G.K f Cs) (ha : DE G X a pa) (hb : attributeBase a f X.env (eval a X.env) = eval a X.env := by rfl) (hK : X.K = G.K := by rfl) : DE G X (.Attribute a f pos) (pFld Cs f pa) := by
  refine DE.of (pe_fldK G.K ha.run hK hb) fun F D σ H ρ Q R k rel hp hx cont => ?_
  refine simE_l F D σ H ρ _ R _ rel hp hx fun d ρ1 D1 v H1 e1 r1 q1 hp1 => ?_
  split at hp1
  · next C fs ds =>
    obtain ⟨hC, hp1⟩ := hp1
    split at hp1
    · next z ez =>
      obtain ⟨q, dx, vs, rfl, h1, h2, h3⟩ := rv_ins q1
      obtain ⟨w, h4, h5⟩ := rv_field h3 ez
      exact ⟨q, _, dx, _, w, rfl, r1.same _ _ h1, (hf C hC).1, (hf C hC).2, h4, cont _ _ D1 _ H1 e1 r1 h5 hp1⟩
    · exact hp1.elim
  · exact hp1.elim
abbrev PFn := Option Addr → List DV → Nat → (DV → Nat → Prop) → PR → Prop
def spP (K : PySem.W.Frag) (Fn : PFn) : Sp := fun vs H Q E => ∃ (D : Hp) (pn : Option Addr) (ds : List DV) (n : Nat) (Qd : DV → Nat → Prop) (R : PR), Same D H ∧ (∀ p, pn = some p → H p ≠ none) ∧ RvA K D vs ds ∧ PenOk K D H pn n ∧ Fn pn ds n Qd R ∧
  (∀ D' H' v d n', StepT K (Wn pn) D H D' H' → Rv K D' v d → PenOk K D' H' pn n' → Qd d n' → Q v H') ∧ ExOk ⟨K, pn, D, H, E, []⟩ R
def pCall (Fn : List DV → Nat → (DV → Nat → Prop) → PR → Prop) (pl : PAt) : PEt := fun ρ Q R => pl ρ (fun ds ρ1 => Fn ds ρ1.ink (fun d n => Q d { ρ1 with ink := n }) R) R
theorem ex_from {D H : Hp} {R : PR} (h : ExOk G R) (s : StepT G.K (Wn G.pn) G.D0 G.H0 D H) : ExOk ⟨G.K, G.pn, D, H, G.E, []⟩ R := ⟨fun D' H' x n d ps s' pen hd hp hr => h.ok D' H' x n d ps (s.trans s') pen hd hp hr⟩
theorem sp_of {F : List (Addr × HO)} {D : Hp} {σ : L2.St} {H : Hp} {ρ : Ps} {Fn : PFn} {Q : PQ} {R : PR} {vs : List V} {ds : List DV} {k : VK} (rel : Rel G F D σ H ρ) (q : RvA G.K D vs ds) (hp : Fn G.pn ds ρ.ink (fun d n => Q d { ρ with ink := n }) R) (hx : ExOk G R)
    (cont : ∀ d ρ' D' v H', Same D D' → Rel G F D' σ H' ρ' → Rv G.K D' v d → Q d ρ' → k v H') : spP G.K Fn vs H k G.E :=
  ⟨D, G.pn, ds, ρ.ink, _, R, rel.same, fun p e h => rel.ph p e (rel.st.free h), q, rel.pen, hp, fun D' H' v d n' s rv pen qd => cont d _ D' v H' s.dd (rel.step s pen) rv qd, ex_from hx rel.st⟩
theorem d_call {CX : CXT} {k j : Nat} {Fn : PFn} (c : CalX X.prog X.w X.K X.mg X.base CX k x (spP G.K Fn)) (hr : Room j X.A) (hk : k ≤ j) (hg : Gl X x) (hx : Passes CX X G.E) (ha : DA G X (e :: es) pl)
    (hdb : (x == ("__debug__" : Str)) = false := by decide) (he : starEach (e :: es) X.env = (false, eval e X.env) :: starEach es X.env := by rfl) (hpl : (backTo pos (starEach es X.env)).any (·.1) = false := by rfl) :
    DE G X (.Call (.Name x p) (e :: es) [] pos) (pCall (Fn G.pn) pl) := by
  refine DE.of (pe_cX c hr hk hg hx ha.run hdb he hpl) fun F D σ H ρ Q R k rel hp hx cont => ?_
  refine simA_l F D σ H ρ _ R _ rel hp hx fun ds ρ1 D1 vs H1 e1 r1 q1 hp1 => ?_
  show spP G.K Fn (vs ++ []) H1 k G.E
  rw [List.append_nil]
  exact sp_of r1 q1 hp1 hx fun d ρ' D' v H' s r q h => cont d ρ' D' v H' (e1.trans s) r q h
def isC (C : Str) : DV → Bool
  | .node (.ins B _) _ => decide (B = C)
  | _ => false
def noF (m : Str) : DV → Bool
  | .node (.ins _ fs) _ => decide (m ∉ fs)
  | _ => false
theorem rv_isC {K : PySem.W.Frag} {D : Hp} {C m : Str} {v : V} {d : DV} (h : Rv K D v d) (hc : isC C d = true) (hm : noF m d = true) : ∃ a dx fs, v = .ref a ∧ D a = some (.ins (He.ga K C) dx fs) ∧ fs.lookup m = none := by
  cases h with
  | @ins a dx B fs vs ds h1 h2 h3 =>
    have e1 : B = C := of_decide_eq_true hc
    have e2 : m ∉ fs := of_decide_eq_true hm
    subst e1
    refine ⟨a, dx, _, rfl, h1, ?_⟩
    clear h1 h3 hc hm
    induction fs generalizing vs with
    | nil => rfl
    | cons f r ih =>
      cases vs with
      | nil => cases h2
      | cons v t =>
        rw [List.zip_cons_cons, List.lookup_cons]
        have hb : (m == f) = false := by
          have : m ≠ f := fun e => e2 (by rw [e]; exact List.mem_cons_self)
          simp [this]
        rw [hb]
        exact ih (Nat.succ.inj h2) fun z => e2 (List.mem_cons_of_mem _ z)
  | _ => cases hc
def pMeth (C m : Str) (Fn : List DV → Nat → (DV → Nat → Prop) → PR → Prop) (pa : PEt) (pl : PAt) : PEt := fun ρ Q R => pa ρ (fun d ρ1 => isC C d = true ∧ noF m d = true ∧ pl ρ1 (fun ds ρ2 => Fn (d :: ds) ρ2.ink (fun z n => Q z { ρ2 with ink := n }) R) R) R
theorem d_meth {CX : CXT} {k j : Nat} {Fn : PFn} {C m : Str} {pl' : Sem Bool} {apos : Pos} (ho : DE G X a pa) (c : Cls X.K (He.ga G.K C)) (hm : MetX X.prog X.w X.K X.mg X.base CX k (He.ga G.K C) m (spP G.K Fn)) (hr : Room j X.A) (hk : k ≤ j) (hx : Passes CX X G.E) (ha : DA G X (e :: es) pl)
    (hst : starEach (e :: es) X.env = (false, eval e X.env) :: starEach es X.env := by rfl) (hpl : (backTo pos (starEach es X.env)).any (·.1) = false := by rfl)
    (ht : eval (.Call (.Attribute a m apos) (e :: es) [] pos) X.env = (do
      let ov ← eval a X.env
      standAt apos.atName
      let fx ← holding [ov] (getMethod ov m pl')
      callWith pos fx.1 fx.2 (backTo pos (starEach (e :: es) X.env)) (backToKw pos (keywordEach [] X.env))) := by rfl) :
    DE G X (.Call (.Attribute a m apos) (e :: es) [] pos) (pMeth C m (Fn G.pn) pa pl) := by
  refine DE.of (pe_mX (pl := pl') ho.run c hm hr hk hx ha.run hst hpl ht) fun F D σ H ρ Q R k rel hp hx cont => ?_
  refine simE_l F D σ H ρ _ R _ rel hp hx fun d ρ1 D1 v H1 e1 r1 q1 hp1 => ?_
  obtain ⟨h1, h2, hp1⟩ := hp1
  obtain ⟨q, dx, fs, rfl, h3, h4⟩ := rv_isC q1 h1 h2
  refine ⟨q, dx, fs, rfl, r1.same _ _ h3, h4, simA_l F D1 σ H1 ρ1 _ R _ r1 hp1 hx fun ds ρ2 D2 vs H2 e2 r2 q2 hp2 => ?_⟩
  show spP G.K Fn (.ref q :: (vs ++ [])) H2 k G.E
  rw [List.append_nil]
  exact sp_of r2 (.cons (rv_mono e2 q1) q2) hp2 hx fun d ρ' D' v H' s r q h => cont d ρ' D' v H' ((e1.trans e2).trans s) r q h
end
end Rg

set_option Elab.async false
set_option linter.all false
set_option maxRecDepth 100000
set_option maxHeartbeats 2000000
namespace Rg
open PySem PySem.Spec PyProof.Rows L2
structure PEnds where
  nx : Ps → Prop
  rt : DV → Nat → Prop
  rs : PR
  bk : Ps → Prop := fun _ => False
  ct : Ps → Prop := fun _ => False
abbrev PSt := PEnds → Ps → Prop
structure EndsOk (G : Gx) (D0 : Hp) (Ep : PEnds) (E : Ends) : Prop where
  nx : ∀ D σ H ρ, Same D0 D → Rel G [] D σ H ρ → Ep.nx ρ → E.nx σ H
  rt : ∀ D H v d n, StepT G.K (Wn G.pn) G.D0 G.H0 D H → PenOk G.K D H G.pn n → Rv G.K D v d → Ep.rt d n → E.rt v H
  bk : ∀ D σ H ρ, Same D0 D → Rel G [] D σ H ρ → Ep.bk ρ → E.bk σ H
  ct : ∀ D σ H ρ, Same D0 D → Rel G [] D σ H ρ → Ep.ct ρ → E.ct σ H
theorem EndsOk.up {G : Gx} {D0 D1 : Hp} {Ep : PEnds} {E : Ends} (h : EndsOk G D0 Ep E) (s : Same D0 D1) : EndsOk G D1 Ep E :=
  ⟨fun D σ H ρ e => h.nx D σ H ρ (s.trans e), h.rt, fun D σ H ρ e => h.bk D σ H ρ (s.trans e), fun D σ H ρ e => h.ct D σ H ρ (s.trans e)⟩
def SimS (G : Gx) (t : TS) (p : PSt) : Prop := ∀ (D : Hp) (σ : L2.St) (H : Hp) (ρ : Ps) (Ep : PEnds) (E : Ends), Rel G [] D σ H ρ → p Ep ρ → EndsOk G D Ep E → ExOk G Ep.rs → t E σ H
def lS (G : Gx) (p : PSt) : TS := fun E σ H => ∃ (D : Hp) (ρ : Ps) (Ep : PEnds), Rel G [] D σ H ρ ∧ p Ep ρ ∧ EndsOk G D Ep E ∧ ExOk G Ep.rs
theorem simS_l {G : Gx} {p : PSt} : SimS G (lS G p) p := fun D σ H ρ Ep E a b c d => ⟨D, ρ, Ep, a, b, c, d⟩
structure DS (G : Gx) (X : Cx) (st : Stmt) (p : PSt) : Prop where
  run : PS X st (lS G p)
structure DSs (G : Gx) (X : Cx) (st : List Stmt) (p : PSt) : Prop where
  run : PSs X st (lS G p)
/-- weaker knowledge -/
def Wk (I : Ps → Prop) : Ps → Prop := fun ρ => ∃ sl n, Le sl ρ.sl ∧ n ≤ ρ.ink ∧ I ⟨sl, n⟩
theorem Wk.of {I : Ps → Prop} {ρ : Ps} (h : I ρ) : Wk I ρ := ⟨ρ.sl, ρ.ink, Le.refl _, Nat.le_refl _, h⟩
theorem RelB.wk {G : Gx} {F : List (Addr × HO)} {D H : Hp} {σ : L2.St} {ρ : Ps} {sl : Sl} {n : Nat} (R : RelB G F D σ H ρ) (l : Le sl ρ.sl) (hn : n ≤ ρ.ink) : RelB G F D σ H ⟨sl, n⟩ := by
  obtain ⟨a, b, c, d, e, f⟩ := R.le l
  exact ⟨a, b, c, fun p h => (d p h).less hn, e, f⟩
section
variable {G : Gx} {X : Cx} {a b c e : Expr} {es : List Expr} {pos : Pos} {pa pb pc : PEt} {pt pu : PTt} {pl : PAt} {st : Stmt} {sts : List Stmt} {p q : PSt}
theorem DS.of {t : TS} (h : PS X st t) (s : SimS G t p) : DS G X st p := ⟨⟨fun pins sh σ H E I ⟨D, ρ, Ep, a, b, c, d⟩ => h.run pins sh σ H E I (s D σ H ρ Ep E a b c d)⟩⟩
theorem DSs.of {t : TS} (h : PSs X sts t) (s : SimS G t p) : DSs G X sts p := ⟨⟨fun pins sh σ H E I ⟨D, ρ, Ep, a, b, c, d⟩ => h.run pins sh σ H E I (s D σ H ρ Ep E a b c d)⟩⟩
theorem DSs.nox (h : DSs G X.nox sts p) : DSs G X sts p := ⟨h.run.nox⟩
def pNext : PSt := fun E ρ => E.nx ρ
def pSeq (p q : PSt) : PSt := fun E ρ => p { E with nx := q E } ρ
theorem s_nil : DSs G X [] pNext := DSs.of pss_nil fun D σ H ρ Ep E rel hp ok hx => ok.nx D σ H ρ (Same.refl D) rel hp
theorem s_one (h : DS G X st p) : DSs G X [st] p := ⟨pss_one h.run⟩
theorem s_cons (h : DS G X st p) (h2 : DSs G X sts q) : DSs G X (st :: sts) (pSeq p q) := by
  refine DSs.of (pss_cons h.run h2.run) fun D σ H ρ Ep E rel hp ok hx => ?_
  exact simS_l D σ H ρ { Ep with nx := q Ep } _ rel hp ⟨fun D σ H ρ sm rel h => simS_l D σ H ρ Ep E rel h (ok.up sm) hx, ok.rt, ok.bk, ok.ct⟩ hx
def pRet (pa : PEt) : PSt := fun E ρ => pa ρ (fun d ρ1 => E.rt d ρ1.ink) E.rs
theorem s_ret (ha : DE G X e pa) : DS G X (.Return (some e) pos) (pRet pa) :=
  DS.of (ps_ret ha.run) fun D σ H ρ Ep E rel hp ok hx => simE_l [] D σ H ρ _ Ep.rs _ rel hp hx fun d ρ1 D1 v H1 _ r1 q1 h1 => ok.rt D1 H1 v d ρ1.ink r1.st r1.pen q1 h1
def pDrop (pa : PEt) : PSt := fun E ρ => pa ρ (fun _ ρ1 => E.nx ρ1) E.rs
theorem s_expr (ha : DE G X e pa) (hs : swapsWith e none pos.line X.env = pure false := by rfl) : DS G X (.Expr e pos) (pDrop pa) :=
  DS.of (ps_expr ha.run hs) fun D σ H ρ Ep E rel hp ok hx => simE_l [] D σ H ρ _ Ep.rs _ rel hp hx fun d ρ1 D1 v H1 e1 r1 q1 h1 => ok.nx D1 σ H1 ρ1 e1 r1 h1
def pIfS (pt : PTt) (p q : PSt) : PSt := fun E ρ => pt ρ (fun c ρ1 => if c = true then p E ρ1 else q E ρ1) E.rs
theorem s_if {sts2 : List Stmt} (hc : DT G X c pt) (ha : DSs G X sts p) (hb : DSs G X sts2 q) : DS G X (.If c sts sts2 pos) (pIfS pt p q) := by
  refine DS.of (ps_if hc.run ha.run hb.run) fun D σ H ρ Ep E rel hp ok hx => ?_
  refine simT_l [] D σ H ρ _ Ep.rs _ rel hp hx fun c ρ1 D1 H1 e1 r1 h1 => ?_
  cases c with
  | true => exact iteT (simS_l D1 σ H1 ρ1 Ep E r1 h1 (ok.up e1) hx)
  | false => exact iteF (simS_l D1 σ H1 ρ1 Ep E r1 h1 (ok.up e1) hx)
abbrev PGt := DV → Ps → (Ps → Prop) → Prop
abbrev PGs' := List DV → Ps → (Ps → Prop) → Prop
def Wr (ks : List Nat) (σ σ' : L2.St) : Prop := σ'.length = σ.length ∧ ∀ i, i ∉ ks → σ'[i]? = σ[i]?
theorem Wr.trans {k1 k2 : List Nat} {σ σ1 σ2 : L2.St} (a : Wr k1 σ σ1) (b : Wr k2 σ1 σ2) : Wr (k1 ++ k2) σ σ2 :=
  ⟨b.1.trans a.1, fun i h => (b.2 i fun z => h (List.mem_append_right _ z)).trans (a.2 i fun z => h (List.mem_append_left _ z))⟩
def SimG (G : Gx) (g : TG) (ks : List Nat) (p : PGt) : Prop := ∀ (F : List (Addr × HO)) (D : Hp) (σ : L2.St) (H : Hp) (ρ : Ps) (v : V) (d : DV) (Q : Ps → Prop) (k : L2.St → Hp → Prop), Rel G F D σ H ρ → Rv G.K D v d → p d ρ Q →
  (∀ ρ' σ', Wr ks σ σ' → Rel G F D σ' H ρ' → Q ρ' → k σ' H) → g v σ H k
def SimGs (G : Gx) (g : TGs) (ks : List Nat) (p : PGs') : Prop := ∀ (F : List (Addr × HO)) (D : Hp) (σ : L2.St) (H : Hp) (ρ : Ps) (vs : List V) (ds : List DV) (Q : Ps → Prop) (k : L2.St → Hp → Prop), Rel G F D σ H ρ → RvA G.K D vs ds → p ds ρ Q →
  (∀ ρ' σ', Wr ks σ σ' → Rel G F D σ' H ρ' → Q ρ' → k σ' H) → g vs σ H k
structure DG (G : Gx) (X : Cx) (tg : Expr) (g : TG) (ks : List Nat) (p : PGt) : Prop where
  run : PG X tg g
  sim : SimG G g ks p
structure DGs (G : Gx) (X : Cx) (tgs : List Expr) (g : TGs) (ks : List Nat) (p : PGs') : Prop where
  run : PGs X tgs g
  sim : SimGs G g ks p
def pName (i : Nat) : PGt := fun d ρ Q => Q { ρ with sl := ρ.sl.set i (some (.val d)) }
theorem wr_set {i : Nat} {σ : L2.St} {v : Option V} : Wr [i] σ (σ.set i v) := ⟨List.length_set, fun j hj => List.getElem?_set_ne fun e => hj (by rw [← e]; exact List.mem_singleton_self _)⟩
theorem g_name {i : Nat} {x : Str} (h : PG X (.Name x pos) (gName i)) : DG G X (.Name x pos) (gName i) [i] (pName i) := ⟨h, fun F D σ H ρ v d Q k rel rv hp cont => cont _ _ wr_set (rel.set rv) hp⟩
def pGNil : PGs' := fun ds ρ Q => match ds with | [] => Q ρ | _ => False
def pGCons (p : PGt) (q : PGs') : PGs' := fun ds ρ Q => match ds with | d :: r => p d ρ fun ρ1 => q r ρ1 Q | [] => False
theorem gs_nil : DGs G X [] gNil [] pGNil := ⟨pgs_nil, fun F D σ H ρ vs ds Q k rel rv hp cont => by
  cases rv with
  | nil => exact ⟨rfl, cont ρ σ ⟨rfl, fun _ _ => rfl⟩ rel hp⟩
  | cons _ _ => exact hp.elim⟩
theorem gs_cons {g : TG} {gs : TGs} {k1 k2 : List Nat} {p : PGt} {q : PGs'} (h1 : DG G X e g k1 p) (h2 : DGs G X es gs k2 q) (hs : (assignEach (e :: es) X.env).map (·.2) = assign e X.env :: (assignEach es X.env).map (·.2) := by rfl) : DGs G X (e :: es) (gCons g gs) (k1 ++ k2) (pGCons p q) :=
  ⟨pgs_cons h1.run h2.run hs, fun F D σ H ρ vs ds Q k rel rv hp cont => by
    cases rv with
    | nil => exact hp.elim
    | cons r1 r2 => exact ⟨_, _, rfl, h1.sim F D σ H ρ _ _ _ _ rel r1 hp fun ρ1 σ1 w1 rel1 hp1 => h2.sim F D σ1 H ρ1 _ _ Q k rel1 r2 hp1 fun ρ2 σ2 w2 => cont ρ2 σ2 (w1.trans w2)⟩⟩
def pGTup (q : PGs') : PGt := fun d ρ Q => match d with | .node .tup ds => q ds ρ Q | _ => False
theorem g_tup {gs : TGs} {q : PGs'} {kk : Nat} {n : Nat} {ks : List Nat} (hc : X.calm = true) (h : DGs G X es gs ks q) (hl : ∀ ds ρ Q, q ds ρ Q → ds.length = n) (hK : X.K = G.K := by rfl)
    (hn : (assignEach es X.env).length = n := by rfl) (hst : (assignEach es X.env).findIdx? (·.1) = none := by rfl) : DG G X (.Tuple es kk pos) (gTup G.K n gs) ks (pGTup q) :=
  ⟨pg_tupK G.K hc h.run hK hn hst, fun F D σ H ρ v d Q k rel rv hp cont => by
    unfold pGTup at hp
    split at hp
    · obtain ⟨a, vs, rfl, h1, h2⟩ := rv_tup rv
      exact ⟨a, vs, rfl, SqT.of (rel.same _ _ h1), by rw [rvA_len h2]; exact hl _ _ _ hp, h.sim F D σ H ρ vs _ Q k rel h2 hp cont⟩
    · exact hp.elim⟩
theorem gl0 : ∀ ds ρ Q, pGNil ds ρ Q → ds.length = 0 := fun ds ρ Q h => by
  unfold pGNil at h
  split at h
  · rfl
  · exact h.elim
theorem gl1 {p : PGt} {q : PGs'} {n : Nat} (hp : ∀ d ρ Q Q', p d ρ Q → (∀ ρ, Q ρ → Q' ρ) → p d ρ Q') (hq : ∀ ds ρ Q, q ds ρ Q → ds.length = n) (hx : ∀ d ρ, ¬ p d ρ fun _ => False) : ∀ ds ρ Q, pGCons p q ds ρ Q → ds.length = n + 1 := fun ds ρ Q h => by
  unfold pGCons at h
  split at h
  · next d r =>
    by_cases hr : r.length = n
    · rw [List.length_cons, hr]
    · exact absurd (hp _ _ _ _ h fun ρ1 z => hr (hq _ _ _ z)) (hx _ _)
  · exact h.elim
theorem glN {i : Nat} {q : PGs'} {n : Nat} (hq : ∀ ds ρ Q, q ds ρ Q → ds.length = n) : ∀ ds ρ Q, pGCons (pName i) q ds ρ Q → ds.length = n + 1 := gl1 (fun d ρ Q Q' h m => m _ h) hq (fun d ρ h => h)
def pSet (g : PGt) (pa : PEt) : PSt := fun E ρ => pa ρ (fun d ρ1 => g d ρ1 E.nx) E.rs
theorem s_set {i : Nat} {x : Str} {pos' : Pos} (hN : X.N.Nodup) (hi : X.N[i]? = some x) (hx : Loc X.env.scope x) (ha : DE G X e pa) (hs : swapsWith e (some (.Name x pos')) pos.line X.env = pure false := by rfl) (hf : X.fn x = true ∨ X.env.scope.names.lookup x = some .local := by first | exact .inl rfl | exact .inr rfl | assumption) :
    DS G X (.Assign [.Name x pos'] e pos) (pSet (pName i) pa) :=
  DS.of (ps_set hN hi hx ha.run hs hf) fun D σ H ρ Ep E rel hp ok hx => simE_l [] D σ H ρ _ Ep.rs _ rel hp hx fun d ρ1 D1 v H1 e1 r1 q1 h1 => ok.nx D1 _ H1 _ e1 (r1.set q1) h1
/-- a, b = x, y -/
def pPar (i j : Nat) (pl : PAt) : PSt := fun E ρ => pl ρ (fun ds ρ1 => match ds with
  | [d, e] => E.nx { ρ1 with sl := (ρ1.sl.set i (some (.val d))).set j (some (.val e)) }
  | _ => False) E.rs
theorem sim_par {i j : Nat} : SimS G (tPar i j (lA G pl)) (pPar i j pl) := by
  intro D σ H ρ Ep E rel hp ok hx
  refine simA_l [] D σ H ρ _ Ep.rs _ rel hp hx fun ds ρ1 D1 vs H1 e1 r1 q1 h1 => ?_
  split at h1
  · obtain ⟨v, w, rfl, h2, h3⟩ := rvA2 q1
    exact ⟨v, w, rfl, ok.nx D1 _ H1 _ e1 ((r1.set h2).set h3) h1⟩
  · exact h1.elim
def SimF (G : Gx) (t : TE) (p : PAt) : Prop := ∀ (F : List (Addr × HO)) (D : Hp) (σ : L2.St) (H : Hp) (ρ : Ps) (Q : List DV → Ps → Prop) (R : PR) (k : VK), Rel G F D σ H ρ → p ρ Q R → ExOk G R →
  (∀ ds ρ' D' vs H' q, Same D D' → Rel G ((q, .lst vs) :: F) D' σ H' ρ' → q ∉ (F ++ G.fr).map (·.1) → RvA G.K D' vs ds → Q ds ρ' → k (.ref q) H') → t σ H k
def lF (G : Gx) (p : PAt) : TE := fun σ H k => ∃ (F : List (Addr × HO)) (D : Hp) (ρ : Ps) (Q : List DV → Ps → Prop) (R : PR), Rel G F D σ H ρ ∧ p ρ Q R ∧ ExOk G R ∧
  ∀ ds ρ' D' vs H' q, Same D D' → Rel G ((q, .lst vs) :: F) D' σ H' ρ' → q ∉ (F ++ G.fr).map (·.1) → RvA G.K D' vs ds → Q ds ρ' → k (.ref q) H'
theorem simF_l {p : PAt} : SimF G (lF G p) p := fun F D σ H ρ Q R k a b c d => ⟨F, D, ρ, Q, R, a, b, c, d⟩
structure DF (G : Gx) (X : Cx) (e : Expr) (p : PAt) : Prop where
  run : PE X e (lF G p)
theorem DF.of {t : TE} {p : PAt} (h : PE X e t) (s : SimF G t p) : DF G X e p := ⟨⟨fun pins sh σ H Q I ⟨F, D, ρ, Qp, R, a, b, c, d⟩ => h.run pins sh σ H Q I (s F D σ H ρ Qp R Q a b c d)⟩⟩
def pFr (p : PAt) : PEt := fun ρ Q R => p ρ (fun ds ρ1 => Q (.lst ds) ρ1) R
theorem simF_e {t : TE} {p : PAt} (s : SimF G t p) : SimE G t (pFr p) := fun F D σ H ρ Q R k rel hp hx cont =>
  s F D σ H ρ _ R k rel hp hx fun ds ρ' D' vs H' q sm r nf rv hq => by
    have rp := r.pop nf
    exact cont _ ρ' _ _ H' (sm.trans rp.2) rp.1 (.lst upd_same (rvA_mono rp.2 rv)) hq
theorem DF.de {p : PAt} (h : DF G X e p) : DE G X e (pFr p) := DE.of h.run (simF_e simF_l)
def pOwn (i : Nat) (p : PAt) : PSt := fun E ρ => p ρ (fun ds ρ1 => E.nx { ρ1 with sl := ρ1.sl.set i (some (.lst ds)) }) E.rs
theorem sim_own {i : Nat} {t : TE} {p : PAt} (s : SimF G t p) : SimS G (tAsg t (gName i)) (pOwn i p) := fun D σ H ρ Ep E rel hp ok hx =>
  s [] D σ H ρ _ Ep.rs _ rel hp hx fun ds ρ' D' vs H' q sm r nf rv hq => ok.nx D' _ H' _ sm (r.popOwn (s := .lst ds) nf ⟨vs, r.top, rv⟩) hq
def pDisp (pl : PAt) : PAt := fun ρ Q R => pl ρ (fun ds ρ1 => ds.length ≤ sizeLine ∧ Q ds ρ1) R
theorem f_lst (hl : DA G X es pl) : DF G X (.List es pos) (pDisp pl) :=
  DF.of (pe_lst hl.run) fun F D σ H ρ Q R k rel hp hx cont => simA_l F D σ H ρ _ R _ rel hp hx fun ds ρ2 D2 vs H2 e2 r2 q2 hp2 => ⟨by rw [rvA_len q2]; exact hp2.1, fun p np => cont ds ρ2 D2 vs _ p e2 (r2.push np) (r2.fresh np) q2 hp2.2⟩
end
end Rg

set_option Elab.async false
set_option linter.all false
set_option maxRecDepth 100000
set_option maxHeartbeats 2000000
namespace Rg
open PySem PySem.Spec PyProof.Rows L2
/-- the items ds come one after another; they are settled, or new tuples -/
structure ItD (K : PySem.W.Frag) (D : Hp) (J : It) (ds : List DV) : Prop where
  ex : ∃ Y, Walk J ds.length (fun H => Same D H) Y ∧ ∀ i x H1 H2, i < ds.length → Same D H1 → Y i H1 x H2 → ∃ d, ds[i]? = some d ∧
    ((H2 = H1 ∧ Rv K D x d) ∨ ∃ T o, x = .ref T ∧ H1 T = none ∧ H2 = upd H1 T o ∧ ∀ D1, Same D D1 → D1 T = none → Rv K (upd D1 T o) x d)
def SimI (G : Gx) (wi : TI) (p : PAt) : Prop := ∀ (F : List (Addr × HO)) (D : Hp) (σ : L2.St) (H : Hp) (ρ : Ps) (Q : List DV → Ps → Prop) (R : PR) (k : It → Hp → Prop), Rel G F D σ H ρ → p ρ Q R → ExOk G R →
  (∀ ds ρ' D' H' J, Same D D' → Rel G F D' σ H' ρ' → ItD G.K D' J ds → Q ds ρ' → k J H') → wi σ H k
structure DI (G : Gx) (X : Cx) (tg iter : Expr) (p : PAt) : Prop where
  ex : ∃ wi, PI X tg iter wi ∧ SimI G wi p
def signsD (z : Str) : List DV := z.cps.toList.map fun c => .str (sgn c)
def rangeD (lo : Int) (n : Nat) : List DV := (List.range n).map fun i => .int (lo + (i : Nat))
def enumD (ds : List DV) : List DV := ds.zipIdx.map fun p => .tup [.int (p.2 : Nat), p.1]
theorem enumD_at {ds : List DV} {i : Nat} {d : DV} (h : ds[i]? = some d) : (enumD ds)[i]? = some (.tup [.int (i : Nat), d]) := by
  unfold enumD
  rw [List.getElem?_map, List.getElem?_zipIdx, h]
  simp
theorem enumD_len {ds : List DV} : (enumD ds).length = ds.length := by simp [enumD]
theorem rangeD_at {lo : Int} {n i : Nat} (h : i < n) : (rangeD lo n)[i]? = some (.int (lo + (i : Nat))) := by
  unfold rangeD
  rw [List.getElem?_map, List.getElem?_range h]
  rfl
theorem rangeD_len {lo : Int} {n : Nat} : (rangeD lo n).length = n := by simp [rangeD]
theorem signsD_at {z : Str} {i c : Nat} (h : z.cps.toList[i]? = some c) : (signsD z)[i]? = some (.str (sgn c)) := by
  unfold signsD
  rw [List.getElem?_map, h]
  rfl
section
variable {K : PySem.W.Frag} {D : Hp}
theorem it_list {a : Addr} {vs : List V} {ds : List DV} (h1 : D a = some (.lst vs)) (h2 : RvA K D vs ds) : ItD K D (Itl K a) ds := by
  refine ⟨YAt vs, ?_, fun i x H1 H2 hi sm ⟨e, hx⟩ => ?_⟩
  · rw [← rvA_len h2]
    exact walk_list.mono (fun H' e => SqL.of (e _ _ h1)) fun _ _ _ _ _ _ y => y
  · obtain ⟨d, h3, h4⟩ := rvA_get h2 hx
    exact ⟨d, h3, .inl ⟨e, h4⟩⟩
theorem it_tup {a : Addr} {vs : List V} {ds : List DV} (h1 : D a = some (.tup vs)) (h2 : RvA K D vs ds) : ItD K D (Itt K a) ds := by
  refine ⟨YAt vs, ?_, fun i x H1 H2 hi sm ⟨e, hx⟩ => ?_⟩
  · rw [← rvA_len h2]
    exact walk_tup.mono (fun H' e => SqT.of (e _ _ h1)) fun _ _ _ _ _ _ y => y
  · obtain ⟨d, h3, h4⟩ := rvA_get h2 hx
    exact ⟨d, h3, .inl ⟨e, h4⟩⟩
theorem it_str {z : Str} : ItD K D (Its z) (signsD z) := by
  refine ⟨fun i H v H' => H' = H ∧ ∃ c, z.cps[i]? = some c ∧ v = .str ⟨#[c]⟩, ?_, fun i x H1 H2 hi sm y => ?_⟩
  · rw [show (signsD z).length = z.cps.size by simp [signsD]]
    exact walk_str.mono (fun _ _ => trivial) fun _ _ _ _ _ _ y => y
  · obtain ⟨e, c, hc, rfl⟩ := y
    exact ⟨.str (sgn c), signsD_at (by rw [← get_tl]; exact hc), .inl ⟨e, .str _⟩⟩
theorem it_range {lo : Int} {n : Nat} : ItD K D (Itr lo n) (rangeD lo n) := by
  refine ⟨YFn fun i => .int (lo + (i : Nat)), ?_, fun i x H1 H2 hi sm y => ?_⟩
  · rw [rangeD_len]
    exact walk_range.mono (fun _ _ => trivial) fun _ _ _ _ _ _ y => y
  · obtain ⟨e, rfl⟩ := y
    exact ⟨.int (lo + (i : Nat)), rangeD_at (by rw [rangeD_len] at hi; exact hi), .inl ⟨e, .int _⟩⟩
theorem it_pair {J : It} {n : Nat} {xs ys : Nat → Option V} {ds : List DV} (hn : ds.length = n) (w : Walk J n (fun H => Same D H) (YPair xs ys)) (h : ∀ i x y, i < n → xs i = some x → ys i = some y → ∃ a b, ds[i]? = some (.tup [a, b]) ∧ Rv K D x a ∧ Rv K D y b) : ItD K D J ds := by
  subst hn
  refine ⟨_, w, fun i x H1 H2 hi sm yy => ?_⟩
  obtain ⟨T, x, y, h1, h2, h3, h4, h5⟩ := yy
  obtain ⟨a, b, h6, h7, h8⟩ := h i x y hi h4 h5
  exact ⟨_, h6, .inr ⟨T, _, h1, h2, h3, fun D1 s e => by rw [h1]; exact .tup upd_same (.cons (rv_mono (s.trans (same_new e)) h7) (.cons (rv_mono (s.trans (same_new e)) h8) .nil))⟩⟩
/-- the items of a list, a tuple, a text -/
def itemsOf : DV → Option (List DV)
  | .node .lst xs => some xs
  | .node .tup xs => some xs
  | .str z => some (signsD z)
  | _ => none
theorem src_of {H : Hp} {v : V} {d : DV} {xs : List DV} (sd : Same D H) (r : Rv K D v d) (e : itemsOf d = some xs) : ∃ (A : SrcV) (vs : List V), SrcOf K H v A vs ∧ RvA K D vs xs ∧ ∀ H', Same D H' → A H' vs := by
  unfold itemsOf at e
  split at e
  · cases e
    obtain ⟨a, vs, rfl, h1, h2⟩ := rv_lst r
    exact ⟨_, vs, .lst (SqL.of (sd _ _ h1)), h2, fun H' s => SqL.of (s _ _ h1)⟩
  · cases e
    obtain ⟨a, vs, rfl, h1, h2⟩ := rv_tup r
    exact ⟨_, vs, .tup (SqT.of (sd _ _ h1)), h2, fun H' s => SqT.of (s _ _ h1)⟩
  · next z =>
    cases e
    rw [rv_str r]
    refine ⟨_, _, .str, ?_, fun _ _ => rfl⟩
    unfold signsD
    induction z.cps.toList with
    | nil => exact .nil
    | cons c t ih => exact .cons (.str _) ih
  · cases e
theorem it_enum {A : SrcV} {vs : List V} {ds : List DV} (hA : ∀ H', Same D H' → A H' vs) (h2 : RvA K D vs ds) : ItD K D (Itn A) (enumD ds) := by
  refine it_pair (n := vs.length) (by rw [enumD_len, rvA_len h2]) (walk_enumA.mono (fun H' e => hA H' e) fun _ _ _ _ _ _ y => y) fun i x y hi e1 e2 => ?_
  cases e1
  obtain ⟨d, h3, h4⟩ := rvA_get h2 e2
  exact ⟨_, _, enumD_at h3, .int _, h4⟩
end
section
variable {G : Gx} {X : Cx} {a b c e tg : Expr} {es : List Expr} {pos : Pos} {pa pb pc : PEt} {pt pu : PTt} {pl : PAt} {st : Stmt} {sts : List Stmt} {p q : PSt}
def pRange1 (pa : PEt) : PAt := fun ρ Q R => pa ρ (fun d ρ1 => match d with
  | .int j => -(2 ^ 62) ≤ j ∧ j < 2 ^ 62 ∧ Q (rangeD 0 j.toNat) ρ1
  | _ => False) R
theorem i_range1 {p : Pos} (hg : Gl X "range") (hm : X.mg "range" = none) (ha : DE G X a pa) (hs : starEach [a] X.env = [(false, eval a X.env)] := by rfl) (hs' : starEach [a] X.env = (false, eval a X.env) :: starEach [] X.env := by rfl) : DI G X tg (.Call (.Name "range" p) [a] [] pos) (pRange1 pa) := by
  refine ⟨_, pi_range1 hg hm (pa_cons ha.run pa_nil hs') hs, fun F D σ H ρ Q R k rel hp hx cont => ?_⟩
  refine simE_l F D σ H ρ _ R _ rel hp hx fun d ρ1 D1 v H1 e1 r1 q1 hp1 => ?_
  split at hp1
  · exact ⟨_, by rw [rv_int q1], hp1.1, hp1.2.1, cont _ ρ1 D1 H1 _ e1 r1 it_range hp1.2.2⟩
  · exact hp1.elim
def pEnum (pa : PEt) : PAt := fun ρ Q R => pa ρ (fun d ρ1 => match itemsOf d with
  | some xs => Q (enumD xs) ρ1
  | none => False) R
theorem i_enum {p tpos : Pos} {elts : List Expr} {kk : Nat} (hg : Gl X "enumerate") (hm : X.mg "enumerate" = none) (ha : DE G X a pa) (hs : starEach [a] X.env = [(false, eval a X.env)] := by rfl) (hs' : starEach [a] X.env = (false, eval a X.env) :: starEach [] X.env := by rfl) (hK : X.K = G.K := by rfl) :
    DI G X (.Tuple elts kk tpos) (.Call (.Name "enumerate" p) [a] [] pos) (pEnum pa) := by
  refine ⟨_, pi_enumA G.K hg hm (pa_cons ha.run pa_nil hs') hK hs, fun F D σ H ρ Q R k rel hp hx cont => ?_⟩
  refine simE_l F D σ H ρ _ R _ rel hp hx fun d ρ1 D1 v H1 e1 r1 q1 hp1 => ?_
  split at hp1
  · next xs ex =>
    obtain ⟨A, vs, h1, h2, h3⟩ := src_of r1.same q1 ex
    exact ⟨v, A, vs, rfl, h1, cont _ ρ1 D1 H1 _ e1 r1 (it_enum h3 h2) hp1⟩
  · exact hp1.elim
theorem ItD.turn {F : List (Addr × HO)} {D0 D H1 H2 : Hp} {σ : L2.St} {ρ : Ps} {J : It} {ds : List DV} {Y : Nat → Hp → V → Hp → Prop} {i : Nat} {x : V}
    (h : ∀ i x H1 H2, i < ds.length → Same D0 H1 → Y i H1 x H2 → ∃ d, ds[i]? = some d ∧ ((H2 = H1 ∧ Rv G.K D0 x d) ∨ ∃ T o, x = .ref T ∧ H1 T = none ∧ H2 = upd H1 T o ∧ ∀ D1, Same D0 D1 → D1 T = none → Rv G.K (upd D1 T o) x d))
    (hi : i < ds.length) (y : Y i H1 x H2) (sm : Same D0 D) (rel : Rel G F D σ H1 ρ) : ∃ d D', ds[i]? = some d ∧ Same D D' ∧ Rel G F D' σ H2 ρ ∧ Rv G.K D' x d := by
  obtain ⟨d, h1, h2⟩ := h i x H1 H2 hi (sm.trans rel.same) y
  rcases h2 with ⟨e, r⟩ | ⟨T, o, e1, e2, e3, r⟩
  · subst e
    exact ⟨d, D, h1, Same.refl D, rel, rv_mono sm r⟩
  · subst e3
    exact ⟨d, upd D T o, h1, rel.newS e2, rel.new e2, r D sm (rel.same.free e2)⟩
def pFor (pi : PAt) (pg : PGt) (pb : PSt) : PSt := fun E ρ => pi ρ (fun ds ρ1 => ∃ I : Nat → Ps → Prop, I 0 ρ1 ∧
  (∀ i d ρ2, ds[i]? = some d → I i ρ2 → pg d ρ2 fun ρ3 => pb { E with nx := Wk (I (i + 1)), ct := Wk (I (i + 1)), bk := E.nx } ρ3) ∧ ∀ ρ2, I ds.length ρ2 → E.nx ρ2) E.rs
theorem s_for {g : TG} {ks : List Nat} {pg : PGt} {pi : PAt} (hp : PassesOwn (model X.prog X.w) X.A X.env X.xe) (hc : X.calm = true) (hi : DI G X tg a pi) (hg : DG G X tg g ks pg) (hb : DSs G X sts p) (hs : ∀ x, foldedSetIterable a X.env x = pure x := by intro _; rfl) : DS G X (.For tg a sts [] pos) (pFor pi pg p) := by
  obtain ⟨wi, h1, s1⟩ := hi.ex
  refine DS.of (ps_for hp hc h1 hg.run hb.run hs) fun D σ H ρ Ep E rel hp ok hx => ?_
  refine s1 [] D σ H ρ _ Ep.rs _ rel hp hx fun ds ρ1 D1 H1 J e1 r1 it hp1 => ?_
  obtain ⟨I, i0, turn, fin⟩ := hp1
  obtain ⟨Y, w, hY⟩ := it.ex
  refine for_it w (fun i σ H => ∃ D2 ρ2, Same D1 D2 ∧ Rel G [] D2 σ H ρ2 ∧ I i ρ2) ⟨D1, ρ1, Same.refl D1, r1, i0⟩ ?_ ?_ ?_
  · rintro i σ H _ ⟨D2, ρ2, sm, r2, _⟩
    exact sm.trans r2.same
  · rintro i x σ H H' hi ⟨D2, ρ2, sm, r2, i2⟩ y
    obtain ⟨d, D3, h3, sm3, r3, rv3⟩ := ItD.turn (J := J) hY hi y sm r2
    refine hg.sim [] D3 σ H' ρ2 x d _ _ r3 rv3 (turn i d ρ2 h3 i2) fun ρ4 σ4 _ r4 h4 => ?_
    refine simS_l D3 σ4 H' ρ4 _ _ r4 h4 ⟨?_, ok.rt, fun D σ H ρ e => ok.nx D σ H ρ (((e1.trans sm).trans sm3).trans e), ?_⟩ hx
    · rintro D5 σ5 H5 ρ5 sm5 r5 ⟨sl, n, l, hn, h5⟩
      exact ⟨D5, _, (sm.trans sm3).trans sm5, r5.wk l hn, h5⟩
    · rintro D5 σ5 H5 ρ5 sm5 r5 ⟨sl, n, l, hn, h5⟩
      exact ⟨D5, _, (sm.trans sm3).trans sm5, r5.wk l hn, h5⟩
  · rintro σ H ⟨D2, ρ2, sm, r2, i2⟩
    exact ok.nx D2 σ H ρ2 (e1.trans sm) r2 (fin ρ2 i2)
def wipeP (sl : Sl) : List Nat → Sl
  | [] => sl
  | v :: vs => (wipeP sl vs).set v none
theorem wipe_none {σ : L2.St} : ∀ {vs : List Nat} {i : Nat}, i ∈ vs → (wipe σ vs)[i]? = none ∨ (wipe σ vs)[i]? = some none
  | v :: vs, i, h => by
    unfold wipe
    by_cases e : v = i
    · subst e
      rw [List.getElem?_set_self']
      cases (wipe σ vs)[v]? with
      | none => exact .inl rfl
      | some _ => exact .inr rfl
    · rw [List.getElem?_set_ne e]
      rcases List.mem_cons.mp h with h | h
      · exact absurd h.symm e
      · exact wipe_none h
theorem wipe_other {σ : L2.St} : ∀ {vs : List Nat} {i : Nat}, i ∉ vs → (wipe σ vs)[i]? = σ[i]?
  | [], i, _ => rfl
  | v :: vs, i, h => by
    unfold wipe
    rw [List.getElem?_set_ne (fun e => h (by rw [e]; exact List.mem_cons_self))]
    exact wipe_other fun z => h (List.mem_cons_of_mem _ z)
theorem wipe_eq {σ σ' : L2.St} {vs : List Nat} (hl : σ.length = σ'.length) (h : ∀ i, i ∉ vs → σ[i]? = σ'[i]?) : wipe σ vs = wipe σ' vs := by
  apply List.ext_getElem?
  intro i
  by_cases hi : i ∈ vs
  · have l1 := wipe_length σ vs
    have l2 := wipe_length σ' vs
    rcases wipe_none (σ := σ) hi with e1 | e1 <;> rcases wipe_none (σ := σ') hi with e2 | e2
    · rw [e1, e2]
    · have a := List.getElem?_eq_none_iff.mp e1
      have b := (List.getElem?_eq_some_iff.mp e2).1
      omega
    · have a := List.getElem?_eq_none_iff.mp e2
      have b := (List.getElem?_eq_some_iff.mp e1).1
      omega
    · rw [e1, e2]
  · rw [wipe_other hi, wipe_other hi, h i hi]
theorem RelB.wipe {F : List (Addr × HO)} {D H : Hp} {σ : L2.St} {ρ : Ps} (R : RelB G F D σ H ρ) : ∀ vs : List Nat, RelB G F D (wipe σ vs) H { ρ with sl := wipeP ρ.sl vs }
  | [] => R
  | v :: vs => (R.wipe vs).drop none
theorem wr_wipe {ks vs : List Nat} {σ σ' : L2.St} (h : Wr ks (wipe σ vs) σ') (hk : ∀ i ∈ ks, i ∈ vs) : wipe σ' vs = wipe σ vs := by
  refine (wipe_eq (h.1.trans (wipe_length σ vs)) fun i hi => ?_)
  rw [h.2 i fun z => hi (hk i z), wipe_other hi]
/-- slots of which nothing is said may hold anything -/
theorem rs_any {K : PySem.W.Frag} {D H H0 : Hp} {Fa : List Addr} : ∀ {σ σ' : L2.St} {sl : Sl} {as : List Addr}, Rs K D H H0 Fa σ sl as → σ'.length = σ.length → (∀ (i : Nat) (o : SV), sl[i]? = some (some o) → σ'[i]? = σ[i]?) → Rs K D H H0 Fa σ' sl as
  | _, σ', _, _, .nil, l, h => by
    cases σ' with
    | nil => exact .nil
    | cons _ _ => cases l
  | _, σ', _, _, .no r, l, h => by
    cases σ' with
    | nil => cases l
    | cons x t => exact .no (rs_any r (Nat.succ.inj l) fun i o e => by simpa using h (i + 1) o (by simpa using e))
  | _, σ', _, _, .val q r, l, h => by
    cases σ' with
    | nil => cases l
    | cons x t =>
      have e0 := Option.some.inj (h 0 _ rfl)
      subst e0
      exact .val q (rs_any r (Nat.succ.inj l) fun i o e => by simpa using h (i + 1) o (by simpa using e))
  | _, σ', _, _, .own ob d z y r, l, h => by
    cases σ' with
    | nil => cases l
    | cons x t =>
      have e0 := Option.some.inj (h 0 _ rfl)
      subst e0
      exact .own ob d z y (rs_any r (Nat.succ.inj l) fun i o e => by simpa using h (i + 1) o (by simpa using e))
theorem wipeP_none {sl : Sl} : ∀ {vs : List Nat} {i : Nat} {o : SV}, (wipeP sl vs)[i]? = some (some o) → i ∉ vs
  | [], i, o, _ => by simp
  | v :: vs, i, o, h => by
    unfold wipeP at h
    by_cases e : v = i
    · subst e
      rw [List.getElem?_set_self'] at h
      cases hh : (wipeP sl vs)[v]? with
      | none => rw [hh] at h; cases h
      | some _ => rw [hh] at h; cases h
    · rw [List.getElem?_set_ne e] at h
      intro hm
      rcases List.mem_cons.mp hm with z | z
      · exact e z.symm
      · exact wipeP_none h z
/-- the same state with other things in the block's own slots -/
theorem RelB.swap {F : List (Addr × HO)} {D H : Hp} {σ σ' : L2.St} {ρ : Ps} {vs : List Nat} (R : RelB G F D σ H ρ) (hl : σ'.length = σ.length) (h : ∀ i, i ∉ vs → σ'[i]? = σ[i]?) : RelB G F D σ' H { ρ with sl := wipeP ρ.sl vs } := by
  have R1 := R.wipe vs
  obtain ⟨as, r⟩ := R1.sl
  refine ⟨R1.st, ⟨as, rs_any r ?_ fun i o e => ?_⟩, R1.fr, R1.pen, R1.ph, R1.nt⟩
  · rw [hl]
    exact (wipe_length σ vs).symm
  · have hi := wipeP_none e
    rw [h i hi, wipe_other hi]
def LcIn (vs : List Nat) (pg : PGt) (pt : PTt) (pe : PEt) (Q : List DV → Ps → Prop) (ds : List DV) (ρ1 : Ps) : Prop := ∃ I : Nat → List DV → Ps → Prop, I 0 [] ρ1 ∧
  (∀ i d acc ρ2, ds[i]? = some d → I i acc ρ2 → pg d { ρ2 with sl := wipeP ρ2.sl vs } fun ρ3 => pt ρ3 (fun b ρ4 => if b = true then
    pe ρ4 (fun y ρ5 => acc.length < sizeLine ∧ Wk (I (i + 1) (acc ++ [y])) { ρ5 with sl := wipeP ρ5.sl vs }) fun _ _ => False
    else Wk (I (i + 1) acc) { ρ4 with sl := wipeP ρ4.sl vs }) fun _ _ => False) ∧
  ∀ acc ρ2, I ds.length acc ρ2 → Q acc { ρ2 with sl := wipeP ρ2.sl vs }
def pLc (vs : List Nat) (pi : PAt) (pg : PGt) (pt : PTt) (pe : PEt) : PAt := fun ρ Q R => pi ρ (LcIn vs pg pt pe Q) R
theorem ex_never {G : Gx} : ExOk G fun _ _ => False := ⟨fun _ _ _ _ _ _ _ _ _ _ _ r => r.elim⟩
def pYes : PTt := fun ρ Q _ => Q true ρ
theorem simT_yes : SimT G tYes pYes := fun F D σ H ρ Q R k rel hp hx cont => cont true ρ D H (Same.refl D) rel hp
theorem sim_lc {vs : List Nat} {pi : PAt} {g : TG} {ks : List Nat} {pg : PGt} {wi : TI} {tt : TT} {te : TE} {pe : PEt} (si : SimI G wi pi) (sg : SimG G g ks pg) (hk : ∀ i ∈ ks, i ∈ vs) (st : SimT G tt pt) (se : SimE G te pe) : SimF G (tLc wi g tt te vs) (pLc vs pi pg pt pe) := by
  intro F D σ H ρ Q R k rel hp hx cont
  refine si F D σ H ρ _ R _ rel hp hx fun ds ρ1 D1 H1 J e1 r1 it hp1 => ?_
  obtain ⟨I, i0, turn, fin⟩ := hp1
  obtain ⟨Y, w, hY⟩ := it.ex
  intro L hL
  have nf := r1.fresh hL
  refine lc_it w (fun i H' => ∃ D2 ρ2 acc vs', Same D1 D2 ∧ Rel G ((L, .lst vs') :: F) D2 σ H' ρ2 ∧ RvA G.K D2 vs' acc ∧ I i acc ρ2) ⟨D1, ρ1, [], [], Same.refl D1, r1.push hL, .nil, i0⟩ ?_ ?_ ?_
  · rintro i H' _ ⟨D2, ρ2, acc, vs', sm, r2, _⟩
    exact sm.trans r2.same
  · rintro i x H2 H3 hi ⟨D2, ρ2, acc, vs', sm, r2, ra, i2⟩ y
    obtain ⟨d, D3, h3, sm3, r3, rv3⟩ := ItD.turn (J := J) hY hi y sm r2
    refine sg _ D3 _ H3 _ x d _ _ (r3.wipe vs) rv3 (turn i d acc ρ2 h3 i2) fun ρ4 σ4 w4 r4 h4 => ?_
    have ew := wr_wipe w4 hk
    have back : ∀ {D5 H5 : Hp} {ρ5 : Ps} {o5 : HO}, Rel G ((L, o5) :: F) D5 σ4 H5 ρ5 → Rel G ((L, o5) :: F) D5 σ H5 { ρ5 with sl := wipeP ρ5.sl vs } := fun {D5 H5 ρ5 o5} r5 => by
      refine r5.swap ?_ fun i hi => ?_
      · rw [w4.1]
        exact (wipe_length σ vs).symm
      · rw [w4.2 i (fun z => hi (hk i z)), wipe_other hi]
    refine ⟨ew, ?_⟩
    refine st _ D3 σ4 H3 ρ4 _ (fun _ _ => False) _ r4 h4 ex_never fun b ρ5 D5 H5 sm5 r5 h5 => ?_
    cases b with
    | true =>
      refine iteT ?_
      refine se _ D5 σ4 H5 ρ5 _ (fun _ _ => False) _ r5 h5 ex_never fun y ρ6 D6 v6 H6 sm6 r6 q6 h6 => ?_
      obtain ⟨hz, sl, n, l, hn, h7⟩ := h6
      have ra6 := rvA_mono ((sm3.trans sm5).trans sm6) ra
      refine ⟨vs', r6.top, by rw [rvA_len ra]; exact hz, D6, _, _, vs' ++ [v6], ((sm.trans sm3).trans sm5).trans sm6, (((back r6).poke nf).wk l hn), rvA_app ra6 (rvA_one q6), h7⟩
    | false =>
      obtain ⟨sl, n, l, hn, h7⟩ := (show Wk (I (i + 1) acc) _ from h5)
      exact iteF ⟨D5, _, acc, vs', (sm.trans sm3).trans sm5, ((back r5).wk l hn), rvA_mono (sm3.trans sm5) ra, h7⟩
  · rintro H' ⟨D2, ρ2, acc, vs', sm, r2, ra, i2⟩
    exact cont acc _ D2 vs' H' L (e1.trans sm) (r2.swap rfl fun _ _ => rfl) nf ra (fin acc ρ2 i2)
abbrev Gx.nox (G : Gx) : Gx := { G with E := fun _ _ _ => False }
theorem f_lc {elt : Expr} {ifs : List Expr} {scope : Scope} {own : List (Str × Nat)} {pi : PAt} {g : TG} {ks : List Nat} {pg : PGt} {tt : TT} {pe : PEt} (hc : X.calm = true) (hN : X.N.Nodup) (hi : DI G X tg a pi) (ok : BlkOk X.N X.env.scope scope own)
    (hg : ∀ (s : Shared) (H : Hp) (C : Addr) (cl : List (Str × Addr)) (fp : List Addr), DG G (X.blk s H scope (compEnvC scope cl C X.env) fp) tg g ks pg) (hk : ∀ i ∈ ks, i ∈ own.map (·.2))
    (ht : ∀ (s : Shared) (H : Hp) (C : Addr) (cl : List (Str × Addr)) (fp : List Addr), PTs (X.blk s H scope (compEnvC scope cl C X.env) fp) ifs tt) (st : SimT G tt pt)
    (he : ∀ (s : Shared) (H : Hp) (C : Addr) (cl : List (Str × Addr)) (fp : List Addr), DE G (X.blk s H scope (compEnvC scope cl C X.env) fp) elt pe) (hs : ∀ x, foldedSetIterable a X.env x = pure x := by intro _; rfl) :
    DF G X (.ListComp elt [⟨tg, a, ifs, 0⟩] scope pos) (pLc (own.map (·.2)) pi pg pt pe) := by
  obtain ⟨wi, h1, s1⟩ := hi.ex
  have d0 : SimG G g ks pg := (hg X.s_0 X.H_0 X.env.locals [] []).sim
  exact DF.of (pe_lc hc hN h1 ok (fun s H C cl fp => (hg s H C cl fp).run) ht (fun s H C cl fp => (he s H C cl fp).run) hs) (sim_lc s1 d0 hk st simE_l)
end
end Rg

set_option Elab.async false
set_option linter.all false
set_option maxRecDepth 100000
set_option maxHeartbeats 2000000
namespace Rg
open PySem PySem.Spec PyProof.Rows L2
section
variable {G : Gx} {X : Cx} {a b c e tg : Expr} {es : List Expr} {pos : Pos} {pa pb pc : PEt} {pt pu : PTt} {pl : PAt} {st : Stmt} {sts : List Stmt} {p q : PSt}
def pSetF (i : Nat) (p : PAt) : PSt := fun E ρ => p ρ (fun ds ρ1 => E.nx { ρ1 with sl := ρ1.sl.set i (some (.val (.lst ds))) }) E.rs
theorem sim_setF {i : Nat} {t : TE} {p : PAt} (s : SimF G t p) : SimS G (tAsg t (gName i)) (pSetF i p) := fun D σ H ρ Ep E rel hp ok hx =>
  s [] D σ H ρ _ Ep.rs _ rel hp hx fun ds ρ' D' vs H' q sm r nf rv hq => by
    have rp := r.pop nf
    exact ok.nx _ _ H' _ (sm.trans rp.2) (rp.1.set (.lst upd_same (rvA_mono rp.2 rv))) hq
section
variable {i : Nat} {y : Str} {py spos : Pos} {elt : Expr} {ifs : List Expr} {scope : Scope} {own : List (Str × Nat)} {pi : PAt} {g : TG} {ks : List Nat} {pg : PGt} {tt : TT} {pe : PEt}
theorem s_setLc (hc : X.calm = true) (hN : X.N.Nodup) (hy : X.N[i]? = some y) (hyl : X.env.scope.names.lookup y = some .local)
    (hsw : swapsWith (.ListComp elt [⟨tg, a, ifs, 0⟩] scope pos) (some (.Name y py)) spos.line X.env = pure true) (hi : DI G X tg a pi) (ok : BlkOk X.N X.env.scope scope own)
    (hg : ∀ (s : Shared) (H : Hp) (C : Addr) (cl : List (Str × Addr)) (fp : List Addr), DG G (X.blk s H scope (compEnvC scope cl C X.env) fp) tg g ks pg) (hk : ∀ i ∈ ks, i ∈ own.map (·.2))
    (ht : ∀ (s : Shared) (H : Hp) (C : Addr) (cl : List (Str × Addr)) (fp : List Addr), PTs (X.blk s H scope (compEnvC scope cl C X.env) fp) ifs tt) (st : SimT G tt pt)
    (he : ∀ (s : Shared) (H : Hp) (C : Addr) (cl : List (Str × Addr)) (fp : List Addr), DE G (X.blk s H scope (compEnvC scope cl C X.env) fp) elt pe) (hs : ∀ x, foldedSetIterable a X.env x = pure x := by intro _; rfl) :
    DS G X (.Assign [.Name y py] (.ListComp elt [⟨tg, a, ifs, 0⟩] scope pos) spos) (pSetF i (pLc (own.map (·.2)) pi pg pt pe)) := by
  obtain ⟨wi, h1, s1⟩ := hi.ex
  exact DS.of (ps_setLc hc hN hy hyl hsw h1 ok (fun s H C cl fp => (hg s H C cl fp).run) ht (fun s H C cl fp => (he s H C cl fp).run) hs) (sim_setF (sim_lc s1 (hg X.s_0 X.H_0 X.env.locals [] []).sim hk st simE_l))
theorem s_ownLc (hc : X.calm = true) (hN : X.N.Nodup) (hy : X.N[i]? = some y) (hyl : X.env.scope.names.lookup y = some .local)
    (hsw : swapsWith (.ListComp elt [⟨tg, a, ifs, 0⟩] scope pos) (some (.Name y py)) spos.line X.env = pure true) (hi : DI G X tg a pi) (ok : BlkOk X.N X.env.scope scope own)
    (hg : ∀ (s : Shared) (H : Hp) (C : Addr) (cl : List (Str × Addr)) (fp : List Addr), DG G (X.blk s H scope (compEnvC scope cl C X.env) fp) tg g ks pg) (hk : ∀ i ∈ ks, i ∈ own.map (·.2))
    (ht : ∀ (s : Shared) (H : Hp) (C : Addr) (cl : List (Str × Addr)) (fp : List Addr), PTs (X.blk s H scope (compEnvC scope cl C X.env) fp) ifs tt) (st : SimT G tt pt)
    (he : ∀ (s : Shared) (H : Hp) (C : Addr) (cl : List (Str × Addr)) (fp : List Addr), DE G (X.blk s H scope (compEnvC scope cl C X.env) fp) elt pe) (hs : ∀ x, foldedSetIterable a X.env x = pure x := by intro _; rfl) :
    DS G X (.Assign [.Name y py] (.ListComp elt [⟨tg, a, ifs, 0⟩] scope pos) spos) (pOwn i (pLc (own.map (·.2)) pi pg pt pe)) := by
  obtain ⟨wi, h1, s1⟩ := hi.ex
  exact DS.of (ps_setLc hc hN hy hyl hsw h1 ok (fun s H C cl fp => (hg s H C cl fp).run) ht (fun s H C cl fp => (he s H C cl fp).run) hs) (sim_own (sim_lc s1 (hg X.s_0 X.H_0 X.env.locals [] []).sim hk st simE_l))
variable {kx vx : Expr} {pk pv : PEt}
end
end
def startP (N : List Str) (ds : List DV) : Sl := ds.map (fun d => some (.val d)) ++ List.replicate (N.length - ds.length) none
theorem rs_start {K : PySem.W.Frag} {D H H0 : Hp} {vs : List V} {ds : List DV} (h : RvA K D vs ds) (m : Nat) : Rs K D H H0 [] (vs.map some ++ List.replicate m none) (ds.map (fun d => some (.val d)) ++ List.replicate m none) [] := by
  have z : ∀ m : Nat, Rs K D H H0 [] (List.replicate m none) (List.replicate m none) [] := by
    intro m
    induction m with
    | zero => exact .nil
    | succ m ih => exact .no ih
  match vs, ds, h with
  | _, _, .nil => exact z m
  | _, _, .cons a b => exact .val a (rs_start b m)
theorem rel_start {K : PySem.W.Frag} {pn : Option Addr} {D H : Hp} {E : XK} {N : List Str} {vs : List V} {ds : List DV} {n : Nat} (sd : Same D H) (ph : ∀ p, pn = some p → H p ≠ none) (h : RvA K D vs ds) (pen : PenOk K D H pn n) : Rel ⟨K, pn, D, H, E, []⟩ [] D (L2.start N vs) H ⟨startP N ds, n⟩ := by
  refine ⟨StepT.refl sd, ⟨[], ?_⟩, fun p hp => by simp at hp, pen, ph, fun p hp => by simp at hp⟩
  unfold L2.start startP
  rw [rvA_len h]
  exact rs_start h _
def ends (Qd : DV → Nat → Prop) (R : PR) : PEnds := { nx := fun ρ => Qd .non ρ.ink, rt := Qd, rs := R }
section
variable {P : Program} {w : World} {K : PySem.W.Frag} {mg : Str → Option Value} {base : Heap}
variable {CX : CXT} {x qual : Str} {params : Arguments} {body : List Stmt} {scope : Scope} {dvs : List V} {kws : List (Str × V)} {f : Addr} {fd : FuncData} {N ps : List Str} {k : Nat} {Fn : PFn}
theorem p_run {pn : Option Addr} {D H : Hp} {E : XK} {vs : List V} {ds : List DV} {n : Nat} {Qd : DV → Nat → Prop} {R : PR} {Q : VK} {pp : PSt} (sd : Same D H) (ph : ∀ p, pn = some p → H p ≠ none) (h : RvA K D vs ds) (pen : PenOk K D H pn n)
    (post : ∀ D' H' v d n', StepT K (Wn pn) D H D' H' → Rv K D' v d → PenOk K D' H' pn n' → Qd d n' → Q v H') (ex : ExOk ⟨K, pn, D, H, E, []⟩ R) (hp : pp (ends Qd R) ⟨startP N ds, n⟩) :
    lS ⟨K, pn, D, H, E, []⟩ pp { nx := fun _ H' => Q .non H', rt := Q } (L2.start N vs) H :=
  ⟨D, _, ends Qd R, rel_start sd ph h pen, hp, ⟨fun D' σ' H' ρ' _ rel q => post D' H' _ _ _ rel.st .non rel.pen q, fun D' H' v d n' s pk rv q => post D' H' v d n' s rv pk q, fun _ _ _ _ _ _ z => z.elim, fun _ _ _ _ _ _ z => z.elim⟩, ex⟩
theorem ok_p (F : FunD K x qual params body scope dvs kws f fd) (S : FnScope N ps scope) (len : ∀ pn ds n Q R, Fn pn ds n Q R → ds.length = ps.length)
    (hbody : ∀ (cdv : Value) (A : Around) (outer : List Env) (s : Shared) (pn : Option Addr) (D H : Hp) (E : XK) (ds : List DV) (n : Nat) (Qd : DV → Nat → Prop) (R : PR), Room k (A.deeper (envOfC qual scope s.heap.objs.size f cdv)) → Fn pn ds n Qd R →
      ∃ pp, DSs ⟨K, pn, D, H, E, []⟩ (cxOf CX P w K mg base N qual scope f cdv A outer s H E) body pp ∧ pp (ends Qd R) ⟨startP N ds, n⟩) : FnOk P w K mg base CX (k + 1) f fd ps (spP K Fn) := by
  refine F.ok S (fun vs H Q E h => ?_) (fun cdv A outer s H vs Q E hr h => ?_)
  · obtain ⟨D, pn, ds, n, Qd, R, _, _, rv, _, hf, _⟩ := h
    rw [rvA_len rv]
    exact len _ _ _ _ _ hf
  · obtain ⟨D, pn, ds, n, Qd, R, sd, ph, rv, pen, hf, post, ex⟩ := h
    obtain ⟨pp, dv, hp⟩ := hbody cdv A outer s pn D H E ds n Qd R hr hf
    exact ⟨_, dv.run, p_run sd ph rv pen post ex hp⟩
/-- several ways to say where a block runs -/
theorem pss_ex {X : Cx} {sts : List Stmt} {ι : Type} {t : ι → TS} (h : ∀ i, PSs X sts (t i)) : PSs X sts (fun E σ H => ∃ i, t i E σ H) := ⟨fun pins s σ H E I ⟨i, q⟩ => (h i).run pins s σ H E I q⟩
end
def fnDraw : PFn := fun pn ds n Q _ => ∃ (p : Addr) (m : Int), pn = some p ∧ ds = [.raw (.ref p), .int m] ∧ 1 ≤ n ∧ 1 ≤ m ∧ m < 1000000 ∧ ∀ r : Int, 0 ≤ r → r < m → Q (.int r) (n - 1)
theorem imp_draw {K : PySem.W.Frag} (vs : List V) (H : Hp) (Q : VK) (E : XK) (h : spP K fnDraw vs H Q E) : spDraw K vs H Q E := by
  obtain ⟨D, pn, ds, n, Qd, R, sd, ph, rv, pen, ⟨p, m, rfl, rfl, hn, h1, h2, hq⟩, post, _⟩ := h
  obtain ⟨v, w, rfl, r1, r2⟩ := rvA2 rv
  have e1 := rv_raw r1
  have e2 := rv_int r2
  subst e1 e2
  refine ⟨D, p, m, n - 1, rfl, sd, ?_, h1, h2, fun H' r st pk r0 r1 => ?_⟩
  · have := pen p rfl
    rw [show n - 1 + 1 = n by omega]
    exact this
  · exact post D H' _ _ (n - 1) (st.t.mono fun b e => by rw [e]) (.int r) (fun q e => by cases e; exact pk) (hq r r0 r1)
end Rg

set_option Elab.async false
set_option linter.all false
set_option maxRecDepth 100000
set_option maxHeartbeats 2000000
namespace Rg
open PySem PySem.Spec PyProof.Rows L2
section
variable {G : Gx} {X : Cx} {a b c e tg : Expr} {es : List Expr} {pos : Pos} {pa pb pc : PEt} {pt pu : PTt} {pl : PAt} {st : Stmt} {sts : List Stmt} {p q : PSt}
def iAnyI (K : PySem.W.Frag) (tl : TE) : TI := fun σ H R => tl σ H fun x H1 => (∃ a, x = .ref a ∧ SeqR K a R H1) ∨ ∃ z, x = .str z ∧ R (Its z) H1
theorem pi_any {tl : TE} (hl : PE X a tl) : PI X tg a (iAnyI X.K tl) := by
  constructor
  intro pins s σ H R I h
  refine thn (hl.run pins s σ H _ I h) ?_
  rintro v s1 ⟨x, H1, I1, r1, q⟩
  have fp : ∀ b ∈ [s1.heap.objs.size], FpOk X pins H1 b := fun b hb => by
    obtain rfl : b = s1.heap.objs.size := by simpa using hb
    exact I1.fpOk (Nat.le_refl _) (I1.hok.fresh (Nat.le_refl _))
  have kp : ∀ ob : Obj, Inv X pins σ H1 { s1 with heap := s1.heap.push ob } := fun ob => I1.kept (t' := s1.toks) fun b o e => Heap.get?_push_of_some _ e
  rcases q with ⟨a, rfl, q⟩ | ⟨z, rfl, q⟩
  · obtain rfl := r1
    rcases q with ⟨⟨xs, hq⟩, q⟩ | ⟨⟨xs, hq⟩, q⟩
    · obtain ⟨its, rv, p, hz⟩ := I1.list hq
      exact wpAny_pyIter_list p.isList ⟨_, [s1.heap.objs.size], _, _, H1, rfl, kp _, turn_list a _, ⟨_, Heap.get?_push_size _ rfl, rfl, rfl⟩, fp, q⟩
    · obtain ⟨its, rv, p, hz⟩ := I1.tuple hq
      exact wpAny_pyIter_tuple (show s1.heap.IsTuple a its.toArray from p) ⟨_, [s1.heap.objs.size], _, _, H1, rfl, kp _, turn_tuple a _, ⟨_, Heap.get?_push_size _ rfl, rfl, rfl⟩, fp, q⟩
  · obtain ⟨t, rfl⟩ := r1
    cases ha : z.cps.all (· < 128)
    · exact wpAny_pyIter_wide ha (pi_one (tk := s1.toks) I1 _ (turn_str _ z t "str_iterator" (.inr rfl)) ⟨_, Heap.get?_push_size _ rfl, rfl, rfl⟩ q)
    · exact wpAny_pyIter_ascii ha (pi_one (tk := s1.toks) I1 _ (turn_str _ z t "str_ascii_iterator" (.inl rfl)) ⟨_, Heap.get?_push_size _ rfl, rfl, rfl⟩ q)
def pAny (pa : PEt) : PAt := fun ρ Q R => pa ρ (fun d ρ1 => match itemsOf d with
  | some xs => Q xs ρ1
  | none => False) R
theorem i_any (ha : DE G X a pa) (hK : X.K = G.K := by rfl) : DI G X tg a (pAny pa) := by
  refine ⟨_, (hK ▸ pi_any ha.run : PI X tg a (iAnyI G.K (lE G pa))), fun F D σ H ρ Q R k rel hp hx cont => ?_⟩
  refine simE_l F D σ H ρ _ R _ rel hp hx fun d ρ1 D1 v H1 e1 r1 q1 hp1 => ?_
  split at hp1
  · next xs ex =>
    unfold itemsOf at ex
    split at ex
    · cases ex
      obtain ⟨p, vs, rfl, h1, h2⟩ := rv_lst q1
      exact .inl ⟨p, rfl, .inl ⟨⟨vs, SqL.of (r1.same _ _ h1)⟩, cont _ ρ1 D1 H1 _ e1 r1 (it_list h1 h2) hp1⟩⟩
    · cases ex
      obtain ⟨p, vs, rfl, h1, h2⟩ := rv_tup q1
      exact .inl ⟨p, rfl, .inr ⟨⟨vs, SqT.of (r1.same _ _ h1)⟩, cont _ ρ1 D1 H1 _ e1 r1 (it_tup h1 h2) hp1⟩⟩
    · cases ex
      exact .inr ⟨_, rv_str q1, cont _ ρ1 D1 H1 _ e1 r1 it_str hp1⟩
    · cases ex
  · exact hp1.elim
theorem s_par {i j : Nat} {x y : Str} {px py pt' : Pos} {kt k2 : Nat} {pt2 : Pos} (hc : X.calm = true) (hN : X.N.Nodup) (hi : X.N[i]? = some x) (hj : X.N[j]? = some y) (hij : i ≠ j)
    (hx : X.env.scope.names.lookup x = some .local) (hy : X.env.scope.names.lookup y = some .local) (ha : DA G X [a, b] pl)
    (hw : swappedStores [.Tuple [.Name x px, .Name y py] kt pt'] (.Tuple [a, b] k2 pt2) X.env = pure (some [x, y]))
    (hs : swapsWithSole [.Tuple [.Name x px, .Name y py] kt pt'] (.Tuple [a, b] k2 pt2) pos.line X.env = pure false := by rfl) :
    DS G X (.Assign [.Tuple [.Name x px, .Name y py] kt pt'] (.Tuple [a, b] k2 pt2) pos) (pPar i j pl) :=
  DS.of (ps_par hc hN hi hj hij hx hy ha.run hw hs) sim_par
end
end Rg

set_option Elab.async false
set_option linter.all false
set_option maxRecDepth 100000
set_option maxHeartbeats 2000000
namespace Rg
open PySem PySem.Spec PyProof.Rows L2
section
variable {G : Gx} {X : Cx} {a b c e tg : Expr} {es : List Expr} {pos : Pos} {pa pb pc pk pv : PEt} {pt pu : PTt} {pl : PAt} {st : Stmt} {sts : List Stmt} {p q : PSt}
end
end Rg

set_option Elab.async false
set_option linter.all false
set_option maxRecDepth 100000
set_option maxHeartbeats 2000000
namespace Rg
open PySem PySem.Spec PyProof.Rows L2
/-- what an __init__ makes of its arguments: the values of the fields -/
abbrev NFn := Option Addr → List DV → Nat → (List DV → Nat → Prop) → PR → Prop
def Wx (pn : Option Addr) (x : Addr) : Addr → Prop := fun b => b = x ∨ Wn pn b
/-- without the object at x -/
def offX (x : Addr) (H : Hp) : Hp := fun b => if b = x then none else H b
theorem offX_ne {x b : Addr} {H : Hp} (h : b ≠ x) : offX x H b = H b := if_neg h
theorem offX_eq {x : Addr} {H : Hp} : offX x H x = none := if_pos rfl
theorem offX_at {x b : Addr} {H : Hp} {o : HO} (h : offX x H b = some o) : b ≠ x ∧ H b = some o := by
  by_cases q : b = x
  · rw [q, offX_eq] at h
    cases h
  · exact ⟨q, by rwa [offX_ne q] at h⟩
theorem offX_new {x : Addr} {H : Hp} {o : HO} (h : H x = none) : offX x (upd H x o) = H := by
  funext b
  by_cases q : b = x
  · rw [q, offX_eq, h]
  · rw [offX_ne q, upd_ne q]
theorem offX_there {x b : Addr} {H : Hp} (h : offX x H b ≠ none) : b ≠ x ∧ H b ≠ none := by
  cases e : offX x H b with
  | none => exact absurd e h
  | some o =>
    obtain ⟨h1, h2⟩ := offX_at e
    exact ⟨h1, by rw [h2]; exact fun z => nomatch z⟩
theorem StepT.offX {K : PySem.W.Frag} {W : Addr → Prop} {D H D1 H1 : Hp} {x : Addr} (s : StepT K W D H D1 H1) : StepT K W D (offX x H) D1 H1 :=
  ⟨s.dd, s.dh, fun b o hb n e => s.kq b o hb n (offX_at e).2, fun b e => s.ns b (offX_there e).2, fun b e => s.fr b (offX_there e).2, fun b hb t => s.tb b hb (by
    obtain ⟨h0, ps, h, r⟩ := t
    exact ⟨h0, ps, (offX_at h).2, r⟩)⟩
structure ExOkX (x : Addr) (G : Gx) (R : PR) : Prop where
  ok : ∀ (D H : Hp) (e : Exn) (n : Nat) (d : Addr) (ps : List (Str × V)), StepT G.K (Wx G.pn x) G.D0 (offX x G.H0) D H → PenOk G.K D H G.pn n → D d = some (.xd ps) → ps.map (·.1) = e.2.1 → RvA G.K D (ps.map (·.2)) e.2.2 → R e n → G.E (.ref (He.ga G.K e.1)) (some d) H
theorem ExOkX.ex {x : Addr} {G : Gx} {R : PR} (h : ExOkX x G R) : ExOk G R := ⟨fun D H e n d ps s => h.ok D H e n d ps (s.offX.mono fun b z => .inr z)⟩
theorem exX_never {x : Addr} {G : Gx} : ExOkX x G fun _ _ => False := ⟨fun _ _ _ _ _ _ _ _ _ _ _ r => r.elim⟩
theorem stepX_back {K : PySem.W.Frag} {pn : Option Addr} {x dx : Addr} {o o2 : HO} {D1 H1 D' H' : Hp} (hx0 : H1 x = none) (hd : H1 dx = none) (ne : dx ≠ x) (sm : Same D1 H1) (s : StepT K (Wx pn x) D1 (offX x (upd (upd H1 dx o) x o2)) D' H') : StepT K (Wn pn) D1 H1 D' H' := by
  rw [offX_new (by rw [upd_ne (Ne.symm ne)]; exact hx0)] at s
  exact ((((Step.tmp sm hd).any (W := Wx pn x)).t).trans s).fresh fun b z => z.elim (fun e' => .inr (by rw [e']; exact hx0)) .inl
theorem exX_from {G : Gx} {R : PR} {x dx : Addr} {o o2 : HO} {D1 H1 : Hp} (h : ExOk G R) (s0 : StepT G.K (Wn G.pn) G.D0 G.H0 D1 H1) (hx0 : H1 x = none) (hd : H1 dx = none) (ne : dx ≠ x) (sm : Same D1 H1) : ExOkX x ⟨G.K, G.pn, D1, upd (upd H1 dx o) x o2, G.E, []⟩ R :=
  ⟨fun D' H' e n d ps s pen hk' hk rv hr => h.ok D' H' e n d ps (s0.trans (stepX_back hx0 hd ne sm s)) pen hk' hk rv hr⟩
def spNew (K : PySem.W.Frag) (C : Str) (fs : List Str) (Fn : NFn) : Sp := fun vs H Q E => ∃ (D : Hp) (pn : Option Addr) (x dx : Addr) (us : List V) (ds : List DV) (n : Nat) (Qd : List DV → Nat → Prop) (R : PR), vs = .ref x :: us ∧ Same D H ∧ (∀ p, pn = some p → H p ≠ none ∧ p ≠ x) ∧ D x = none ∧ H x = some (.ins (He.ga K C) dx []) ∧ RvA K D us ds ∧ PenOk K D H pn n ∧ Fn pn ds n Qd R ∧
  (∀ D' H' dxe zs es n', StepT K (Wx pn x) D H D' H' → D' x = none → H' x = some (.ins (He.ga K C) dxe (fs.zip zs)) → fs.length = zs.length → RvA K D' zs es → PenOk K D' H' pn n' → Qd es n' → Q .non H') ∧ ExOkX x ⟨K, pn, D, H, E, []⟩ R
section
variable {G : Gx} {X : Cx} {a b c e tg : Expr} {es : List Expr} {pos p : Pos} {pa pb pc : PEt} {pl : PAt} {x : Str}

def pMake (C : Str) (fs : List Str) (Fn : List DV → Nat → (List DV → Nat → Prop) → PR → Prop) (pl : PAt) : PEt := fun ρ Q R => pl ρ (fun ds ρ1 => Fn ds ρ1.ink (fun zs n => Q (.node (.ins C fs) zs) { ρ1 with ink := n }) R) R
theorem d_make {CX : CXT} {k j : Nat} {C : Str} {fs : List Str} {Fn : NFn} (c : MkX X.prog X.w X.K X.mg X.base CX k x (He.ga G.K C) (spNew G.K C fs Fn)) (hr : Room j X.A) (hk : k + 1 ≤ j) (hg : Gl X x) (hx : Passes CX X G.E) (ha : DA G X (e :: es) pl)
    (hdb : (x == ("__debug__" : Str)) = false := by decide) (he : starEach (e :: es) X.env = (false, eval e X.env) :: starEach es X.env := by rfl) (hpl : (backTo pos (starEach es X.env)).any (·.1) = false := by rfl) :
    DE G X (.Call (.Name x p) (e :: es) [] pos) (pMake C fs (Fn G.pn) pl) := by
  refine DE.of (pe_mkX c hr hk hg hx ha.run hdb he hpl) fun F D σ H ρ Q R k rel hp hx cont => ?_
  refine simA_l F D σ H ρ _ R _ rel hp hx fun ds ρ1 D1 vs H1 e1 r1 q1 hp1 => ?_
  intro x dx hx0 hd ne
  have x1 : (upd H1 dx (.own x)) x = none := by rw [upd_ne (Ne.symm ne)]; exact hx0
  have t1 : Step NoW D1 H1 D1 (upd (upd H1 dx (.own x)) x (.ins (He.ga G.K C) dx [])) := (Step.tmp r1.same hd).trans (Step.tmp (Step.tmp (W := NoW) r1.same hd).dh x1)
  have rN : Rel G F D1 σ (upd (upd H1 dx (.own x)) x (.ins (He.ga G.K C) dx [])) ρ1 := r1.stepN t1.t
  have penx : ∀ p, G.pn = some p → p ≠ x := fun p hp e => by
    have := r1.ph p hp
    exact this (r1.st.free (e ▸ hx0))
  refine ⟨D1, G.pn, x, dx, vs, ds, ρ1.ink, _, R, by rw [List.append_nil], rN.same, fun p hp => ⟨fun h => r1.ph p hp (rN.st.free h), penx p hp⟩, r1.same.free hx0, upd_same, q1, rN.pen, hp1, ?_, exX_from hx r1.st hx0 hd ne r1.same⟩
  intro D' H' dxe zs es' n' st d1 h1 hl rv pk hq
  refine ⟨rfl, ?_⟩
  have st2 : StepT G.K (Wx G.pn x) D1 H1 D' H' := (t1.any (W := Wx G.pn x)).t.trans st
  have st3 : StepT G.K (Wn G.pn) D1 H1 D' H' := st2.fresh fun b z => z.elim (fun e' => .inr (by rw [e']; exact hx0)) .inl
  have sD : Same D' (upd D' x (.ins (He.ga G.K C) dxe (fs.zip zs))) := same_new d1
  have st4 : StepT G.K (Wn G.pn) D1 H1 (upd D' x (.ins (He.ga G.K C) dxe (fs.zip zs))) H' := st3.settle hx0 h1 d1
  have pk2 : PenOk G.K (upd D' x (.ins (He.ga G.K C) dxe (fs.zip zs))) H' G.pn n' := fun p hp => by
    obtain ⟨o, q, ns, t, g, e1, e2, e3, e4⟩ := pk p hp
    exact ⟨by rw [upd_ne (penx p hp)]; exact o, q, ns, t, g, e1, sD.seq e2, e3, e4⟩
  exact cont _ _ _ _ H' (e1.trans (st3.dd.trans sD)) (r1.step st4 pk2) (.ins upd_same hl (rvA_mono sD rv)) hq
theorem rv_isC0 {K : PySem.W.Frag} {D : Hp} {C : Str} {v : V} {d : DV} (h : Rv K D v d) (hc : isC C d = true) : ∃ a dx fs, v = .ref a ∧ D a = some (.ins (He.ga K C) dx fs) := by
  cases h with
  | @ins a dx B fs vs ds h1 h2 h3 =>
    have e1 : B = C := of_decide_eq_true hc
    subst e1
    exact ⟨a, dx, _, rfl, h1⟩
  | _ => cases hc
/-- what may stand on the other side of a comparison -/
structure OthD (K : PySem.W.Frag) (C : Addr) (ok : DV → Bool) : Prop where
  ty : ∀ {D H : Hp} {v : V} {d : DV}, Same D H → Rv K D v d → ok d = true → ∃ t, TyX K H v t ∧ PySem.W.notFirst K C t = true
def pCmpO (C : Str) (ok : DV → Bool) (Fn : List DV → Nat → (DV → Nat → Prop) → PR → Prop) (pa pb : PEt) : PEt := fun ρ Q R => pa ρ (fun d ρ1 => pb ρ1 (fun d2 ρ2 => isC C d = true ∧ ok d2 = true ∧ Fn [d, d2] ρ2.ink (fun z n => Q z { ρ2 with ink := n }) R) R) R
theorem sim_cmpO {CX : CXT} {k j : Nat} {C : Str} {Fn : PFn} {ok : DV → Bool} {ta tb : TE} (o : OthD G.K (He.ga G.K C) ok) (sa : SimE G ta pa) (sb : SimE G tb pb) : SimE G (tOp (rCmpO G.K (He.ga G.K C) (spP G.K Fn) G.E) ta tb) (pCmpO C ok (Fn G.pn) pa pb) := by
  intro F D σ H ρ Q R k rel hp hx cont
  refine sa F D σ H ρ _ R _ rel hp hx fun d ρ1 D1 v H1 e1 r1 q1 hp1 => ?_
  refine sb F D1 σ H1 ρ1 _ R _ r1 hp1 hx fun d2 ρ2 D2 v2 H2 e2 r2 q2 hp2 => ?_
  obtain ⟨h1, h2, hp2⟩ := hp2
  obtain ⟨p1, dx, fs, rfl, h3⟩ := rv_isC0 q1 h1
  obtain ⟨t, h4, h5⟩ := o.ty r2.same q2 h2
  exact ⟨p1, dx, fs, t, rfl, (e2.trans r2.same) _ _ h3, h4, h5, sp_of r2 (.cons (rv_mono e2 q1) (.cons q2 .nil)) hp2 hx fun d ρ' D' v H' s r q h => cont d ρ' D' v H' ((e1.trans e2).trans s) r q h⟩
theorem d_cmpO {CX : CXT} {k j : Nat} {C m : Str} {Fn : PFn} {ok : DV → Bool} {op : CmpOp} (c : MetX X.prog X.w X.K X.mg X.base CX k (He.ga G.K C) m (spP G.K Fn)) (o : OthD G.K (He.ga G.K C) ok) (hr : Room j X.A) (hk : k ≤ j) (hx : Passes CX X G.E) (ha : DE G X a pa) (hb : DE G X b pb) (hm : behindInMarks op b = false)
    (hop : ∀ a b, compareOp op a b = richCompare op a b := by intro _ _; rfl) (hn : (cmpInfo op).2.1 = m := by decide +kernel) (hK : X.K = G.K := by rfl) : DE G X (.Compare a [op] [b] pos) (pCmpO C ok (Fn G.pn) pa pb) := by
  have h := op_cmpO c hr hk hx hop hn
  rw [hK] at h
  exact DE.of (pe_cmpR h ha.run hb.run hm) (sim_cmpO (CX := CX) (k := k) (j := j) o simE_l simE_l)
theorem t_cmpO {CX : CXT} {k j : Nat} {C m : Str} {Fn : PFn} {ok : DV → Bool} {op : CmpOp} (c : MetX X.prog X.w X.K X.mg X.base CX k (He.ga G.K C) m (spP G.K Fn)) (o : OthD G.K (He.ga G.K C) ok) (hr : Room j X.A) (hk : k ≤ j) (hx : Passes CX X G.E) (ha : DE G X a pa) (hb : DE G X b pb) (hm : behindInMarks op b = false)
    (hop : ∀ a b, compareOp op a b = richCompare op a b := by intro _ _; rfl) (hn : (cmpInfo op).2.1 = m := by decide +kernel) (hK : X.K = G.K := by rfl) : DT G X (.Compare a [op] [b] pos) (pTst (pCmpO C ok (Fn G.pn) pa pb)) := by
  have h := op_cmpO c hr hk hx hop hn
  rw [hK] at h
  exact DT.of (pt_cmpR h ha.run hb.run hm) (sim_tst (sim_cmpO (CX := CX) (k := k) (j := j) o simE_l simE_l))
end
section
/-- a comprehension whose items draw: c ink each -/
theorem lc_ink {ds : List DV} {vs : List Nat} {pg : PGt} {pe : PEt} {Q : List DV → Ps → Prop} {sl : Sl} {n : Nat} (c : Nat) (Pv : Nat → DV → Prop) (hs : ds.length ≤ 1000000) (hw : wipeP sl vs = sl) (hn : c * ds.length ≤ n)
    (turn : ∀ (i : Nat) (d : DV) (m : Nat) (k : DV → Ps → Prop), ds[i]? = some d → c ≤ m → (∀ y sl' m', Pv i y → m - c ≤ m' → Le sl (wipeP sl' vs) → k y ⟨sl', m'⟩) → pg d ⟨sl, m⟩ fun ρ3 => pe ρ3 k fun _ _ => False)
    (fin : ∀ ys : List DV, ys.length = ds.length → (∀ i y, ys[i]? = some y → Pv i y) → Q ys ⟨sl, n - c * ds.length⟩) : LcIn vs pg pYes pe Q ds ⟨sl, n⟩ := by
  refine ⟨fun i acc ρ => acc.length = i ∧ (∀ j y, acc[j]? = some y → Pv j y) ∧ ρ = ⟨sl, n - c * i⟩, ⟨rfl, fun j y h => by simp at h, by rw [Nat.mul_zero]; rfl⟩, ?_, ?_⟩
  · rintro i d acc ρ2 hd ⟨rfl, ha, rfl⟩
    have hi := (List.getElem?_eq_some_iff.mp hd).1
    show pg d ⟨wipeP sl vs, n - c * acc.length⟩ fun ρ3 => pe ρ3 _ fun _ _ => False
    rw [hw]
    have hm : c * (acc.length + 1) ≤ c * ds.length := Nat.mul_le_mul_left c hi
    have he : c * (acc.length + 1) = c * acc.length + c := Nat.mul_succ ..
    refine turn _ d _ _ hd (by omega) fun y sl' m' hy hm' le => ⟨?_, sl, n - c * (acc.length + 1), le, by show _ ≤ m'; omega, ?_, ?_, rfl⟩
    · exact Nat.lt_of_lt_of_le hi (Nat.le_trans hs (by decide))
    · rw [List.length_append]; rfl
    · intro j y' hj
      by_cases e : j < acc.length
      · rw [List.getElem?_append_left e] at hj
        exact ha j y' hj
      · rw [List.getElem?_append_right (by omega)] at hj
        have e2 : j = acc.length := by
          have := (List.getElem?_eq_some_iff.mp hj).1
          simp at this
          omega
        subst e2
        simp at hj
        rw [← hj]
        exact hy
  · rintro acc ρ2 ⟨hl, ha, rfl⟩
    show Q _ ⟨wipeP sl vs, _⟩
    rw [hw]
    exact fin acc hl ha
end
end Rg

set_option Elab.async false
set_option linter.all false
set_option maxRecDepth 100000
set_option maxHeartbeats 2000000
namespace Rg
open PySem PySem.Spec PyProof.Rows L2
section
variable {G : Gx} {X : Cx} {a b c e tg : Expr} {es : List Expr} {pos p : Pos} {pa pb pc : PEt} {pl : PAt} {x : Str}
end
theorem pAny_val {i : Nat} {sl : Sl} {n : Nat} {d : DV} {xs : List DV} {Q : List DV → Ps → Prop} {R : PR} (h : sl[i]? = some (some (.val d))) (hx : itemsOf d = some xs) (q : Q xs ⟨sl, n⟩) : pAny (pVar i) ⟨sl, n⟩ Q R := by
  unfold pAny pVar
  rw [h]
  show (match itemsOf d with | some xs => Q xs ⟨sl, n⟩ | none => False)
  rw [hx]
  exact q
section
variable {G : Gx} {X : Cx} {a b c e tg : Expr} {es : List Expr} {pos p : Pos}
end
end Rg

set_option Elab.async false
set_option linter.all false
set_option maxRecDepth 100000
set_option maxHeartbeats 4000000
namespace Rg
open PySem PySem.Spec PyProof.Rows L2
section
variable {X : Cx} {pins : List (Addr × Obj)} {σ : L2.St} {H : Hp} {s sI s' : Shared} {B : Heap}
end
inductive HdK (X : Cx) : List ExceptHandler → List (Value × Option Nat × TS) → Prop
  | nil : HdK X [] []
  | as_ {x n : Str} {c : Value} {i : Nat} {ts : TS} {b₀ : Stmt} {suite : List Stmt} {np pos' : Pos} {hds : List ExceptHandler} {l : List (Value × Option Nat × TS)} (hc : Names X x c) (hN : X.N.Nodup) (hi : X.N[i]? = some n) (hln : X.env.kindOf n = some .local)
      (hsu : ∀ (a : Addr) (pn : List (Addr × Obj)), PSs (X.suite a pn) (b₀ :: suite) ts) (r : HdK X hds l) :
      HdK X (.ExceptHandler (some (.Name x np)) (some n) (b₀ :: suite) pos' :: hds) ((c, some i, ts) :: l)
  | only {x : Str} {c : Value} {ts : TS} {b₀ : Stmt} {suite : List Stmt} {np pos' : Pos} {hds : List ExceptHandler} {l : List (Value × Option Nat × TS)} (hc : Names X x c)
      (hsu : ∀ (a : Addr) (pn : List (Addr × Obj)), PSs (X.suite a pn) (b₀ :: suite) ts) (r : HdK X hds l) :
      HdK X (.ExceptHandler (some (.Name x np)) none (b₀ :: suite) pos' :: hds) ((c, none, ts) :: l)
section
variable {X : Cx} {body : List Stmt} {h₀ : ExceptHandler} {hds : List ExceptHandler} {l : List (Value × Option Nat × TS)} {pos : Pos} {tb : WX → TS} {Wout : WX}
end
end Rg

set_option Elab.async false
set_option linter.all false
set_option maxRecDepth 100000
set_option maxHeartbeats 4000000
namespace Rg
open PySem PySem.Spec PyProof.Rows L2
def subX (T : ExT) (x C : Str) : Option Bool := match T.lookup x, T.lookup C with
  | some anc, some _ => some (decide (C ∈ anc))
  | _, _ => none
/-- the classes of exceptions -/
theorem lookup_mem {β : Type} {x : Str} {b : β} : ∀ {l : List (Str × β)}, l.lookup x = some b → (x, b) ∈ l
  | [], h => by cases h
  | (y, c) :: l, h => by
    by_cases e : x = y
    · subst e
      rw [List.lookup_cons_self] at h
      cases h
      exact List.mem_cons_self
    · have q : (x == y) = false := beq_eq_false_iff_ne.mpr e
      rw [List.lookup_cons, q] at h
      exact List.mem_cons_of_mem _ (lookup_mem h)
abbrev PRx := Exn → Ps → Prop
abbrev PSr := PEnds → Ps → PRx → Prop
abbrev PRt := Ps → PQ → PRx → Prop
def XOk (G : Gx) (F : List (Addr × HO)) (D : Hp) (σ : L2.St) (E : L2.St → XK) (R : PRx) : Prop := ∀ (x : Exn) (ρ' : Ps) (D' H' : Hp) (d : Addr) (ps : List (Str × V)), Same D D' → Rel G F D' σ H' ρ' → D' d = some (.xd ps) → ps.map (·.1) = x.2.1 → RvA G.K D' (ps.map (·.2)) x.2.2 → R x ρ' → E σ (.ref (He.ga G.K x.1)) (some d) H'
def lR (G : Gx) (E : L2.St → XK) (p : PRt) : TE := fun σ H k => ∃ (F : List (Addr × HO)) (D : Hp) (ρ : Ps) (Q : PQ) (R : PRx), Rel G F D σ H ρ ∧ p ρ Q R ∧ XOk G F D σ E R ∧
  ∀ d ρ' D' v H', Same D D' → Rel G F D' σ H' ρ' → Rv G.K D' v d → Q d ρ' → k v H'
structure DR (G : Gx) (X : Cx) (e : Expr) (p : PRt) : Prop where
  run : ∀ (E : L2.St → XK), (∀ σ, PassesAt (L2.CX X.prog X.w) X σ (E σ)) → PE X e (lR G E p)
theorem XOk.up {G : Gx} {F : List (Addr × HO)} {D D1 : Hp} {σ : L2.St} {E : L2.St → XK} {R : PRx} (h : XOk G F D σ E R) (s : Same D D1) : XOk G F D1 σ E R := fun x ρ' D' H' d ps e => h x ρ' D' H' d ps (s.trans e)
section
variable {G : Gx} {X : Cx} {a b c e : Expr} {es : List Expr} {pos : Pos} {pl : PAt} {p : PRt} {q : PSr}
abbrev PHd := List (Str × Option Nat × PSt)
inductive DH (G : Gx) (X : Cx) : List ExceptHandler → PHd → Prop
  | nil : DH G X [] []
  | as_ {x n C : Str} {i : Nat} {q : PSt} {b₀ : Stmt} {suite : List Stmt} {np pos' : Pos} {hds : List ExceptHandler} {l : PHd} (hg : Gl X x) (hd : (x == ("__debug__" : Str)) = false) (hm : X.mg x = some (.ref (He.ga G.K C))) (hN : X.N.Nodup) (hi : X.N[i]? = some n) (hln : X.env.kindOf n = some .local)
      (hsu : ∀ (a : Addr) (pn : List (Addr × Obj)), DSs G (X.suite a pn) (b₀ :: suite) q) (r : DH G X hds l) : DH G X (.ExceptHandler (some (.Name x np)) (some n) (b₀ :: suite) pos' :: hds) ((C, some i, q) :: l)
  | only {x C : Str} {q : PSt} {b₀ : Stmt} {suite : List Stmt} {np pos' : Pos} {hds : List ExceptHandler} {l : PHd} (hg : Gl X x) (hd : (x == ("__debug__" : Str)) = false) (hm : X.mg x = some (.ref (He.ga G.K C)))
      (hsu : ∀ (a : Addr) (pn : List (Addr × Obj)), DSs G (X.suite a pn) (b₀ :: suite) q) (r : DH G X hds l) : DH G X (.ExceptHandler (some (.Name x np)) none (b₀ :: suite) pos' :: hds) ((C, none, q) :: l)
def hTs (G : Gx) (l : PHd) : List (Value × Option Nat × TS) := l.map fun h => (.ref (He.ga G.K h.1), h.2.1, lS G h.2.2)
theorem DH.hd {hds : List ExceptHandler} {l : PHd} (h : DH G X hds l) : HdK X hds (hTs G l) := by
  induction h with
  | nil => exact .nil
  | as_ hg hd hm hN hi hln hsu r ih => exact .as_ ⟨hg, hd, .inl hm⟩ hN hi hln (fun a pn => (hsu a pn).run) ih
  | only hg hd hm hsu r ih => exact .only ⟨hg, hd, .inl hm⟩ (fun a pn => (hsu a pn).run) ih
/-- rel of the same G but for the wish -/
theorem RelB.nox {F : List (Addr × HO)} {D : Hp} {σ : L2.St} {H : Hp} {ρ : Ps} (h : RelB G F D σ H ρ) : RelB G.nox F D σ H ρ := ⟨h.st, h.sl, h.fr, h.pen, h.ph, h.nt⟩
end
def calmF (Fn : PFn) : PFn := fun pn ds n Q _ => Fn pn ds n Q fun _ _ => False
section
variable {P : Program} {w : World} {K : PySem.W.Frag} {mg : Str → Option Value} {base : Heap} {k : Nat} {f : Addr} {fd : FuncData} {ps : List Str} {sp : Sp} {Fn : PFn}
theorem calm_sp {vs : List V} {H : Hp} {Q : VK} {E : XK} (h : spP K (calmF Fn) vs H Q E) : spP K Fn vs H Q fun _ _ _ => False := by
  obtain ⟨D, pn, ds, n, Qd, R, sd, ph, rv, pen, hf, post, ex⟩ := h
  exact ⟨D, pn, ds, n, Qd, _, sd, ph, rv, pen, hf, post, ex_never⟩
theorem calm_cx {outer : List Env} {H : Hp} {s s' : Shared} {u : Value} (h : L2.CX P w outer H s (fun _ _ _ => False) u s') : False := by
  obtain ⟨_, _, _, _, _, _, _, _, _, _, _, _, z⟩ := h
  exact z
theorem FnOk.calm (F : FnOk P w K mg base (L2.CX P w) k f fd ps (spP K Fn)) : FnOk P w K mg base CX0 k f fd ps (spP K (calmF Fn)) :=
  ⟨fun vs H Q E h => F.len _ _ _ _ (calm_sp h), fun A outer s H args us vs Q E hr he hb hv hs => codeAny_mono (F.run A outer s H args us vs Q _ hr he hb hv (calm_sp hs)) fun r s' hq => by
    cases r with
    | error e => exact (calm_cx hq).elim
    | ok fl => cases fl <;> exact hq⟩
theorem CalX.calm {x : Str} (c : CalX P w K mg base (L2.CX P w) k x (spP K Fn)) : CalX P w K mg base CX0 k x (spP K (calmF Fn)) := by
  obtain ⟨f, fd, ps, F, g, kp, b⟩ := c.ex
  exact ⟨f, fd, ps, FnOk.calm F, g, kp, b⟩
theorem MetX.calm {C : Addr} {m : Str} (c : MetX P w K mg base (L2.CX P w) k C m (spP K Fn)) : MetX P w K mg base CX0 k C m (spP K (calmF Fn)) := by
  obtain ⟨f, fd, ps, hm, F, b⟩ := c.ex
  exact ⟨f, fd, ps, hm, FnOk.calm F, b⟩
def calmN (Fn : NFn) : NFn := fun pn ds n Q _ => Fn pn ds n Q fun _ _ => False
theorem MkX.calm {C : Str} {fs : List Str} {Fn : NFn} {x : Str} (c : MkX P w K mg base (L2.CX P w) k x (He.ga K C) (spNew K C fs Fn)) : MkX P w K mg base CX0 k x (He.ga K C) (spNew K C fs (calmN Fn)) := by
  obtain ⟨f, fd, ps, M, F, g, b⟩ := c.ex
  have cs : ∀ {vs : List V} {H : Hp} {Q : VK} {E : XK}, spNew K C fs (calmN Fn) vs H Q E → spNew K C fs Fn vs H Q fun _ _ _ => False := fun {vs H Q E} h => by
    obtain ⟨D, pn, x, dx, us, ds, n, Qd, R, h1, h2, h3, h4, h5, h6, h7, h8, h9, _⟩ := h
    exact ⟨D, pn, x, dx, us, ds, n, Qd, _, h1, h2, h3, h4, h5, h6, h7, h8, h9, exX_never⟩
  refine ⟨f, fd, ps, M, ⟨fun vs H Q E h => F.len _ _ _ _ (cs h), fun A outer s H args us vs Q E hr he hb hv hs => codeAny_mono (F.run A outer s H args us vs Q _ hr he hb hv (cs hs)) fun r s' hq => ?_⟩, g, b⟩
  cases r with
  | error e => exact (calm_cx hq).elim
  | ok fl => cases fl <;> exact hq
end
section
variable {G : Gx} {X : Cx} {e : Expr} {es : List Expr} {pos p : Pos} {pl : PAt} {x : Str}
end
end Rg

set_option Elab.async false
set_option linter.all false
set_option maxRecDepth 100000
set_option maxHeartbeats 4000000
namespace Rg
open PySem PySem.Spec PyProof.Rows L2
theorem oexB_ok {K : PySem.W.Frag} {C : Addr} (h : oexB K C = true) : OexC K C := by
  unfold oexB at h
  obtain ⟨h1, h⟩ := Bool.and_eq_true_iff.mp h
  obtain ⟨h2, h⟩ := Bool.and_eq_true_iff.mp h
  obtain ⟨h3, h⟩ := Bool.and_eq_true_iff.mp h
  obtain ⟨h4, h5⟩ := Bool.and_eq_true_iff.mp h
  refine ⟨?_, He.eqO_ok h2, of_decide_eq_true h3, of_decide_eq_true h4, h5⟩
  split at h1
  · rename_i dd cd sl ho
    split at h1
    · rename_i C' bm k0 k1 k2 k3 n k5 hm hs
      obtain ⟨g1, h1⟩ := Bool.and_eq_true_iff.mp h1
      obtain ⟨g2, h1⟩ := Bool.and_eq_true_iff.mp h1
      obtain ⟨g3, h1⟩ := Bool.and_eq_true_iff.mp h1
      obtain ⟨g4, g5⟩ := Bool.and_eq_true_iff.mp h1
      have e1 := of_decide_eq_true g1
      have e2 := of_decide_eq_true g2
      subst e1 e2
      obtain ⟨nm, bs, mro, ns, qn, hd, sn, sub, ab, col, del⟩ := cd
      dsimp only at hm g3 g4
      subst hm g3
      have e4 : del = false := by
        cases del with
        | false => rfl
        | true => cases g4
      subst e4
      have hsl : sl = #[k0, k1, k2, k3, some (.builtin "ValueError.__new__"), k5] := by
        obtain ⟨l⟩ := sl
        simp only at hs
        rw [hs]
      subst hsl
      exact ⟨nm, qn, ns, bs, bm, sn, sub, ab, col, dd, k0, k1, k2, k3, k5, ho, g5⟩
    · cases h1
  · cases h1
theorem excCB_ok {K : PySem.W.Frag} {D : Addr} (h : excCB K D = true) : ExcC K D := by
  unfold excCB at h
  obtain ⟨h1, h⟩ := Bool.and_eq_true_iff.mp h
  obtain ⟨h2, h⟩ := Bool.and_eq_true_iff.mp h
  obtain ⟨h3, h⟩ := Bool.and_eq_true_iff.mp h
  obtain ⟨h4, h⟩ := Bool.and_eq_true_iff.mp h
  obtain ⟨h5, h⟩ := Bool.and_eq_true_iff.mp h
  obtain ⟨h6, h⟩ := Bool.and_eq_true_iff.mp h
  obtain ⟨h7, h8⟩ := Bool.and_eq_true_iff.mp h
  exact ⟨He.eqO_ok h1, He.eqO_ok h2, of_decide_eq_true h3, h4, He.eqO_ok h5, He.eqO_ok h6, of_decide_eq_true h7, of_decide_eq_true h8⟩
theorem excsB_ok {K : PySem.W.Frag} {T : ExT} (h : excsB K T = true) {x C : Str} {b : Bool} (e : subX T x C = some b) : ExcC K (He.ga K x) := by
  unfold subX at e
  split at e
  · next anc q e1 e2 => exact excCB_ok (List.all_eq_true.mp h _ (lookup_mem e1))
  · cases e
theorem kitXB_ok {K : PySem.W.Frag} {T : ExT} (h : kitXB K T = true) {x C : Str} {b : Bool} (e : subX T x C = some b) : PySem.W.kitOne K (.ref (He.ga K x)) (.ref (He.ga K C)) = some b := by
  unfold subX at e
  split at e
  · next anc q e1 e2 =>
    cases e
    exact of_decide_eq_true (List.all_eq_true.mp (List.all_eq_true.mp (Bool.and_eq_true_iff.mp h).1 _ (lookup_mem e1)) _ (lookup_mem e2))
  · cases e
theorem kitXB_ty {K : PySem.W.Frag} {T : ExT} (h : kitXB K T = true) {n : String} {C : Str} (hn : n ∈ tyNames) (e : (T.lookup C).isSome = true) : PySem.W.kitOne K (.type n) (.ref (He.ga K C)) = some false := by
  obtain ⟨anc, e1⟩ := Option.isSome_iff_exists.mp e
  exact of_decide_eq_true (List.all_eq_true.mp (List.all_eq_true.mp (Bool.and_eq_true_iff.mp h).2 _ hn) _ (lookup_mem e1))
def spXI (C : Addr) (fs : List Str) : Sp := fun vs H Q _ => ∃ (a : Addr) (ys : List V), vs = .ref a :: ys ∧ ys.length = fs.length ∧ H a = some (exo a C none) ∧
  ∀ (d : Addr) (H' : Hp), H d = none → d ≠ a → H' a = some (exo a C (some d)) → H' d = some (exd d (fs.zip ys).reverse) → (∀ b, b ≠ a → b ≠ d → H' b = H b) → Q .non H'
structure XcX (P : Program) (w : World) (K : PySem.W.Frag) (mg : Str → Option Value) (base : Heap) (k : Nat) (x : Str) (C : Addr) (fs : List Str) : Prop where
  ex : ∃ (fI : Addr) (fd : FuncData) (ps : List Str), OexC K C ∧ PySem.W.findIn K (.ref C) "__init__" = some (some (.ref fI)) ∧ PySem.W.typeIn K (.ref fI) = some (.type "function") ∧ FnOk P w K mg base CX0 k fI fd ps (spXI C fs) ∧ Binds K fd ps [] ∧ mg x = some (.ref C)
theorem rvA_rev {K : PySem.W.Frag} {D : Hp} : ∀ {vs : List V} {ds : List DV}, RvA K D vs ds → RvA K D vs.reverse ds.reverse
  | _, _, .nil => .nil
  | _, _, .cons a b => by
    rw [List.reverse_cons, List.reverse_cons]
    exact rvA_app (rvA_rev b) (.cons a .nil)
section
variable {G : Gx} {X : Cx} {a b c e : Expr} {es : List Expr} {pos p pos2 : Pos} {pl : PAt} {pa : PEt} {x : Str}
def pRaise (C : Str) (fs : List Str) (pl : PAt) : PSt := fun E ρ => pl ρ (fun ds ρ1 => ds.length = fs.length ∧ E.rs (C, fs.reverse, ds.reverse) ρ1.ink) E.rs
theorem s_raise {k j : Nat} {C : Str} {fs : List Str} (c : XcX X.prog X.w X.K X.mg X.base k x (He.ga G.K C) fs) (tk : Takes X fun cls d _ H => G.E cls d H) (hr : Room j X.A) (hk : k + 1 ≤ j) (hg : Gl X x) (ha : DA G X (e :: es) pl) (hfs : fs.length ≤ 900 := by decide) (hc : X.calm = true := by rfl)
    (hdb : (x == ("__debug__" : Str)) = false := by decide) (he : starEach (e :: es) X.env = (false, eval e X.env) :: starEach es X.env := by rfl) (hpl : (backTo pos (starEach es X.env)).any (·.1) = false := by rfl) :
    DS G X (.Raise (some (.Call (.Name x p) (e :: es) [] pos)) none pos2) (pRaise C fs pl) := by
  obtain ⟨fI, fd, ps, O, iC, tI, F, b, hm⟩ := c.ex
  refine DS.of (ps_raise hc tk (pmk_oex O iC tI F (hr.mono hk) b .nil pass0 hg hm ha.run hdb he hpl)) fun D σ H ρ Ep E rel hp ok hx => ?_
  refine simA_l [] D σ H ρ _ Ep.rs _ rel hp hx fun ds ρ1 D1 vs H1 e1 r1 q1 hp1 => ?_
  obtain ⟨hl, hp1⟩ := hp1
  have vl : vs.length = fs.length := (rvA_len q1).trans hl
  refine ⟨by omega, fun a0 ha0 => ⟨a0, vs, by rw [List.append_nil], vl, upd_same, fun d H' hd hda h1 h2 h3 => ?_⟩⟩
  have hd1 : H1 d = none := by rw [upd_ne hda] at hd; exact hd
  refine ⟨rfl, d, _, h1, h2, hd1, ?_⟩
  have eH : upd (del H' a0) d (.xd (fs.zip vs).reverse) = upd H1 d (.xd (fs.zip vs).reverse) := by
    funext b0
    by_cases hb : b0 = d
    · rw [hb, upd_same, upd_same]
    · rw [upd_ne hb, upd_ne hb]
      by_cases hb2 : b0 = a0
      · rw [hb2, del_same, ha0]
      · rw [del_ne hb2, h3 b0 hb2 hb, upd_ne hb2]
  rw [eH]
  have r2 : Rel G [] (upd D1 d (.xd (fs.zip vs).reverse)) σ (upd H1 d (.xd (fs.zip vs).reverse)) ρ1 := r1.new hd1
  refine hx.ok _ _ (C, fs.reverse, ds.reverse) ρ1.ink d (fs.zip vs).reverse r2.st r2.pen upd_same ?_ ?_ hp1
  · rw [List.map_reverse]
    show (List.map Prod.fst (fs.zip vs)).reverse = fs.reverse
    rw [List.map_fst_zip (by omega)]
  · rw [List.map_reverse]
    show RvA G.K _ (List.map Prod.snd (fs.zip vs)).reverse ds.reverse
    rw [List.map_snd_zip (by omega)]
    exact rvA_mono (r1.newS hd1) (rvA_rev q1)
theorem rv_exc {K : PySem.W.Frag} {D : Hp} {v : V} {C : Str} {fs : List Str} {ds : List DV} (h : Rv K D v (.node (.exc C fs) ds)) : ∃ a d ps, v = .ref a ∧ D a = some (ExG (.ref (He.ga K C)) (some d) a) ∧ D d = some (.xd ps) ∧ ps.map (·.1) = fs ∧ RvA K D (ps.map (·.2)) ds := by
  cases h with
  | exc h1 h2 h3 h4 => exact ⟨_, _, _, rfl, h1, h2, h3, h4⟩
theorem inst_exc {pins : List (Addr × Obj)} {σ : L2.St} {H : Hp} {s : Shared} {a0 C d : Addr} {ps : List (Str × V)} (I : Inv X pins σ H s) (h1 : H a0 = some (ExG (.ref C) (some d) a0)) (h2 : H d = some (.xd ps)) :
    ∃ oe od, PySem.W.InstAt s.heap a0 oe C (some od) ∧ ∀ f v, ps.lookup f = some v → ∃ u, PySem.W.lookIn f od = some (some u) ∧ RelV v u := by
  obtain ⟨⟨oe, vs, ho, hz, hd⟩, _, _⟩ := I.hok a0 _ h1
  have hxd : ObjOk X.prog X.w H s.heap d (.xd ps) := I.hok d _ h2
  obtain ⟨mA, hns, hr⟩ := hxd
  obtain ⟨od, hod, hl⟩ := lookIn_ns hns
  refine ⟨oe, od, ⟨ho, hz.1, by unfold PySem.W.notCls; rw [hd] <;> rfl, by rw [hz.2]; exact hod⟩, fun f v e => ?_⟩
  obtain ⟨u, hu, ru⟩ := RelO.some_of (v := v) (o := mA f) (by rw [← e]; exact hr f)
  exact ⟨u, by rw [hl, hu], ru⟩
def FldX (K : PySem.W.Frag) (f : Str) (Cs : List Str) : Prop := ∀ C ∈ Cs, ExcC K (He.ga K C) ∧ PySem.W.findIn K (.ref (He.ga K C)) f = some none
theorem fldXB_ok {K : PySem.W.Frag} {f : Str} {Cs : List Str} (h : fldXB K f Cs = true) : FldX K f Cs := fun C hC => by
  obtain ⟨h1, h2⟩ := Bool.and_eq_true_iff.mp (List.all_eq_true.mp h C hC)
  exact ⟨excCB_ok h1, He.eqO_ok h2⟩
/-- the class of a value, caught exceptions among them -/
inductive TyY (K : PySem.W.Frag) (H : Hp) : V → Value → Prop where
  | base {x : V} {t : Value} (h : TyX K H x t) : TyY K H x t
  | exc {a0 C d : Addr} {ps : List (Str × V)} (h1 : H a0 = some (ExG (.ref C) (some d) a0)) (h2 : H d = some (.xd ps)) (T : ExcC K C) : TyY K H (.ref a0) (.ref C)
theorem kitx_exc {K : PySem.W.Frag} {x D : Addr} {ox : Obj} {od : Option Obj} (T : ExcC K D) : PySem.W.KitX K (.ref x) (.ref D) (fun h => PySem.W.InstAt h x ox D od) where
  ty := fun _ _ _ I => I.type
  it := fun _ _ X _ => by
    obtain ⟨cdD, hcD, _⟩ := PySem.W.any_some T.hd
    unfold PySem.W.clsIn at hcD
    split at hcD
    · rename_i c' d' cd' sl' ho
      intro A' Q' E' s' k q
      unfold isType loadHead
      exact wpAny_bind (wpAny_loadPart (k _ _ (X _ _ ho)) (wpAny_pure q))
    · cases hcD
  ne := fun h tp dd its n sl X htp => by
    obtain ⟨cdD, hcD, _⟩ := PySem.W.any_some T.hd
    refine Bool.eq_false_iff.mpr fun q => ?_
    have e : D = tp := Value.ref.inj (beq_iff_eq.mp q)
    subst e
    unfold PySem.W.clsIn at hcD
    split at hcD
    · rename_i c' d' cd' sl' ho
      have z := (X _ _ ho).symm.trans htp
      cases z
    · cases hcD
  ca := fun X I k => PySem.W.kx_classE X I T.hg T.hk T.hs (PySem.W.findObj_dataE (by obtain ⟨cd, hc, _⟩ := PySem.W.any_some T.hd; rw [hc]; rfl) T.ha T.hn T.ht) T.hm k
theorem kit_ofY {pins : List (Addr × Obj)} {σ : L2.St} {H : Hp} {s : Shared} {y : V} {u t : Value} (I : Inv X pins σ H s) (rx : RelV y u) (ty : TyY X.K H y t) : ∃ P : Heap → Prop, PySem.W.KitX X.K u t P ∧ P s.heap ∧ u ≠ .builtin "__main__.__loader__#opaque" := by
  cases ty with
  | base h => exact kit_of I rx h
  | @exc a0 C d ps h1 h2 T =>
    obtain rfl : u = Value.ref a0 := rx
    obtain ⟨oe, od, J, _⟩ := inst_exc I h1 h2
    exact ⟨_, kitx_exc T, J, fun z => nomatch z⟩
def rIsY (K : PySem.W.Frag) : List V → Hp → VK → Prop := fun xs H Q => ∃ (y c : V) (t u : Value) (b : Bool), xs = [y, c] ∧ ClsV c u ∧ TyY K H y t ∧ PySem.W.kitOne K t u = some b ∧ Q (.bl b) H
def rIsYT (K : PySem.W.Frag) : List V → Hp → VK → Prop := fun xs H Q => ∃ (y : V) (tp : Addr) (cs : List V) (t : Value) (us : List Value) (b : Bool), xs = [y, .ref tp] ∧ H tp = some (.tup cs) ∧ Paired ClsV cs us ∧ TyY K H y t ∧ PySem.W.kitAny K t us = some b ∧ Q (.bl b) H
theorem call_isY : CallR X (.builtin "isinstance") (rIsY X.K) := by
  intro pins s σ H xs us Q I r h
  obtain ⟨x, c, t, u, b, rfl, k, ty, e, q⟩ := h
  obtain ⟨u1, u2, rfl, r1, r2⟩ := vals2 r
  have e2 := k.eq r2
  subst e2
  obtain ⟨P, Z, p, hx⟩ := kit_ofY I r1 ty
  exact PySem.W.kia_one Z I.kIn p e hx fun tk => ⟨.bl b, H, I.tok tk, rfl, q⟩
theorem call_isYT : CallR X (.builtin "isinstance") (rIsYT X.K) := by
  intro pins s σ H xs us Q I r h
  obtain ⟨x, tp, cs, t, ws, b, rfl, hT, k, ty, e, q⟩ := h
  obtain ⟨u1, u2, rfl, r1, r2⟩ := vals2 r
  cases (show u2 = Value.ref tp from r2)
  obtain ⟨P, Z, p, hx⟩ := kit_ofY I r1 ty
  obtain ⟨_, its, rv, o, h1, h2, n, h3⟩ := (show ObjOk X.prog X.w H s.heap tp (.tup cs) from I.hok tp _ hT)
  have e3 := ClsV.all k rv
  subst e3
  obtain ⟨oc, od, dt, sl⟩ := o
  simp only at h2 h3
  subst h2 h3
  exact PySem.W.kia_tup Z I.kIn p h1 e hx fun tk => ⟨.bl b, H, I.tok tk, rfl, q⟩
def tyName : DV → Option String
  | .non => some "NoneType"
  | .bl _ => some "bool"
  | .int _ => some "int"
  | .str _ => some "str"
  | .node .lst _ => some "list"
  | .node .tup _ => some "tuple"
  | .node (.dct _) _ => some "dict"
  | _ => none
theorem tyName_in {d : DV} {n : String} (h : tyName d = some n) : n ∈ tyNames := by
  unfold tyName at h
  split at h <;> cases h <;> decide
theorem rv_ty {K : PySem.W.Frag} {D H : Hp} {v : V} {d : DV} {n : String} (h : Rv K D v d) (sd : Same D H) (e : tyName d = some n) : TyX K H v (.type n) := by
  cases h with
  | non => cases e; exact .base .non
  | bl b => cases e; exact .base (.bl b)
  | int i => cases e; exact .base (.int i)
  | str z => cases e; exact .base (.str z)
  | raw v => cases e
  | lst h1 _ => cases e; exact .base (.lst (sd _ _ h1))
  | tup h1 _ => cases e; exact .base (.tup (sd _ _ h1))
  | ins _ _ _ => cases e
  | exc _ _ _ _ => cases e
  | dct h1 _ _ => cases e; exact .base (.dK (sd _ _ h1))
/-- what typeof(x) of an instance asks of its class -/
structure InsTy (K : PySem.W.Frag) (C : Addr) : Prop where
  cl : Cls K C
  ca : PySem.W.findIn K (.ref C) "__class__" = some (some (.builtin "object.__class__"))
  cn : PySem.W.specialIn K (.builtin "object.__class__") "__get__" = some (some (.builtin "getset_descriptor.__get__"))
  ct : PySem.W.takesIn K (.builtin "object.__class__") = some true
  ob : PySem.W.mroIn K C (.type "object") = some true
theorem InsTy.ty {K : PySem.W.Frag} {D H : Hp} {y : V} {C : Str} {fs : List Str} {ds : List DV} (h : InsTy K (He.ga K C)) (sd : Same D H) (r : Rv K D y (.node (.ins C fs) ds)) : TyX K H y (.ref (He.ga K C)) := by
  obtain ⟨a, dx, vs, rfl, h1, _, _⟩ := rv_ins r
  exact .base (.ins (sd _ _ h1) h.cl h.ca h.cn h.ct h.ob)
def isA (K : PySem.W.Frag) (T : ExT) : DV → DV → Bool → Prop
  | .node (.ins C _) _, .raw (.ty n), b => InsTy K (He.ga K C) ∧ PySem.W.kitOne K (.ref (He.ga K C)) (.type n) = some b
  | .node (.ins C _) _, .raw (.ref A), b => InsTy K (He.ga K C) ∧ PySem.W.kitOne K (.ref (He.ga K C)) (.ref A) = some b
  | a, .raw (.ty n), b => ∃ t, tyName a = some t ∧ kitB t n = some b
  | .node (.exc y _) _, .raw (.ref A), b => ∃ C, A = He.ga K C ∧ subX T y C = some b
  | a, .raw (.ref A), b => ∃ C, A = He.ga K C ∧ (T.lookup C).isSome = true ∧ (tyName a).isSome = true ∧ b = false
  | _, _, _ => False
def isClsD : DV → Bool
  | .raw (.ty _) => true
  | .raw (.ref _) => true
  | _ => false
def isAny (K : PySem.W.Frag) (T : ExT) (a : DV) : List DV → Bool → Prop
  | [], b => b = false
  | c :: cs, b => (isA K T a c true ∧ b = true) ∨ (isA K T a c false ∧ isAny K T a cs b)
def oIsi (K : PySem.W.Frag) (T : ExT) : ON := fun ds Q => match ds with
  | [a, .node .tup cs] => cs.all isClsD = true ∧ cs ≠ [] ∧ ∃ b, isAny K T a cs b ∧ Q (.bl b)
  | [a, c] => ∃ b, isA K T a c b ∧ Q (.bl b)
  | _ => False
def tyVal (K : PySem.W.Frag) : DV → Value
  | .node (.exc y _) _ => .ref (He.ga K y)
  | .node (.ins y _) _ => .ref (He.ga K y)
  | a => .type ((tyName a).getD "")
theorem tyVal_ty {K : PySem.W.Frag} {a : DV} {n : String} (h : tyName a = some n) : tyVal K a = .type n := by
  unfold tyVal
  split
  · cases h
  · cases h
  · rw [h]; rfl
theorem isA_kit {K : PySem.W.Frag} {T : ExT} {D H : Hp} {y c : V} {a d : DV} {b : Bool} (hx : excsB K T = true) (hk : kitXB K T = true) (sd : Same D H) (ra : Rv K D y a) (rc : Rv K D c d) (h : isA K T a d b) : ∃ u, ClsV c u ∧ TyY K H y (tyVal K a) ∧ PySem.W.kitOne K (tyVal K a) u = some b := by
  unfold isA at h
  split at h
  · cases rv_raw rc
    exact ⟨_, .ty _, .base (h.1.ty sd ra), h.2⟩
  · cases rv_raw rc
    exact ⟨_, .own _, .base (h.1.ty sd ra), h.2⟩
  · obtain ⟨t, e1, e2⟩ := h
    cases rv_raw rc
    rw [tyVal_ty e1]
    exact ⟨_, .ty _, .base (rv_ty ra sd e1), kit_ty e2⟩
  · obtain ⟨C, rfl, e⟩ := h
    cases rv_raw rc
    obtain ⟨q, dd, ps, rfl, h1, h2, h3, h4⟩ := rv_exc ra
    exact ⟨_, .own _, .exc (sd _ _ h1) (sd _ _ h2) (excsB_ok hx e), kitXB_ok hk e⟩
  · obtain ⟨C, rfl, e1, e2, rfl⟩ := h
    cases rv_raw rc
    obtain ⟨n, e3⟩ := Option.isSome_iff_exists.mp e2
    rw [tyVal_ty e3]
    exact ⟨_, .own _, .base (rv_ty ra sd e3), kitXB_ty hk (tyName_in e3) e1⟩
  · exact h.elim
theorem rv_cls {K : PySem.W.Frag} {D : Hp} {c : V} {d : DV} (rc : Rv K D c d) (h : isClsD d = true) : ∃ u, ClsV c u := by
  unfold isClsD at h
  split at h
  · cases rv_raw rc; exact ⟨_, .ty _⟩
  · cases rv_raw rc; exact ⟨_, .own _⟩
  · cases h
theorem rv_clss {K : PySem.W.Frag} {D : Hp} : ∀ {cs : List V} {ds : List DV}, RvA K D cs ds → ds.all isClsD = true → ∃ us, Paired ClsV cs us
  | _, _, .nil, _ => ⟨[], .nil⟩
  | _, _, .cons r1 r2, hc => by
    rw [List.all_cons] at hc
    obtain ⟨c1, c2⟩ := Bool.and_eq_true_iff.mp hc
    obtain ⟨u, k⟩ := rv_cls r1 c1
    obtain ⟨us, ks⟩ := rv_clss r2 c2
    exact ⟨u :: us, .cons k ks⟩
theorem isAny_kit {K : PySem.W.Frag} {T : ExT} {D H : Hp} {y : V} {a : DV} {b : Bool} (hx : excsB K T = true) (hk : kitXB K T = true) (sd : Same D H) (ra : Rv K D y a) : ∀ {cs : List V} {ds : List DV}, RvA K D cs ds → ds.all isClsD = true → isAny K T a ds b → ∃ us, Paired ClsV cs us ∧ PySem.W.kitAny K (tyVal K a) us = some b ∧ (ds ≠ [] → TyY K H y (tyVal K a))
  | _, _, .nil, _, h => by
    have h : b = false := h
    subst h
    exact ⟨[], .nil, kitAny_nil, fun z => absurd rfl z⟩
  | _, _, .cons rc rr, hc, h => by
    rw [List.all_cons] at hc
    obtain ⟨c1, c2⟩ := Bool.and_eq_true_iff.mp hc
    rcases h with ⟨h, rfl⟩ | ⟨h, h2⟩
    · obtain ⟨u, k, ty, e⟩ := isA_kit hx hk sd ra rc h
      obtain ⟨us, ks⟩ := rv_clss rr c2
      exact ⟨u :: us, .cons k ks, kitAny_cons e (fun z => nomatch z) fun _ => rfl, fun _ => ty⟩
    · obtain ⟨u, k, ty, e⟩ := isA_kit hx hk sd ra rc h
      obtain ⟨us, ks, e2, _⟩ := isAny_kit hx hk sd ra rr c2 h2
      exact ⟨u :: us, .cons k ks, kitAny_cons e (fun _ => e2) (fun z => nomatch z), fun _ => ty⟩
theorem c_isi {T : ExT} (hx : excsB G.K T = true) (hk : kitXB G.K T = true) (hK : X.K = G.K := by rfl) : CallD G X (.builtin "isinstance") (oIsi G.K T) := by
  refine ⟨_, CallR.or call_isY call_isYT, fun F D σ H ρ vs ds Q k rel rv ho cont => ?_⟩
  unfold oIsi at ho
  split at ho
  · next a cs =>
    obtain ⟨hc, hn, b, h, q⟩ := ho
    obtain ⟨y, c, rfl, ra, rc⟩ := rvA2 rv
    obtain ⟨tp, cv, rfl, h1, h2⟩ := rv_tup rc
    obtain ⟨us, ks, e, ty⟩ := isAny_kit hx hk rel.same ra h2 hc h
    rw [hK]
    exact .inr ⟨y, tp, cv, _, us, b, rfl, rel.same _ _ h1, ks, ty hn, e, cont _ _ D H (Same.refl D) rel (.bl b) q⟩
  · next a c _ =>
    obtain ⟨b, h, q⟩ := ho
    obtain ⟨y, cv, rfl, ra, rc⟩ := rvA2 rv
    obtain ⟨u, k1, ty, e⟩ := isA_kit hx hk rel.same ra rc h
    rw [hK]
    exact .inl ⟨y, cv, _, u, b, rfl, k1, ty, e, cont _ _ D H (Same.refl D) rel (.bl b) q⟩
  · exact ho.elim
end
end Rg

set_option Elab.async false
set_option linter.all false
set_option maxRecDepth 100000
set_option maxHeartbeats 4000000
namespace Rg
open PySem PySem.Spec PyProof.Rows L2
section
variable {G : Gx} {X : Cx} {a b c e o : Expr} {es : List Expr} {pos p p2 apos : Pos} {pl : PAt} {pa pb : PEt} {x : Str}
def pGetO (C : Str) (Fn : List DV → Nat → (DV → Nat → Prop) → PR → Prop) (pa pb : PEt) : PEt := fun ρ Q R => pa ρ (fun d ρ1 => pb ρ1 (fun d2 ρ2 => isC C d = true ∧ Fn [d, d2] ρ2.ink (fun z n => Q z { ρ2 with ink := n }) R) R) R
theorem d_getO {CX : CXT} {k j : Nat} {C : Str} {Fn : PFn} (c0 : MetX X.prog X.w X.K X.mg X.base CX k (He.ga G.K C) "__getitem__" (spP G.K Fn)) (hfn : ∀ f, Meth X.K (He.ga G.K C) "__getitem__" f → PySem.W.fnIn X.K f = true) (hr : Room j X.A) (hk : k + 1 ≤ j) (hx : Passes CX X G.E) (ha : DE G X a pa) (hb : DE G X b pb)
    (hsl : ∀ x i, subscripted b true (.ref x) i = runValue (.builtin "lifetime.subscript" ⟨[.ref x, i], []⟩) := by intro _ _; rfl) : DE G X (.Subscript a b pos) (pGetO C (Fn G.pn) pa pb) := by
  refine DE.of (pe_ixO c0 hfn hr hk hx ha.run hb.run hsl) fun F D σ H ρ Q R k rel hp hx cont => ?_
  refine simE_l F D σ H ρ _ R _ rel hp hx fun d ρ1 D1 v H1 e1 r1 q1 hp1 => ?_
  refine simE_l F D1 σ H1 ρ1 _ R _ r1 hp1 hx fun d2 ρ2 D2 w H2 e2 r2 q2 hp2 => ?_
  obtain ⟨h1, hp2⟩ := hp2
  obtain ⟨q, dx, fs, rfl, h3⟩ := rv_isC0 (rv_mono e2 q1) h1
  exact ⟨q, dx, fs, rfl, r2.same _ _ h3, sp_of r2 (.cons (rv_mono e2 q1) (.cons q2 .nil)) hp2 hx fun d ρ' D' v H' s r q h => cont d ρ' D' v H' ((e1.trans e2).trans s) r q h⟩
structure DKw (G : Gx) (X : Cx) (kws : List Keyword) (p : PAt) : Prop where
  run : PK X kws (lA G p)
theorem k_nil : DKw G X [] pNil := ⟨⟨fun pos pins s σ H Q I ⟨F, D, ρ, Q0, R, rel, hp, hx, cont⟩ => pk_nil.run pos pins s σ H Q I (cont [] ρ D [] H (Same.refl D) rel .nil hp)⟩⟩
theorem k_cons {kws : List Keyword} {nm : Option Str} {kp : Pos} (ha : DE G X a pa) (hl : DKw G X kws pl) : DKw G X (⟨nm, a, kp⟩ :: kws) (pCons pa pl) := ⟨⟨fun pos pins s σ H Q I ⟨F, D, ρ, Q0, R, rel, hp, hx, cont⟩ => (pk_cons ha.run hl.run).run pos pins s σ H Q I
  ⟨F, D, ρ, _, R, rel, hp, hx, fun d ρ1 D1 v H1 e1 r1 q1 hp1 => ⟨F, D1, ρ1, _, R, r1, hp1, hx, fun ds ρ2 D2 vs H2 e2 r2 q2 hp2 => cont _ ρ2 D2 _ H2 (e1.trans e2) r2 (.cons (rv_mono e2 q1) q2) hp2⟩⟩⟩⟩
end
end Rg

set_option Elab.async false
set_option linter.all false
set_option maxRecDepth 100000
set_option maxHeartbeats 4000000
namespace Rg
open PySem PySem.Spec PyProof.Rows L2
section
variable {G : Gx} {X : Cx} {pos : Pos}
end
theorem ite_T {A B : Prop} {c : Bool} (hc : c = true) (h : A) : if c = true then A else B := by rw [if_pos hc]; exact h
theorem ite_F {A B : Prop} {c : Bool} (hc : c = false) (h : B) : if c = true then A else B := by rw [hc, if_neg Bool.false_ne_true]; exact h
end Rg

set_option Elab.async false
set_option linter.all false
set_option maxRecDepth 100000
set_option maxHeartbeats 4000000
namespace Rg
open PySem PySem.Spec PyProof.Rows L2
abbrev lamQ (K : PySem.W.Frag) (P : Addr) : Str := qnK K P ++ ".<locals>.<lambda>"
/-- the heap behind the making of a lambda: as it was, or with a new code object in the table -/
inductive Grown (H H1 : Hp) (P c' : Addr) (q : Str) (ps : Array Value) : Prop
  | hit (pos : Pos) (e : H1 = H) (h : codeAmong pos ps.toList = some (.ref c')) : Grown H H1 P c' q ps
  | new (pos : Pos) (n : H c' = none) (e : H1 = upd (upd H P (.tbl (ps ++ #[rawInt pos.line, rawInt pos.col, .ref c']))) c' (LamX.CodeO c' q)) : Grown H H1 P c' q ps
theorem Grown.step {K : PySem.W.Frag} {W : Addr → Prop} {D H H1 : Hp} {P c' : Addr} {ps : Array Value} (g : Grown H H1 P c' (lamQ K P) ps) (sd : Same D H) (t : TabD K D H P) (hp : H P = some (.tbl ps)) :
    ∃ D1, StepT K W D H D1 H1 ∧ D1 c' = some (LamX.CodeO c' (lamQ K P)) := by
  obtain ⟨d0, ps', h1, ht, hc⟩ := t
  rw [hp] at h1
  cases h1
  cases g with
  | hit pos e h =>
    subst e
    obtain ⟨c, e1, e2⟩ := hc pos _ h
    cases e1
    exact ⟨D, StepT.refl sd, e2⟩
  | new pos n e =>
    have nd : D c' = none := sd.free n
    have nP : P ≠ c' := ne_of_none hp n
    have sD : Same D (upd D c' (LamX.CodeO c' (lamQ K P))) := same_new nd
    have there : ∀ b o, H b = some o → b ≠ P → H1 b = some o := fun b o h hb => by
      rw [e, upd_ne (ne_of_none h n), upd_ne hb]
      exact h
    have atP : H1 P = some (.tbl (ps ++ #[rawInt pos.line, rawInt pos.col, .ref c'])) := by rw [e, upd_ne nP, upd_same]
    refine ⟨upd D c' (LamX.CodeO c' (lamQ K P)), ⟨sD, fun b u h => ?_, fun b o _ hn h => ?_, fun b h => ?_, fun b h hd => ?_, fun b _ tb => ?_⟩, upd_same⟩
    · by_cases q : b = c'
      · rw [q, upd_same] at h
        rw [q, e, upd_same]
        exact h
      · rw [upd_ne q] at h
        exact there b u (sd b u h) fun z => by rw [z, d0] at h; cases h
    · exact there b o h fun z => by
        rw [z, hp] at h
        cases h
        exact hn
    · rw [e]
      exact upd_ne_none (upd_ne_none h)
    · have ne : b ≠ c' := fun z => h (z ▸ n)
      rw [upd_ne ne]
      exact hd
    · by_cases hb : b = P
      · subst hb
        have eL : (ps ++ #[rawInt pos.line, rawInt pos.col, .ref c']).toList = ps.toList ++ [rawInt pos.line, rawInt pos.col, .ref c'] := by simp
        refine ⟨by rw [upd_ne nP]; exact d0, _, atP, by rw [eL]; exact PySem.TriplesOk_snoc _ _ _ _ ht, fun p' cv hcv => ?_⟩
        rw [eL] at hcv
        rcases LamX.among_app _ ht hcv with z | z
        · obtain ⟨c0, e1, e2⟩ := hc p' cv z
          exact ⟨c0, e1, sD _ _ e2⟩
        · exact ⟨c', z, upd_same⟩
      · have hn := tb.there
        have ne : b ≠ c' := fun z => hn (z ▸ n)
        obtain ⟨g0, qs, g1, g2, g3⟩ := tb
        exact ⟨by rw [upd_ne ne]; exact g0, qs, there b _ g1 hb, g2, fun p' cv hcv => let ⟨c0, e1, e2⟩ := g3 p' cv hcv; ⟨c0, e1, sD _ _ e2⟩⟩
section
variable {X : Cx} {pins : List (Addr × Obj)} {σ : L2.St} {H : Hp} {s : Shared}
end
section
variable {X : Cx} {pins : List (Addr × Obj)} {σ : L2.St} {H : Hp} {s : Shared}
end
end Rg

set_option Elab.async false
set_option linter.all false
set_option maxRecDepth 100000
set_option maxHeartbeats 4000000
namespace Rg
open PySem PySem.Spec PyProof.Rows L2
section
variable {G : Gx} {X : Cx} {pb : Hp → Hp → PRt}
end
section
variable {P : Program} {w : World} {K : PySem.W.Frag} {mg : Str → Option Value} {base : Heap}
variable {CX : CXT} {x qual : Str} {params : Arguments} {body : List Stmt} {scope : Scope} {dvs : List V} {kws : List (Str × V)} {f : Addr} {fd : FuncData} {N ps : List Str} {k : Nat} {Fn : PFn} {T : List Addr}
end
section
variable {G : Gx} {X : Cx} {e : Expr} {es : List Expr} {pos p : Pos} {pl : PAt} {x : Str}
end
end Rg

set_option Elab.async false
set_option linter.all false
set_option maxRecDepth 100000
set_option maxHeartbeats 4000000
namespace Rg
open PySem PySem.Spec PyProof.Rows L2
end Rg

set_option Elab.async false
set_option linter.all false
set_option maxRecDepth 100000
set_option maxHeartbeats 4000000
namespace Rg
open PySem PySem.Spec PyProof.Rows L2
section
variable {X : Cx} {CX : CXT} {k j : Nat} {C f a : Addr} {fd : FuncData} {ps : List Str} {sp : Sp} {E : XK} {m : Str} {p pos apos : Pos} {o e : Expr} {es : List Expr} {ta tb : TE} {t : TA}
end
section
variable {G : Gx} {X : Cx} {a b c e tg : Expr} {es : List Expr} {pos p : Pos} {pa pb pc : PEt} {pl : PAt} {x : Str}
end
end Rg

set_option Elab.async false
set_option linter.all false
set_option maxRecDepth 100000
set_option maxHeartbeats 4000000
namespace Rg
open PySem PySem.Spec PyProof.Rows L2
abbrev PPt := Ps → (Option Int → Ps → Prop) → PR → Prop
def lO (G : Gx) (p : PPt) : TO := fun σ H k => ∃ (F : List (Addr × HO)) (D : Hp) (ρ : Ps) (Q : Option Int → Ps → Prop) (R : PR), Rel G F D σ H ρ ∧ p ρ Q R ∧ ExOk G R ∧ ∀ o ρ' D' H', Same D D' → Rel G F D' σ H' ρ' → Q o ρ' → k o H'
structure DO (G : Gx) (X : Cx) (e : Option Expr) (p : PPt) : Prop where
  run : PO X e (lO G p)
def cutD (ds : List DV) (lo hi : Option Int) : List DV := (ds.drop (HT.sIx ds.length 0 lo)).take (HT.sIx ds.length ds.length hi - HT.sIx ds.length 0 lo)
theorem rvA_cut {K : PySem.W.Frag} {D : Hp} {vs : List V} {ds : List DV} (h : RvA K D vs ds) (lo hi : Option Int) : RvA K D (cutV vs lo hi) (cutD ds lo hi) := by
  unfold cutV cutD
  rw [rvA_len h]
  exact rvA_take _ (rvA_drop _ h)
section
variable {G : Gx} {X : Cx} {a b c e : Expr} {lo hi : Option Expr} {pos p2 : Pos} {pa pb pc : PEt} {pl ph : PPt}
def pPN : PPt := fun ρ Q _ => Q none ρ
def pPS (pa : PEt) : PPt := fun ρ Q R => pa ρ (fun d ρ1 => match d with
  | .int i => Q (some i) ρ1
  | _ => False) R
theorem o_none : DO G X none pPN := ⟨⟨fun pins s σ H Q I ⟨F, D, ρ, Q0, R, rel, hp, hx, cont⟩ => po_none.run pins s σ H Q I (cont none ρ D H (Same.refl D) rel hp)⟩⟩
theorem o_some (h : DE G X e pa) : DO G X (some e) (pPS pa) := ⟨⟨fun pins s σ H Q I ⟨F, D, ρ, Q0, R, rel, hp, hx, cont⟩ => (po_some h.run).run pins s σ H Q I
  (simE_l F D σ H ρ _ R _ rel hp hx fun d ρ1 D1 v H1 e1 r1 q1 hp1 => by
    split at hp1
    · exact ⟨_, rv_int q1, cont _ ρ1 D1 H1 e1 r1 hp1⟩
    · exact hp1.elim)⟩⟩
def pSl (pa : PEt) (pl ph : PPt) : PEt := fun ρ Q R => pa ρ (fun d ρ1 => pl ρ1 (fun lo ρ2 => ph ρ2 (fun hi ρ3 => match d with
  | .str z => z.length ≤ sizeLine ∧ Q (.str (cutS z lo hi)) ρ3
  | .node .lst ds => Q (.lst (cutD ds lo hi)) ρ3
  | .node .tup ds => ¬ (HT.sIx ds.length 0 lo = 0 ∧ HT.sIx ds.length ds.length hi = ds.length) ∧ Q (.tup (cutD ds lo hi)) ρ3
  | _ => False) R) R) R
theorem d_slice (ha : DE G X a pa) (hl : DO G X lo pl) (hh : DO G X hi ph) (hK : X.K = G.K := by rfl) : DE G X (.Subscript a (.Slice lo hi none p2) pos) (pSl pa pl ph) := by
  refine DE.of (pe_slice (SlR.or sl_str (SlR.or (sl_listK G.K hK) (sl_tupK G.K hK))) ha.run hl.run hh.run) fun F D σ H ρ Q R k rel hp hx cont => ?_
  refine simE_l F D σ H ρ _ R _ rel hp hx fun d ρ1 D1 v H1 e1 r1 q1 hp1 => ?_
  refine ⟨F, D1, ρ1, _, R, r1, hp1, hx, fun o2 ρ2 D2 H2 e2 r2 hp2 => ?_⟩
  refine ⟨F, D2, ρ2, _, R, r2, hp2, hx, fun o3 ρ3 D3 H3 e3 r3 hp3 => ?_⟩
  have q3 := rv_mono (e2.trans e3) q1
  split at hp3
  · next z =>
    exact .inl ⟨z, rv_str q3, hp3.1, cont _ ρ3 D3 _ H3 ((e1.trans e2).trans e3) r3 (.str _) hp3.2⟩
  · next ds =>
    obtain ⟨x, vs, rfl, h1, h2⟩ := rv_lst q3
    exact .inr (.inl ⟨x, vs, rfl, SqL.of (r3.same _ _ h1), fun p np => cont _ ρ3 _ _ _ (((e1.trans e2).trans e3).trans (r3.newS np)) (r3.new np) (.lst upd_same (rvA_mono (r3.newS np) (rvA_cut h2 o2 o3))) hp3⟩)
  · next ds =>
    obtain ⟨x, vs, rfl, h1, h2⟩ := rv_tup q3
    exact .inr (.inr ⟨x, vs, rfl, SqT.of (r3.same _ _ h1), by rw [rvA_len h2]; exact hp3.1, fun p np => cont _ ρ3 _ _ _ (((e1.trans e2).trans e3).trans (r3.newS np)) (r3.new np) (.tup upd_same (rvA_mono (r3.newS np) (rvA_cut h2 o2 o3))) hp3.2⟩)
  · exact hp3.elim
end
def pKVs : List (PEt × PEt) → (List (Key × DV) → Ps → Prop) → PR → Ps → Prop
  | [], Q, _, ρ => Q [] ρ
  | (pk, pv) :: r, Q, R, ρ => pk ρ (fun k ρ1 => pv ρ1 (fun d ρ2 => match keyOf k with
    | some kk => pKVs r (fun ds ρ3 => Q ((kk, d) :: ds) ρ3) R ρ2
    | none => False) R) R
def mergeD (more : List (Key × DV)) : List (Key × DV) := more.foldl (fun acc kv => dput acc kv.1 kv.2) []
theorem rvP_merge {K : PySem.W.Frag} {D : Hp} : ∀ {vs : List (Key × V)} {ds : List (Key × DV)} {v0 : List (Key × V)} {d0 : List (Key × DV)}, RvP K D vs ds → RvP K D v0 d0 → RvP K D (mergeK v0 vs) (ds.foldl (fun acc kv => dput acc kv.1 kv.2) d0)
  | _, _, _, _, .nil, h0 => h0
  | p :: vs, q :: ds, v0, d0, .cons a b, h0 => by
    show RvP K D (mergeK (putK v0 p.1 p.2) vs) _
    rw [List.foldl_cons]
    refine rvP_merge b ?_
    rw [a.1]
    exact rvP_put _ a.2 h0
section
variable {G : Gx} {X : Cx} {pos : Pos}
inductive DKV (G : Gx) (X : Cx) : List (Option Expr) → List Expr → List (PEt × PEt) → Prop
  | nil : DKV G X [] [] []
  | cons {k v : Expr} {ks : List (Option Expr)} {vs : List Expr} {pk pv : PEt} {l : List (PEt × PEt)} : DE G X k pk → DE G X v pv → DKV G X ks vs l → DKV G X (some k :: ks) (v :: vs) ((pk, pv) :: l)
theorem DKV.pps {ks : List (Option Expr)} {vs : List Expr} {l : List (PEt × PEt)} (h : DKV G X ks vs l) : PPs X pos ks vs (l.map fun p => (lE G p.1, lE G p.2)) := by
  induction h with
  | nil => exact pps_nil
  | cons a b _ ih => exact pps_cons a.run b.run ih
theorem DKV.len {ks : List (Option Expr)} {vs : List Expr} {l : List (PEt × PEt)} (h : DKV G X ks vs l) : l.length = ks.length := by
  induction h with
  | nil => rfl
  | cons _ _ _ ih => exact congrArg Nat.succ ih
theorem sim_kvs : ∀ {l : List (PEt × PEt)} {F : List (Addr × HO)} {D : Hp} {σ : L2.St} {H : Hp} {ρ : Ps} {Q : List (Key × DV) → Ps → Prop} {R : PR} {k : List (V × V) → Hp → Prop}, Rel G F D σ H ρ → pKVs l Q R ρ → ExOk G R →
    (∀ (ds : List (Key × DV)) (vs : List (Key × V)) ρ' D' H', Same D D' → Rel G F D' σ H' ρ' → RvP G.K D' vs ds → vs.length = l.length → Q ds ρ' → k (vs.map fun kv => (kV kv.1, kv.2)) H') → tPairs (l.map fun p => (lE G p.1, lE G p.2)) σ H k
  | [], F, D, σ, H, ρ, Q, R, k, rel, hp, hx, cont => cont [] [] ρ D H (Same.refl D) rel .nil rfl hp
  | (pk, pv) :: l, F, D, σ, H, ρ, Q, R, k, rel, hp, hx, cont => by
    refine simE_l F D σ H ρ _ R _ rel hp hx fun kd ρ1 D1 v1 H1 e1 r1 q1 hp1 => ?_
    refine simE_l F D1 σ H1 ρ1 _ R _ r1 hp1 hx fun d ρ2 D2 v2 H2 e2 r2 q2 hp2 => ?_
    split at hp2
    · next kk ek =>
      have e3 := rv_key (rv_mono e2 q1) ek
      subst e3
      refine sim_kvs r2 hp2 hx fun ds vs ρ' D' H' s r rv hl q => ?_
      exact cont ((kk, d) :: ds) ((kk, v2) :: vs) ρ' D' H' ((e1.trans e2).trans s) r (.cons ⟨rfl, rv_mono s q2⟩ rv) (by rw [List.length_cons, hl]; rfl) q
    · exact hp2.elim
end
end Rg

set_option Elab.async false
set_option linter.all false
set_option maxRecDepth 100000
set_option maxHeartbeats 4000000
namespace Rg
open PySem PySem.Spec PyProof.Rows L2
section
variable {G : Gx} {X : Cx} {a b c e : Expr} {es : List Expr} {pos p : Pos} {pa pb pc : PEt} {pl : PAt} {x : Str}
end
end Rg

set_option Elab.async false
set_option linter.all false
set_option maxRecDepth 100000
set_option maxHeartbeats 4000000
namespace Rg
open PySem PySem.Spec PyProof.Rows L2
section
variable {G : Gx} {X : Cx} {a b c e : Expr} {es : List Expr} {pos p : Pos} {pa pb pc : PEt} {pl : PAt} {x : Str}
/-- x.join(list of texts) -/
def textsOf : List DV → Option (List Str)
  | [] => some []
  | .str z :: ds => (textsOf ds).map (z :: ·)
  | _ => none
theorem rvA_texts {K : PySem.W.Frag} {D : Hp} : ∀ {vs : List V} {ds : List DV} {ys : List Str}, RvA K D vs ds → textsOf ds = some ys → vs = ys.map V.str
  | _, [], _, .nil, e => by cases e; rfl
  | _, d :: ds, ys, .cons r1 r2, e => by
    cases d with
    | str z =>
      obtain ⟨zs, e1, rfl⟩ := Option.map_eq_some_iff.mp (show (textsOf ds).map (z :: ·) = some ys from e)
      rw [rv_str r1, rvA_texts r2 e1]
      rfl
    | _ => cases e
def pJoin (pa pb : PEt) : PEt := fun ρ Q R => pa ρ (fun d ρ1 => match d with
  | .str z => pb ρ1 (fun d2 ρ2 => match d2 with
    | .node .lst ds => ∃ ys, textsOf ds = some ys ∧ (ys.map (·.length)).sum + ys.length * z.length ≤ 16777216 ∧ Q (.str (Txt.join z ys)) ρ2
    | _ => False) R
  | _ => False) R
theorem d_join {apos : Pos} (ha : DE G X a pa) (hb : DE G X b pb) (hs : starEach [b] X.env = [(false, eval b X.env)] := by rfl) (hbase : attributeBase a "join" X.env (eval a X.env) = eval a X.env := by rfl) (hline : (apos.endLine == pos.line) = true := by rfl) : DE G X (.Call (.Attribute a "join" apos) [b] [] pos) (pJoin pa pb) := by
  refine DE.of (pe_join ha.run hb.run hs hbase hline) fun F D σ H ρ Q R k rel hp hx cont => ?_
  refine simE_l F D σ H ρ _ R _ rel hp hx fun d ρ1 D1 v H1 e1 r1 q1 hp1 => ?_
  split at hp1
  · next z =>
    refine ⟨⟨z, rv_str q1⟩, simE_l F D1 σ H1 ρ1 _ R _ r1 hp1 hx fun d2 ρ2 D2 v2 H2 e2 r2 q2 hp2 => ?_⟩
    split at hp2
    · next ds =>
      obtain ⟨ys, h1, h2, h3⟩ := hp2
      obtain ⟨q, vs, rfl, h4, h5⟩ := rv_lst q2
      have ev := rvA_texts h5 h1
      subst ev
      exact ⟨z, q, ys, rv_str q1, rfl, .inl (SqL.of (r2.same _ _ h4)), h2, cont _ ρ2 D2 _ H2 (e1.trans e2) r2 (.str _) h3⟩
    · exact hp2.elim
  · exact hp1.elim
end
section
variable {X : Cx} {CX : CXT} {k j : Nat} {C f : Addr} {fd : FuncData} {ps : List Str} {sp : Sp} {pos : Pos} {ta tb : TE}
end
section
variable {G : Gx} {X : Cx} {a b : Expr} {pos : Pos} {pa pb : PEt}
end
end Rg

set_option Elab.async false
set_option linter.all false
set_option maxRecDepth 100000
set_option maxHeartbeats 4000000
namespace Rg
open PySem PySem.Spec PyProof.Rows L2
section
variable {G : Gx} {X : Cx} {a b c e : Expr} {pos : Pos} {pa pb pc : PEt} {o o' : O2}
theorem d_chain {op op' : CmpOp} (ho : BinD G X (compareOp op) o) (ho' : BinD G X (compareOp op') o') (ha : DE G X a pa) (hb : DE G X b pb) (hc : DE G X c pc) (hm : lastMarks [op, op'] [b, c] = false := by with_unfolding_all rfl) :
    DE G X (.Compare a [op, op'] [b, c] pos) (pChain o o' pa pb pc) := by
  obtain ⟨r, h, s⟩ := ho.ex
  obtain ⟨r', h', s'⟩ := ho'.ex
  refine DE.of (pe_chain h h' ha.run hb.run hc.run hm) fun F D σ H ρ Q R k rel hp hx cont => ?_
  refine simE_l F D σ H ρ _ R _ rel hp hx fun x ρ1 D1 v H1 e1 r1 q1 hp1 => ?_
  refine simE_l F D1 σ H1 ρ1 _ R _ r1 hp1 hx fun y ρ2 D2 w H2 e2 r2 q2 hp2 => ?_
  refine s F D2 σ H2 ρ2 v w x y _ _ r2 (rv_mono e2 q1) q2 hp2 fun z vz D3 H3 e3 r3 q3 hz => ?_
  have e13 := (e1.trans e2).trans e3
  match z, q3, hz with
  | .bl true, q3, hz =>
    refine ⟨true, rv_bl q3, ?_⟩
    rw [if_pos rfl]
    refine simE_l F D3 σ H3 ρ2 _ R _ r3 hz hx fun w' ρ3 D4 v4 H4 e4 r4 q4 hp4 => ?_
    refine s' F D4 σ H4 ρ3 w v4 y w' _ _ r4 (rv_mono (e3.trans e4) q2) q4 hp4 fun u vu D5 H5 e5 r5 q5 hu => ?_
    cases u with
    | bl k => exact cont _ ρ3 D5 vu H5 ((e13.trans e4).trans e5) r5 q5 hu
    | _ => exact hu.elim
  | .bl false, q3, hz =>
    refine ⟨false, rv_bl q3, ?_⟩
    rw [if_neg (by simp)]
    exact cont _ ρ2 D3 _ H3 e13 r3 (.bl _) hz
theorem t_chain {op op' : CmpOp} (ho : BinD G X (compareOp op) o) (ho' : BinD G X (compareOp op') o') (ha : DE G X a pa) (hb : DE G X b pb) (hc : DE G X c pc) (hm : lastMarks [op, op'] [b, c] = false := by with_unfolding_all rfl) :
    DT G X (.Compare a [op, op'] [b, c] pos) (pTst (pChain o o' pa pb pc)) := by
  obtain ⟨r, h, s⟩ := ho.ex
  obtain ⟨r', h', s'⟩ := ho'.ex
  refine DT.of (pt_chain h h' ha.run hb.run hc.run hm) (sim_tst ?_)
  intro F D σ H ρ Q R k rel hp hx cont
  refine simE_l F D σ H ρ _ R _ rel hp hx fun x ρ1 D1 v H1 e1 r1 q1 hp1 => ?_
  refine simE_l F D1 σ H1 ρ1 _ R _ r1 hp1 hx fun y ρ2 D2 w H2 e2 r2 q2 hp2 => ?_
  refine s F D2 σ H2 ρ2 v w x y _ _ r2 (rv_mono e2 q1) q2 hp2 fun z vz D3 H3 e3 r3 q3 hz => ?_
  have e13 := (e1.trans e2).trans e3
  match z, q3, hz with
  | .bl true, q3, hz =>
    refine ⟨true, rv_bl q3, ?_⟩
    rw [if_pos rfl]
    refine simE_l F D3 σ H3 ρ2 _ R _ r3 hz hx fun w' ρ3 D4 v4 H4 e4 r4 q4 hp4 => ?_
    refine s' F D4 σ H4 ρ3 w v4 y w' _ _ r4 (rv_mono (e3.trans e4) q2) q4 hp4 fun u vu D5 H5 e5 r5 q5 hu => ?_
    cases u with
    | bl k => exact cont _ ρ3 D5 vu H5 ((e13.trans e4).trans e5) r5 q5 hu
    | _ => exact hu.elim
  | .bl false, q3, hz =>
    refine ⟨false, rv_bl q3, ?_⟩
    rw [if_neg (by simp)]
    exact cont _ ρ2 D3 _ H3 e13 r3 (.bl _) hz
end
end Rg

set_option Elab.async false
set_option linter.all false
set_option maxRecDepth 100000
set_option maxHeartbeats 4000000
namespace Rg
open PySem PySem.Spec PyProof.Rows L2
section
variable {G : Gx} {X : Cx} {a b c e : Expr} {es : List Expr} {pos p : Pos} {pa pb pc : PEt} {pl : PAt} {x : Str}
def intsO : List DV → Option (List Int)
  | [] => some []
  | .int i :: ds => (intsO ds).map fun is => i :: is
  | _ => none
theorem rvA_intsO {K : PySem.W.Frag} {D : Hp} : ∀ {vs : List V} {ds : List DV} {is : List Int}, RvA K D vs ds → intsO ds = some is → vs = is.map V.int
  | _, _, _, .nil, e => by
    cases e
    rfl
  | _, _, _, .cons (d := d) a b, e => by
    cases d with
    | int i =>
      obtain ⟨js, e1, e2⟩ := Option.map_eq_some_iff.mp (show (intsO _).map _ = some _ from e)
      subst e2
      rw [rv_int a, rvA_intsO b e1]
      rfl
    | _ => cases e
def oSum : ON := fun ds Q => match ds with
  | [.node .lst xs] => match intsO xs with | some is => Q (.int is.sum) | none => False
  | _ => False
theorem c_sum (hc : X.calm = true) (hK : X.K = G.K := by rfl) : CallD G X (.builtin "sum") oSum := by
  refine ⟨_, cr_sumK G.K hc hK, fun F D σ H ρ vs ds Q k rel ra ho cont => ?_⟩
  unfold oSum at ho
  split at ho
  · split at ho
    · next bs e =>
      obtain ⟨v, rfl, r⟩ := rvA1 ra
      obtain ⟨p, vs, rfl, h1, h2⟩ := rv_lst r
      rw [rvA_intsO h2 e] at h1
      exact ⟨p, bs, rfl, SqL.of (rel.same _ _ h1), cont _ _ D H (Same.refl D) rel (.int _) ho⟩
    · exact ho.elim
  · exact ho.elim
def pLPut (i : Nat) (pk pv : PEt) : PSt := fun E ρ => pv ρ (fun d ρ1 => match ρ1.sl[i]? with
  | some (some (.lst _)) => pk ρ1 (fun y ρ2 => match ρ2.sl[i]?, y with
    | some (some (.lst ds)), .int j => ∃ m, ixN ds.length j = some m ∧ E.nx { ρ2 with sl := ρ2.sl.set i (some (.lst (ds.set m d))) }
    | _, _ => False) E.rs
  | _ => False) E.rs
theorem s_lput {i : Nat} {y : Str} {px pos' : Pos} {k v : Expr} {pk pv : PEt} (h : PE X (.Name y px) (tVar i)) (hk : DE G X k pk) (hv : DE G X v pv) (hs : swapsWithSole [.Subscript (.Name y px) k pos'] v pos.line X.env = pure false := by rfl) (hw : swappedStores [.Subscript (.Name y px) k pos'] v X.env = pure none := by rfl)
    (h1 : (assignEach [.Subscript (.Name y px) k pos'] X.env).map (·.2) = [assign (.Subscript (.Name y px) k pos') X.env] := by rfl)
    (ha : ∀ v, assign (.Subscript (.Name y px) k pos') X.env v = (do
      let ov ← holding [v] (eval (.Name y px) X.env)
      let iv ← holding [v, ov] (eval k X.env)
      standAt pos'
      holding [v, ov, iv] (setItem ov iv v)
      release [v, ov, iv] []) := by intro _; rfl) :
    DS G X (.Assign [.Subscript (.Name y px) k pos'] v pos) (pLPut i pk pv) :=
  DS.of (ps_asg hv.run (pg_sub h hk.run set_list ha) hs hw h1) fun D σ H ρ Ep E rel hp ok hx => by
    refine simE_l [] D σ H ρ _ Ep.rs _ rel hp hx fun d ρ1 D1 u H1 e1 r1 q1 hp1 => ?_
    split at hp1
    · next ds0 e0 =>
      obtain ⟨q, h1, _, _⟩ := r1.own e0 (fun d z => nomatch z)
      refine ⟨_, h1, simE_l [] D1 σ H1 ρ1 _ Ep.rs _ r1 hp1 hx fun y ρ2 D2 w H2 e2 r2 q2 hp2 => ?_⟩
      split at hp2
      · next ds j es =>
        obtain ⟨m, em, hp2⟩ := hp2
        obtain ⟨q', h3, ⟨ps, h4, h5⟩, wr⟩ := r2.own es (fun d z => nomatch z)
        rw [h1] at h3
        cases h3
        exact ⟨q, ps, j, m, rfl, rv_int q2, h4, by rw [rvA_len h5]; exact em, ok.nx D2 _ _ _ (e1.trans e2) (wr _ (.lst (ds.set m d)) ⟨_, upd_same, rvA_set (rv_mono e2 q1) m h5⟩ (fun d z => nomatch z)) hp2⟩
      · exact hp2.elim
    · exact hp1.elim
theorem f_rep (ha : DE G X a pa) (hb : DE G X b pb) : DF G X (.BinOp a .Mult b pos) (fun ρ Q R => pa ρ (fun x ρ1 => pb ρ1 (fun y ρ2 => match x, y with
    | .node .lst xs, .int k => -(2 ^ 63) ≤ k ∧ k < 2 ^ 63 ∧ xs.length * k.toNat ≤ sizeLine ∧ Q (List.replicate k.toNat xs).flatten ρ2
    | _, _ => False) R) R) := by
  refine DF.of (pe_op op_rep ha.run hb.run) fun F D σ H ρ Q R k rel hp hx cont => ?_
  refine simE_l F D σ H ρ _ R _ rel hp hx fun x ρ1 D1 v H1 e1 r1 q1 hp1 => ?_
  refine simE_l F D1 σ H1 ρ1 _ R _ r1 hp1 hx fun y ρ2 D2 w H2 e2 r2 q2 hp2 => ?_
  split at hp2
  · next xs k =>
    obtain ⟨p, vs, rfl, h1, h2⟩ := rv_lst (rv_mono e2 q1)
    refine ⟨p, k, vs, rfl, rv_int q2, r2.same _ _ h1, hp2.1, hp2.2.1, by rw [rvA_len h2]; exact hp2.2.2.1, fun l hl => ?_⟩
    exact cont _ _ D2 _ _ l (e1.trans e2) (r2.push hl) (r2.fresh hl) (rvA_rep h2 _) hp2.2.2.2
  · exact hp2.elim
end
structure CmX (P : Program) (w : World) (K : PySem.W.Frag) (mg : Str → Option Value) (base : Heap) (CX : CXT) (k : Nat) (C : Addr) (m : Str) (sp : Sp) : Prop where
  ex : ∃ (q g : Addr), ClX.CRead K C (.type "type") ∧ ClX.CMet K C (.type "type") m q g ∧ FnR P w K mg base CX k g sp
theorem cread_of' {K : PySem.W.Frag} {C : Addr} (h : PySem.W.readsIn K C (.type "type") = true) : ClX.CRead K C (.type "type") := by
  refine ⟨h, ?_⟩
  unfold PySem.W.readsIn at h
  obtain ⟨h, _⟩ := Bool.and_eq_true_iff.mp h
  obtain ⟨h, _⟩ := Bool.and_eq_true_iff.mp h
  obtain ⟨h, h3⟩ := Bool.and_eq_true_iff.mp h
  obtain ⟨_, h2⟩ := Bool.and_eq_true_iff.mp h
  unfold PySem.W.specialIn
  rw [beq_iff_eq.mp h2, Option.bind_some]
  exact beq_iff_eq.mp h3
theorem cmX_of {P : Program} {w : World} {K : PySem.W.Frag} {mg : Str → Option Value} {base : Heap} {CX : CXT} {k : Nat} {C : Addr} {m : Str} {sp : Sp} {fd : FuncData} {ps : List Str} (h : cmB K C m = true) (F : FnOk P w K mg base CX k (He5.wf K C "classmethod" m) fd ps sp) (b : Binds K fd ps []) : CmX P w K mg base CX k C m sp := by
  obtain ⟨h1, h⟩ := Bool.and_eq_true_iff.mp h
  obtain ⟨h2, h3⟩ := Bool.and_eq_true_iff.mp h
  exact ⟨_, _, cread_of' h1, He5.cmet_of h2 h3, (FnOk.raw F b .nil).imp fun vs H Q E z => by rw [List.append_nil]; exact z⟩
section
variable {G : Gx} {X : Cx} {a b c e o : Expr} {es : List Expr} {pos p apos : Pos} {pa pb pc : PEt} {pl : PAt} {x : Str}
def pCMeth (C : Addr) (Fn : List DV → Nat → (DV → Nat → Prop) → PR → Prop) (pa : PEt) (pl : PAt) : PEt := fun ρ Q R => pa ρ (fun d ρ1 => d = .raw (.ref C) ∧ pl ρ1 (fun ds ρ2 => Fn (d :: ds) ρ2.ink (fun z n => Q z { ρ2 with ink := n }) R) R) R
theorem d_cmeth {CX : CXT} {k j : Nat} {Fn : PFn} {C : Addr} {m : Str} {pl' : Sem Bool} (ho : DE G X o pa) (c : CmX X.prog X.w X.K X.mg X.base CX k C m (spP G.K Fn)) (hr : Room j X.A) (hk : k ≤ j) (hx : Passes CX X G.E) (ha : DA G X (e :: es) pl)
    (hst : starEach (e :: es) X.env = (false, eval e X.env) :: starEach es X.env := by rfl) (hpl : (backTo pos (starEach es X.env)).any (·.1) = false := by rfl)
    (ht : eval (.Call (.Attribute o m apos) (e :: es) [] pos) X.env = (do
      let ov ← eval o X.env
      standAt apos.atName
      let (f, first) ← holding [ov] (getMethod ov m pl')
      callWith pos f first (backTo pos (starEach (e :: es) X.env)) (backToKw pos (keywordEach [] X.env))) := by rfl) :
    DE G X (.Call (.Attribute o m apos) (e :: es) [] pos) (pCMeth C (Fn G.pn) pa pl) := by
  obtain ⟨q, g, r, cm, F⟩ := c.ex
  refine DE.of (ClX.pe_cmeth (pl := pl') ho.run r cm F (hr.mono hk) hx ha.run hst hpl ht) fun F D σ H ρ Q R k rel hp hx cont => ?_
  refine simE_l F D σ H ρ _ R _ rel hp hx fun d ρ1 D1 v H1 e1 r1 q1 hp1 => ?_
  obtain ⟨rfl, hp1⟩ := hp1
  refine ⟨rv_raw q1, simA_l F D1 σ H1 ρ1 _ R _ r1 hp1 hx fun ds ρ2 D2 vs H2 e2 r2 q2 hp2 => ?_⟩
  exact sp_of r2 (.cons (.raw _) q2) hp2 hx fun d ρ' D' v H' s r q h => cont d ρ' D' v H' ((e1.trans e2).trans s) r q h
def tMakeL (i : Nat) (C : Addr) (sp : Sp) (E : XK) (t : TA) : TE := fun σ H Q => σ[i]? = some (some (.ref C)) ∧ tMake C sp [] E t σ H Q
theorem pe_makeL {CX : CXT} {k j i : Nat} {C : Addr} {sp : Sp} {E : XK} {x0 : Str} {t : TA} (c : MkX X.prog X.w X.K X.mg X.base CX k x0 C sp) (hr : Room j X.A) (hk : k + 1 ≤ j) (hN : X.N[i]? = some x) (hv : Vis X.env.scope x) (hx : Passes CX X E) (ha : PA X (e :: es) t)
    (hdb : (x == ("__debug__" : Str)) = false := by decide) (hcd : (x == ("__classdict__" : Str)) = false := by decide)
    (he : starEach (e :: es) X.env = (false, eval e X.env) :: starEach es X.env := by rfl) (hpl : (backTo pos (starEach es X.env)).any (·.1) = false := by rfl) : PE X (.Call (.Name x p) (e :: es) [] pos) (tMakeL i C sp E t) := by
  obtain ⟨f, fd, ps, M, F, hm, b⟩ := c.ex
  refine ⟨fun pins s σ H Q I h => ?_⟩
  obtain ⟨hs, ht⟩ := h
  refine wpAny_Call_Name_kw (thn ((pe_var (pos := p) hN hv hdb hcd).run pins s σ H (fun v H1 => v = .ref C ∧ H1 = H) I ⟨.ref C, hs, rfl, rfl⟩) fun u s1 ⟨v, H1, I1, r1, q1⟩ => ?_)
  obtain ⟨rfl, rfl⟩ := q1
  cases r1
  refine PySem.W.callWith_K (h₀ := X.base) I.ok.mod.kin M.kp (thn (ha.run pos pins s1 σ _ _ I1 ht) fun us s2 ⟨vs, H2, I2, r, q⟩ => ⟨I2.kIn, ?_⟩) he hpl
  exact StX.run_makeR M ((FnOk.raw F b .nil)) (hr.mono hk) hx I2 r q
theorem sim_make {C : Str} {fs : List Str} {Fn : NFn} {t : TA} (st : SimA G t pl) : SimE G (tMake (He.ga G.K C) (spNew G.K C fs Fn) [] G.E t) (pMake C fs (Fn G.pn) pl) := by
  intro F D σ H ρ Q R k rel hp hx cont
  refine st F D σ H ρ _ R _ rel hp hx fun ds ρ1 D1 vs H1 e1 r1 q1 hp1 => ?_
  intro x dx hx0 hd ne
  have x1 : (upd H1 dx (.own x)) x = none := by rw [upd_ne (Ne.symm ne)]; exact hx0
  have t1 : Step NoW D1 H1 D1 (upd (upd H1 dx (.own x)) x (.ins (He.ga G.K C) dx [])) := (Step.tmp r1.same hd).trans (Step.tmp (Step.tmp (W := NoW) r1.same hd).dh x1)
  have rN : Rel G F D1 σ (upd (upd H1 dx (.own x)) x (.ins (He.ga G.K C) dx [])) ρ1 := r1.stepN t1.t
  have penx : ∀ p, G.pn = some p → p ≠ x := fun p hp e => by
    have := r1.ph p hp
    exact this (r1.st.free (e ▸ hx0))
  refine ⟨D1, G.pn, x, dx, vs, ds, ρ1.ink, _, R, by rw [List.append_nil], rN.same, fun p hp => ⟨fun h => r1.ph p hp (rN.st.free h), penx p hp⟩, r1.same.free hx0, upd_same, q1, rN.pen, hp1, ?_, exX_from hx r1.st hx0 hd ne r1.same⟩
  intro D' H' dxe zs es' n' st d1 h1 hl rv pk hq
  refine ⟨rfl, ?_⟩
  have st2 : StepT G.K (Wx G.pn x) D1 H1 D' H' := (t1.any (W := Wx G.pn x)).t.trans st
  have st3 : StepT G.K (Wn G.pn) D1 H1 D' H' := st2.fresh fun b z => z.elim (fun e' => .inr (by rw [e']; exact hx0)) .inl
  have sD : Same D' (upd D' x (.ins (He.ga G.K C) dxe (fs.zip zs))) := same_new d1
  have st4 : StepT G.K (Wn G.pn) D1 H1 (upd D' x (.ins (He.ga G.K C) dxe (fs.zip zs))) H' := st3.settle hx0 h1 d1
  have pk2 : PenOk G.K (upd D' x (.ins (He.ga G.K C) dxe (fs.zip zs))) H' G.pn n' := fun p hp => by
    obtain ⟨o, q, ns, t, g, e1, e2, e3, e4⟩ := pk p hp
    exact ⟨by rw [upd_ne (penx p hp)]; exact o, q, ns, t, g, e1, sD.seq e2, e3, e4⟩
  exact cont _ _ _ _ H' (e1.trans (st3.dd.trans sD)) (r1.step st4 pk2) (.ins upd_same hl (rvA_mono sD rv)) hq
def pMakeL (i : Nat) (C0 : Addr) (C : Str) (fs : List Str) (Fn : List DV → Nat → (List DV → Nat → Prop) → PR → Prop) (pl : PAt) : PEt := fun ρ Q R => (match ρ.sl[i]? with
  | some (some (.val (.raw (.ref b)))) => b = C0
  | _ => False) ∧ pMake C fs Fn pl ρ Q R
theorem d_makeL {CX : CXT} {k j i : Nat} {C : Str} {fs : List Str} {Fn : NFn} {x0 : Str} (c : MkX X.prog X.w X.K X.mg X.base CX k x0 (He.ga G.K C) (spNew G.K C fs Fn)) (hr : Room j X.A) (hk : k + 1 ≤ j) (hN : X.N[i]? = some x) (hv : Vis X.env.scope x) (hx : Passes CX X G.E) (ha : DA G X (e :: es) pl)
    (hdb : (x == ("__debug__" : Str)) = false := by decide) (hcd : (x == ("__classdict__" : Str)) = false := by decide)
    (he : starEach (e :: es) X.env = (false, eval e X.env) :: starEach es X.env := by rfl) (hpl : (backTo pos (starEach es X.env)).any (·.1) = false := by rfl) :
    DE G X (.Call (.Name x p) (e :: es) [] pos) (pMakeL i (He.ga G.K C) C fs (Fn G.pn) pl) := by
  refine DE.of (pe_makeL (i := i) c hr hk hN hv hx ha.run hdb hcd he hpl) fun F D σ H ρ Q R k rel hp hx cont => ?_
  obtain ⟨h1, h2⟩ := hp
  refine ⟨?_, sim_make simA_l F D σ H ρ Q R k rel h2 hx cont⟩
  split at h1
  · next b e0 =>
    obtain ⟨v, h3, h4⟩ := rel.get e0
    rw [rv_raw h4, h1] at h3
    exact h3
  · exact h1.elim
end
end Rg

set_option Elab.async false
set_option linter.all false
set_option maxRecDepth 100000
set_option maxHeartbeats 4000000

set_option Elab.async false
set_option linter.all false
set_option maxRecDepth 100000
set_option maxHeartbeats 4000000
namespace Rg
open PySem PySem.Spec PyProof.Rows L2
def kyP : Key → PyData
  | .inl i => .int i
  | .inr x => .str x
mutual
def toPyD : DV → Option PyData
  | .non => some .none
  | .bl b => some (.bool b)
  | .int i => some (.int i)
  | .str x => some (.str x)
  | .raw _ => none
  | .node .lst xs => (toPyDA xs).map PyData.list
  | .node .tup xs => (toPyDA xs).map PyData.tuple
  | .node (.ins _ _) _ => none
  | .node (.exc _ _) _ => none
  | .node (.dct ks) xs => (toPyDA xs).map fun ps => PyData.dict ((ks.map kyP).zip ps)
def toPyDA : List DV → Option (List PyData)
  | [] => some []
  | d :: ds => (toPyD d).bind fun p => (toPyDA ds).map fun ps => p :: ps
end
theorem toPyDA_len : ∀ {ds : List DV} {ps : List PyData}, toPyDA ds = some ps → ps.length = ds.length
  | [], _, e => by
    rw [toPyDA] at e
    cases e
    rfl
  | d :: ds, _, e => by
    rw [toPyDA] at e
    obtain ⟨q, h1, h2⟩ := Option.bind_eq_some_iff.mp e
    obtain ⟨qs, h3, rfl⟩ := Option.map_eq_some_iff.mp h2
    rw [List.length_cons, List.length_cons, toPyDA_len h3]
/-- the dict of the modules stands in K -/
theorem sysB_ok {K : PySem.W.Frag} {h : Heap} (e : sysB K = true) (X : K.In h) : ∃ o, h.get? sysModules = some o ∧ o.cls = .type "dict" := by
  unfold sysB at e
  cases q : K.lookup sysModules with
  | none =>
    rw [q] at e
    cases e
  | some o =>
    obtain ⟨oc, od, dt, sl⟩ := o
    rw [q] at e
    cases oc with
    | type c =>
      cases dt with
      | dict es n =>
        have e2 : c = "dict" := of_decide_eq_true e
        exact ⟨_, X _ _ q, by rw [e2]⟩
      | _ => cases e
    | _ => cases dt <;> cases e
theorem keys_read {h : Heap} {P : Program} {w : World} : ∀ {es : List DictEntry} {kvs : List (Key × Value)} {ks : List Key}, Pairs (mixKind P w) es kvs → kvs.map (·.1) = ks → ReadsAll h (es.map (·.key)) (ks.map kyP) []
  | _, _, _, .nil, e => by
    subst e
    exact .nil
  | _, _, _, .cons (e := e) (kv := kv) h1 _ h3, e0 => by
    subst e0
    have r := keys_read (h := h) h3 rfl
    rcases keyIs_shape (k := kv.1) (v := e.key) h1 with ⟨i, t, a, b⟩ | ⟨x, t, a, b⟩
    · rw [List.map_cons, List.map_cons, List.map_cons, b, a]
      exact ReadsAll.cons (Reads.int i t) r
    · rw [List.map_cons, List.map_cons, List.map_cons, b, a]
      exact ReadsAll.cons (Reads.str x t) r
theorem vals_pairs {P : Program} {w : World} : ∀ {es : List DictEntry} {kvs : List (Key × Value)} {ks : List Key} {vs : List V}, Pairs (mixKind P w) es kvs → KV (ks.zip vs) kvs → ks.length = vs.length → kvs.map (·.1) = ks ∧ Vals vs (es.map (·.val))
  | _, _, [], [], .nil, _, _ => ⟨rfl, .nil⟩
  | _, _, k :: ks, v :: vs, .cons h1 h2 h3, .cons a b, l => by
    obtain ⟨r1, r2⟩ := vals_pairs h3 b (by simpa using l)
    refine ⟨by rw [List.map_cons, r1, ← a.1], ?_⟩
    rw [List.map_cons, h2]
    exact .cons a.2 r2
  | _, _, [], _ :: _, _, _, l => by cases l
  | _, _, _ :: _, [], _, _, l => by cases l
  | _, _, k :: ks, v :: vs, .nil, h, _ => by cases h
  | _, _, [], [], .cons _ _ _, h, _ => by cases h
section
variable {X : Cx} {pins : List (Addr × Obj)} {σ : L2.St} {H D : Hp} {s : Shared}
theorem rv_reads (I : Inv X pins σ H s) (hs : sysB X.K = true) (sd : Same D H) {v : V} {d : DV} (h : Rv X.K D v d) : ∀ p u, toPyD d = some p → RelV v u → ∃ as, Reads s.heap u p as ∧ sysModules ∉ as := by
  obtain ⟨o0, ho0, hc0⟩ := sysB_ok hs I.kIn
  refine Rv.rec (motive_1 := fun v d _ => ∀ p u, toPyD d = some p → RelV v u → ∃ as, Reads s.heap u p as ∧ sysModules ∉ as) (motive_2 := fun vs ds _ => ∀ ps us, toPyDA ds = some ps → Vals vs us → ∃ as, ReadsAll s.heap us ps as ∧ sysModules ∉ as)
    ?_ ?_ ?_ ?_ ?_ ?_ ?_ ?_ ?_ ?_ ?_ ?_ h
  · intro p u e r
    rw [toPyD] at e
    cases e
    cases r
    exact ⟨_, Reads.none, by simp⟩
  · intro b p u e r
    rw [toPyD] at e
    cases e
    cases r
    exact ⟨_, Reads.bool b, by simp⟩
  · intro b p u e r
    rw [toPyD] at e
    cases e
    obtain ⟨t, rfl⟩ := r
    exact ⟨_, Reads.int b t, by simp⟩
  · intro b p u e r
    rw [toPyD] at e
    cases e
    obtain ⟨t, rfl⟩ := r
    exact ⟨_, Reads.str b t, by simp⟩
  · intro v p u e r
    rw [toPyD] at e
    cases e
  · intro a vs ds hD _ ih p u e r
    rw [toPyD] at e
    obtain ⟨ps, h1, rfl⟩ := Option.map_eq_some_iff.mp e
    cases r
    obtain ⟨its, rv, ⟨o, n, ho, hc, _, hd⟩, _⟩ := I.list (SqL.of (sd _ _ hD))
    obtain ⟨as, hr, na⟩ := ih ps its h1 rv
    refine ⟨_, Reads.list ho hc hd hr, fun z => ?_⟩
    rcases List.mem_cons.mp z with z | z
    · rw [← z, ho0] at ho
      cases ho
      rw [hc0] at hc
      injection hc with hc
      exact absurd hc (by decide)
    · exact na z
  · intro a vs ds hD _ ih p u e r
    rw [toPyD] at e
    obtain ⟨ps, h1, rfl⟩ := Option.map_eq_some_iff.mp e
    cases r
    obtain ⟨its, rv, ⟨o, ho, hc, n, hd⟩, _⟩ := I.tuple (SqT.of (sd _ _ hD))
    obtain ⟨as, hr, na⟩ := ih ps its h1 rv
    exact ⟨_, Reads.tuple ho hc hd hr, na⟩
  · intro a dx C fs vs ds _ _ _ _ p u e r
    rw [toPyD] at e
    cases e
  · intro a d C fs ps ds _ _ _ _ _ p u e r
    rw [toPyD] at e
    cases e
  · intro a ks vs ds hD hl rv ih p u e r
    rw [toPyD] at e
    obtain ⟨ps, h1, rfl⟩ := Option.map_eq_some_iff.mp e
    cases r
    obtain ⟨_, ne, ws, kv, o, es, ep, ho, ex, hd, _, pr, _⟩ := I.hok _ _ (sd _ _ hD)
    obtain ⟨k1, k2⟩ := vals_pairs pr kv hl
    obtain ⟨as, hr, na⟩ := ih ps _ h1 k2
    have lp := toPyDA_len h1
    have lv := rvA_len rv
    have l2 : (ks.map kyP).length = ps.length := by rw [List.length_map, hl, lp, lv]
    have rk := keys_read (h := s.heap) (P := X.prog) (w := X.w) pr k1
    have e1 : ((ks.map kyP).zip ps).map (·.1) = ks.map kyP := List.map_fst_zip (by omega)
    have e2 : ((ks.map kyP).zip ps).map (·.2) = ps := List.map_snd_zip (by omega)
    refine ⟨_, Reads.dict ho ex.1 hd (by rw [e1]; exact rk) (by rw [e2]; exact hr), fun z => ?_⟩
    rcases List.mem_append.mp z with z | z
    · rcases List.mem_cons.mp z with z | z
      · rw [← z] at ne
        simp at ne
      · cases z
    · exact na z
  · intro ps us e r
    rw [toPyDA] at e
    cases e
    cases r
    exact ⟨_, ReadsAll.nil, by simp⟩
  · intro v vs d ds _ _ i j ps us e r
    rw [toPyDA] at e
    obtain ⟨q, h1, h2⟩ := Option.bind_eq_some_iff.mp e
    obtain ⟨qs, h3, rfl⟩ := Option.map_eq_some_iff.mp h2
    cases r with
    | cons r1 r2 =>
      obtain ⟨as, q1, n1⟩ := i q _ h1 r1
      obtain ⟨bs, q2, n2⟩ := j qs _ h3 r2
      exact ⟨_, ReadsAll.cons q1 q2, fun z => (List.mem_append.mp z).elim n1 n2⟩
end
structure SmD (n c : Nat) (d : PyData) : Prop where
  dp : d.depth ≤ n
  sh : d.showable = true
  ln : d.shown.length ≤ c
theorem Sm.d {n c : Nat} {d : PyData} (h : Sm n c d) : SmD n c d := ⟨h.dp, h.sh, h.ln⟩
theorem SmD.mono {n c n' c' : Nat} {d : PyData} (h : SmD n c d) (hn : n ≤ n') (hc : c ≤ c') : SmD n' c' d := ⟨Nat.le_trans h.dp hn, h.sh, Nat.le_trans h.ln hc⟩
theorem smD_all {n c : Nat} : ∀ {ds : List PyData}, (∀ d ∈ ds, SmD n c d) → PyData.depthAll ds ≤ n ∧ PyData.showableAll ds = true ∧ piled (PyData.shownAll ds) ≤ ds.length * (c + 2)
  | [], _ => ⟨Nat.zero_le _, rfl, Nat.zero_le _⟩
  | d :: r, h => by
    obtain ⟨h1, h2, h4⟩ := h d List.mem_cons_self
    obtain ⟨i1, i2, i4⟩ := smD_all (ds := r) fun x hx => h x (List.mem_cons_of_mem _ hx)
    refine ⟨Nat.max_le.mpr ⟨h1, i1⟩, ?_, ?_⟩
    · show (PyData.showable d && PyData.showableAll r) = true
      rw [h2, i2] <;> rfl
    · show piled (PyData.shown d :: PyData.shownAll r) ≤ _
      rw [piled_cons, List.length_cons, Nat.add_mul]
      omega
theorem smD_list {n c : Nat} {ds : List PyData} (h : ∀ d ∈ ds, SmD n c d) : SmD (n + 1) (ds.length * (c + 2) + 3) (.list ds) := by
  obtain ⟨i1, i2, i4⟩ := smD_all h
  refine ⟨?_, i2, ?_⟩
  · show PyData.depthAll ds + 1 ≤ n + 1
    omega
  · have e := listText_le (PyData.shownAll ds)
    simp only [PyData.shown]
    omega
def rReprD (K : PySem.W.Frag) : List V → Hp → VK → Prop := fun xs H Q => ∃ (v : V) (D : Hp) (d : DV) (p : PyData), xs = [v] ∧ Same D H ∧ Rv K D v d ∧ toPyD d = some p ∧ SmD 60 10000000 p ∧ Q (.str p.shown) H
theorem call_reprDD {X : Cx} (K : PySem.W.Frag) (hs : sysB K = true) (hg : X.A.guards = some []) (hu : X.A.units + 64 < cLine) (hK : X.K = K := by rfl) : CallR X (.builtin "repr") (rReprD K) := by
  subst hK
  intro pins s σ H xs us Q I r h
  obtain ⟨v, D, d, p, rfl, sd, rv, tp, sm, q⟩ := h
  cases r with
  | cons r1 r2 =>
    cases r2
    rename_i u
    obtain ⟨as, rd, na⟩ := rv_reads I hs sd rv p u tp r1
    have hsz : p.shown.length ≤ sizeLine := Nat.le_trans sm.ln (by decide)
    have hdp := sm.dp
    have fin : ∀ {h' : Heap} {t tk : Tok}, (∀ b o, s.heap.get? b = some o → h'.get? b = some o) → EP X pins σ Q (.str p.shown t) { s with heap := h', toks := tk } := fun {h' t tk} hk => ⟨.str p.shown, H, I.kept (t' := tk) hk, ⟨t, rfl⟩, q⟩
    cases rd with
    | none => exact PySem.P.repr_of_none (fin (h' := s.heap) fun _ _ e => e)
    | bool b => exact PySem.P.repr_of_bool (fin (h' := s.heap) fun _ _ e => e)
    | int i t => exact PySem.P.repr_of_int (by simpa [PyData.showable] using sm.sh) (fin (h' := s.heap) fun _ _ e => e)
    | str x t => exact PySem.P.repr_of_str (fin (h' := s.heap) fun _ _ e => e) hsz
    | list h1 h2 h3 h4 => exact repr_of_reads' (Reads.list h1 h2 h3 h4) sm.sh (fun _ => na) hg (by omega) (fun _ _ e => e) (fun h' t tk hk => fin hk) hsz
    | tuple h1 h2 h3 h4 => exact repr_of_reads' (Reads.tuple h1 h2 h3 h4) sm.sh (fun _ => na) hg (by omega) (fun _ _ e => e) (fun h' t tk hk => fin hk) hsz
    | dict h1 h2 h3 h4 h5 => exact repr_of_reads' (Reads.dict h1 h2 h3 h4 h5) sm.sh (fun _ => na) hg (by omega) (fun _ _ e => e) (fun h' t tk hk => fin hk) hsz
def oReprD : ON := fun ds Q => match ds with
  | [d] => ∃ p, toPyD d = some p ∧ SmD 60 10000000 p ∧ Q (.str p.shown)
  | _ => False
theorem c_reprD {G : Gx} {X : Cx} (hs : sysB G.K = true) (hg : X.A.guards = some []) (hu : X.A.units + 64 < cLine) (hK : X.K = G.K := by rfl) : CallD G X (.builtin "repr") oReprD := by
  refine ⟨_, call_reprDD G.K hs hg hu hK, fun F D σ H ρ vs ds Q k rel ra ho cont => ?_⟩
  unfold oReprD at ho
  split at ho
  · next d =>
    obtain ⟨v, rfl, r⟩ := rvA1 ra
    obtain ⟨p, h1, h2, h3⟩ := ho
    exact ⟨v, D, d, p, rfl, rel.same, r, h1, h2, cont _ _ D H (Same.refl D) rel (.str _) h3⟩
  · exact ho.elim
section
variable {P : Program} {w : World} {K : PySem.W.Frag} {mg : Str → Option Value} {base : Heap} {CX : CXT} {k : Nat} {f : Addr} {fd : FuncData} {ps : List Str} {sp sp' : Sp}
/-- one that raises nothing, where others may raise -/
theorem FnOk.up (F : FnOk P w K mg base CX0 k f fd ps sp) : FnOk P w K mg base CX k f fd ps sp :=
  ⟨F.len, fun A outer s H args us vs Q E hr he hb hv hs => codeAny_mono (F.run A outer s H args us vs Q E hr he hb hv hs) fun r s' hq => by
    cases r with
    | error e => exact False.elim hq
    | ok fl => cases fl <;> exact hq⟩
theorem FnOk.or (F : FnOk P w K mg base CX k f fd ps sp) (F' : FnOk P w K mg base CX k f fd ps sp') : FnOk P w K mg base CX k f fd ps (fun vs H Q E => sp vs H Q E ∨ sp' vs H Q E) :=
  ⟨fun vs H Q E h => h.elim (F.len _ _ _ _) (F'.len _ _ _ _), fun A outer s H args us vs Q E hr he hb hv hs => hs.elim (fun h => F.run A outer s H args us vs Q E hr he hb hv h) fun h => F'.run A outer s H args us vs Q E hr he hb hv h⟩
end
end Rg

set_option Elab.async false
set_option linter.all false
set_option maxRecDepth 100000
set_option maxHeartbeats 4000000
namespace Rg
open PySem PySem.Spec PyProof.Rows L2
abbrev dctD (kvs : List (Key × DV)) : DV := .node (.dct (kvs.map (·.1))) (kvs.map (·.2))
theorem rvP_split {K : PySem.W.Frag} {D : Hp} : ∀ {ps : List (Key × V)} {qs : List (Key × DV)}, RvP K D ps qs → ps = (qs.map (·.1)).zip (ps.map (·.2)) ∧ RvA K D (ps.map (·.2)) (qs.map (·.2))
  | _, _, .nil => ⟨rfl, .nil⟩
  | p :: ps, q :: qs, .cons a b => by
    obtain ⟨e, r⟩ := rvP_split b
    refine ⟨?_, .cons a.2 r⟩
    show p :: ps = (q.1, p.2) :: (qs.map (·.1)).zip (ps.map (·.2))
    rw [← e, ← a.1]
theorem rv_dctOf {K : PySem.W.Frag} {D : Hp} {a : Addr} {ps : List (Key × V)} {qs : List (Key × DV)} (h : D a = some (.dK ps)) (r : RvP K D ps qs) : Rv K D (.ref a) (dctD qs) := by
  obtain ⟨e, r2⟩ := rvP_split r
  refine .dct (vs := ps.map (·.2)) (by rw [← e]; exact h) ?_ r2
  rw [List.length_map, List.length_map, rvP_len r]
section
variable {G : Gx} {X : Cx} {a b c e : Expr} {es : List Expr} {pos p : Pos} {pa pb pc : PEt} {pl : PAt} {x : Str}
def oList : ON := fun ds Q => match ds with
  | [.node .lst xs] => Q (.lst xs)
  | [.node .tup xs] => Q (.lst xs)
  | [.str z] => z.length ≤ sizeLine ∧ Q (.lst (signsD z))
  | _ => False
theorem rvA_signs {K : PySem.W.Frag} {D : Hp} : ∀ cs : List Nat, RvA K D (cs.map fun c => V.str (sgn c)) (cs.map fun c => DV.str (sgn c))
  | [] => .nil
  | _ :: r => .cons (.str _) (rvA_signs r)
theorem c_list (hc : X.calm = true) (hK : X.K = G.K := by rfl) : CallD G X (.type "list") oList := by
  refine ⟨_, CallR.or (call_list_ofK G.K hK) (call_listS hc), fun F D σ H ρ vs ds Q k rel ra ho cont => ?_⟩
  unfold oList at ho
  split at ho
  · obtain ⟨v, rfl, r⟩ := rvA1 ra
    obtain ⟨p, vs, rfl, h1, h2⟩ := rv_lst r
    exact .inl ⟨p, vs, rfl, .inl (SqL.of (rel.same _ _ h1)), fun l hl => cont _ _ _ _ (rel.newS hl) (rel.new hl) (.lst upd_same (rvA_mono (rel.newS hl) h2)) ho⟩
  · obtain ⟨v, rfl, r⟩ := rvA1 ra
    obtain ⟨p, vs, rfl, h1, h2⟩ := rv_tup r
    exact .inl ⟨p, vs, rfl, .inr (SqT.of (rel.same _ _ h1)), fun l hl => cont _ _ _ _ (rel.newS hl) (rel.new hl) (.lst upd_same (rvA_mono (rel.newS hl) h2)) ho⟩
  · obtain ⟨v, rfl, r⟩ := rvA1 ra
    exact .inr ⟨_, by rw [rv_str r], ho.1, fun l hl => cont _ _ _ _ (rel.newS hl) (rel.new hl) (.lst upd_same (rvA_signs _)) ho.2⟩
  · exact ho.elim
def pDctV (l : List (PEt × PEt)) : PEt := fun ρ Q R => pKVs l (fun ds ρ1 => Q (dctD (mergeD ds)) ρ1) R ρ
theorem d_dlit {dpos : Pos} {ks : List (Option Expr)} {vs : List Expr} {l : List (PEt × PEt)} (h : DKV G X ks vs l) (hall : ks.all (·.isSome) = true := by rfl) (hlen : ks.length = vs.length := by rfl) (h0 : ks ≠ [] := by intro z; cases z) (h15 : ks.length ≤ 15 := by decide) :
    DE G X (.Dict ks vs dpos) (pDctV l) := by
  refine DE.of (pe_disp h.pps hall hlen h0 h15) fun F D σ H ρ Q R k rel hp hx cont => fun q hq => ?_
  have R0 := rel.push (o := .dK []) hq
  have nf := rel.fresh hq
  refine sim_kvs (F := (q, .dK []) :: F) R0 hp hx fun ds vs ρ' D' H' s r rv hlv hq2 => ?_
  refine ⟨r.top, vs, rfl, by rw [hlv, h.len]; exact h15, ?_⟩
  have R3 := (r.poke (o' := .dK (mergeK [] vs)) nf).pop nf
  exact cont _ _ _ _ _ (s.trans R3.2) R3.1 (rv_dctOf upd_same (rvP_mono R3.2 (rvP_merge rv .nil))) hq2
end
theorem mapD_at {α β : Type} {f : α → β} {l : List α} {i : Nat} {y : β} (h : (l.map f)[i]? = some y) : ∃ x, l[i]? = some x ∧ y = f x := by
  rw [List.getElem?_map] at h
  obtain ⟨x, h1, h2⟩ := Option.map_eq_some_iff.mp h
  exact ⟨x, h1, h2.symm⟩
/-- a list, item by item -/
theorem lc_xs {α : Type} {vs : List Nat} {pg : PGt} {pe : PEt} {Q : List DV → Ps → Prop} {sl : Sl} {n : Nat} (xs : List α) (g f : α → DV) (hs : xs.length ≤ 1000000) (hw : wipeP sl vs = sl)
    (turn : ∀ (x : α) (k : DV → Ps → Prop), x ∈ xs → (∀ sl', Le sl (wipeP sl' vs) → k (f x) ⟨sl', n⟩) → pg (g x) ⟨sl, n⟩ fun ρ3 => pe ρ3 k fun _ _ => False) (fin : Q (xs.map f) ⟨sl, n⟩) :
    LcIn vs pg pYes pe Q (xs.map g) ⟨sl, n⟩ := by
  refine ⟨fun i acc ρ => acc = (xs.take i).map f ∧ ρ = ⟨sl, n⟩, ⟨by simp, rfl⟩, ?_, ?_⟩
  · rintro i d acc ρ2 hd ⟨rfl, rfl⟩
    obtain ⟨x, hx, rfl⟩ := mapD_at hd
    have hi := (List.getElem?_eq_some_iff.mp hx).1
    show pg (g x) ⟨wipeP sl vs, n⟩ fun ρ3 => pe ρ3 _ fun _ _ => False
    rw [hw]
    refine turn x _ (mem_of_at hx) fun sl' le => ⟨?_, sl, n, le, Nat.le_refl _, ?_, rfl⟩
    · rw [List.length_map, List.length_take]
      exact Nat.lt_of_le_of_lt (Nat.min_le_left _ _) (Nat.lt_of_lt_of_le hi (Nat.le_trans hs (by decide)))
    · rw [take_more hx, List.map_append]
      rfl
  · rintro acc ρ2 ⟨rfl, rfl⟩
    rw [List.length_map, List.take_length]
    show Q _ ⟨wipeP sl vs, n⟩
    rw [hw]
    exact fin
/-- .. some of them -/
theorem lc_xsel {α : Type} {vs : List Nat} {pg : PGt} {pt : PTt} {pe : PEt} {Q : List DV → Ps → Prop} {sl : Sl} {n : Nat} (xs : List α) (g f : α → DV) (b : α → Bool) (hs : xs.length ≤ 1000000) (hw : wipeP sl vs = sl)
    (turn : ∀ (x : α) (k : DV → Ps → Prop) (k0 : Ps → Prop), x ∈ xs → (b x = true → ∀ sl', Le sl (wipeP sl' vs) → k (f x) ⟨sl', n⟩) → (b x = false → ∀ sl', Le sl (wipeP sl' vs) → k0 ⟨sl', n⟩) →
      pg (g x) ⟨sl, n⟩ fun ρ3 => pt ρ3 (fun t ρ4 => if t = true then pe ρ4 k fun _ _ => False else k0 ρ4) fun _ _ => False) (fin : Q ((xs.filter b).map f) ⟨sl, n⟩) :
    LcIn vs pg pt pe Q (xs.map g) ⟨sl, n⟩ := by
  refine ⟨fun i acc ρ => acc = ((xs.take i).filter b).map f ∧ ρ = ⟨sl, n⟩, ⟨by simp, rfl⟩, ?_, ?_⟩
  · rintro i d acc ρ2 hd ⟨rfl, rfl⟩
    obtain ⟨x, hx, rfl⟩ := mapD_at hd
    have hi := (List.getElem?_eq_some_iff.mp hx).1
    show pg (g x) ⟨wipeP sl vs, n⟩ fun ρ3 => pt ρ3 _ fun _ _ => False
    rw [hw]
    refine turn x _ _ (mem_of_at hx) (fun hb sl' le => ⟨?_, sl, n, le, Nat.le_refl _, ?_, rfl⟩) fun hb sl' le => ⟨sl, n, le, Nat.le_refl _, ?_, rfl⟩
    · rw [List.length_map]
      refine Nat.lt_of_le_of_lt (List.length_filter_le _ _) ?_
      rw [List.length_take]
      exact Nat.lt_of_le_of_lt (Nat.min_le_left _ _) (Nat.lt_of_lt_of_le hi (Nat.le_trans hs (by decide)))
    · rw [take_more hx, List.filter_append, List.map_append, List.filter_cons_of_pos hb]
      rfl
    · rw [take_more hx, List.filter_append, List.filter_cons_of_neg (by rw [hb]; exact Bool.false_ne_true), List.filter_nil, List.append_nil]
  · rintro acc ρ2 ⟨rfl, rfl⟩
    rw [List.length_map, List.take_length]
    show Q _ ⟨wipeP sl vs, n⟩
    rw [hw]
    exact fin
end Rg

set_option Elab.async false
set_option linter.all false
set_option maxRecDepth 100000
set_option maxHeartbeats 2000000
namespace PySem
open Sem (wp)
section
variable {M : Model} {A : Around} {R : GenEnd} {Y : Protocol} {n : Nat} {s₀ : Shared} {c : Code} {fs : List Frame} {s : Shared} {env : Env}
  {K : Flow → Sem Fin} {H : Value → Sem Fin} {gd : Bool → Bool} {lv : List Value → List Value}
end
section
variable {prog : Program} {w : World} {A : Around} {R : GenEnd} {Y : Protocol} {n : Nat} {s₀ : Shared} {fs : List Frame} {s : Shared} {env : Env}
end
end PySem

set_option Elab.async false
set_option linter.all false
set_option maxRecDepth 100000
set_option maxHeartbeats 2000000
namespace L2
open PySem PySem.Spec PyProof.Rows GenW
section
variable {X : Cx} {c iter tg : Expr} {a b body : List Stmt} {pos : Pos} {tc : TT} {t u tb : TGn} {wi : TI} {gg : TG}
theorem GC.more {S : Addr} {ip ip' : List (Addr × Obj)} {A : Around} {c : Code} {fs : List Frame} {gd : Bool → Bool} (g : GC X S ip A c fs gd) (h : ∀ p ∈ ip', p.1 ≠ S) : GC X S ip' A c fs gd := ⟨g.pn, h, g.apart, g.over, g.split, g.guard, g.gd⟩
end
end L2

set_option Elab.async false
set_option linter.all false
set_option maxRecDepth 100000
set_option maxHeartbeats 4000000
namespace Rg
open PySem PySem.Spec PyProof.Rows L2
def tStores (K : PySem.W.Frag) : List (Str × Nat) → TS
  | [] => tNext
  | (f, j) :: r => tSeq (sFld K (tVar 0) (tVar j) f) (tStores K r)
structure DSx (G : Gx) (X : Cx) (sts : List Stmt) (fjs : List (Str × Nat)) (p : PSt) : Prop where
  run : PSs X sts (fun E σ H => lS G p { E with nx := tStores G.K fjs E } σ H)
section
variable {G : Gx} {X : Cx} {st : Stmt} {sts : List Stmt} {p q : PSt} {fjs : List (Str × Nat)} {s : Str} {y f : Str} {j : Nat} {pos p1 p2 p3 : Pos}
theorem DSx.nox (h : DSx G X.nox sts fjs p) : DSx G X sts fjs p := ⟨h.run.nox⟩
theorem x_tail (h : PSs X sts (tStores G.K fjs)) : DSx G X sts fjs pNext := ⟨⟨fun pins s σ H E I ⟨D, ρ, Ep, rel, hp, ok, hx⟩ => h.run pins s σ H E I (ok.nx D σ H ρ (Same.refl D) rel hp)⟩⟩
theorem x_cons (h : DS G X st p) (h2 : DSx G X sts fjs q) : DSx G X (st :: sts) fjs (pSeq p q) := by
  refine ⟨⟨fun pins s σ H E I ⟨D, ρ, Ep, rel, hp, ok, hx⟩ => (pss_cons h.run h2.run).run pins s σ H E I ?_⟩⟩
  exact simS_l D σ H ρ { Ep with nx := q Ep } _ rel hp ⟨fun D σ H ρ sm rel h => simS_l D σ H ρ Ep _ rel h (ok.up sm) hx, ok.rt, ok.bk, ok.ct⟩ hx
theorem st_nil : PSs X [] (tStores G.K []) := pss_nil
theorem st_cons (h0 : PE X (.Name s p1) (tVar 0)) (hj : PE X (.Name y p2) (tVar j)) (h : PSs X sts (tStores G.K fjs)) (hK : X.K = G.K := by rfl) (hs : swapsWith (.Name y p2) (some (.Attribute (.Name s p1) f p3)) pos.line X.env = pure false := by rfl) :
    PSs X (.Assign [.Attribute (.Name s p1) f p3] (.Name y p2) pos :: sts) (tStores G.K ((f, j) :: fjs)) := by
  have h1 := ps_fld (f := f) (pos := pos) (pos' := p3) h0 hj hs
  rw [hK] at h1
  exact pss_cons h1 h
end
theorem putF_new {f : Str} {v : V} : ∀ {fs : List (Str × V)}, f ∉ fs.map (·.1) → putF f v fs = fs ++ [(f, v)]
  | [], _ => rfl
  | (g, x) :: r, h => by
    have h1 : ¬ g = f := fun e => h (by rw [e]; exact List.mem_cons_self)
    have h2 : f ∉ r.map (·.1) := fun e => h (List.mem_cons_of_mem _ e)
    show (if g = f then (g, v) :: r else (g, x) :: putF f v r) = _
    rw [if_neg h1, putF_new h2]
    rfl
/-- the slots' values, as they are stored -/
def SlotsV (σ : L2.St) : List (Str × Nat) → List V → Prop
  | [], [] => True
  | (_, j) :: r, u :: us => σ[j]? = some (some u) ∧ SlotsV σ r us
  | _, _ => False
def SlotsD (sl : Sl) : List (Str × Nat) → List DV → Prop
  | [], [] => True
  | (_, j) :: r, d :: ds => sl[j]? = some (some (.val d)) ∧ SlotsD sl r ds
  | _, _ => False
theorem slots_of {G : Gx} {F : List (Addr × HO)} {D : Hp} {σ : L2.St} {H : Hp} {ρ : Ps} (rel : Rel G F D σ H ρ) : ∀ {fjs : List (Str × Nat)} {ds : List DV}, SlotsD ρ.sl fjs ds → ∃ us, SlotsV σ fjs us ∧ RvA G.K D us ds
  | [], [], _ => ⟨[], True.intro, .nil⟩
  | (_, j) :: r, d :: ds, h => by
    obtain ⟨v, h1, h2⟩ := rel.get h.1
    obtain ⟨us, h3, h4⟩ := slots_of rel h.2
    exact ⟨v :: us, ⟨h1, h3⟩, .cons h2 h4⟩
  | [], _ :: _, h => h.elim
  | _ :: _, [], h => h.elim
theorem slotsD_len {sl : Sl} : ∀ {fjs : List (Str × Nat)} {ds : List DV}, SlotsD sl fjs ds → fjs.length = ds.length
  | [], [], _ => rfl
  | _ :: r, _ :: ds, h => congrArg Nat.succ (slotsD_len (fjs := r) (ds := ds) h.2)
  | [], _ :: _, h => h.elim
  | _ :: _, [], h => h.elim
theorem stores_run {K : PySem.W.Frag} {x C dx : Addr} {σ : L2.St} {E : Ends} (h0 : σ[0]? = some (some (.ref x))) (hc : Cls K C) : ∀ (fjs : List (Str × Nat)) (us : List V) (acc : List (Str × V)) (H : Hp),
    (∀ f ∈ fjs.map (·.1), NoAttr K C f) → (fjs.map (·.1)).Nodup → (∀ f ∈ fjs.map (·.1), f ∉ acc.map (·.1)) → acc.length + fjs.length < 1000 → H x = some (.ins C dx acc) → SlotsV σ fjs us →
    (∀ H', (∀ b, b ≠ x → H' b = H b) → H' x = some (.ins C dx (acc ++ (fjs.map (·.1)).zip us)) → E.nx σ H') → tStores K fjs E σ H
  | [], [], acc, H, _, _, _, _, hx, _, k => k H (fun _ _ => rfl) (by rw [hx]; show _ = some (HO.ins C dx (acc ++ [])); rw [List.append_nil])
  | (f, j) :: r, u :: us, acc, H, hn, nd, na, hl, hx, hv, k => by
    have nd' := List.nodup_cons.mp nd
    have hl' : acc.length + (r.length + 1) < 1000 := hl
    refine ⟨u, hv.1, .ref x, h0, x, C, dx, acc, rfl, hx, hc, hn f List.mem_cons_self, by omega, ?_⟩
    refine stores_run h0 hc r us (acc ++ [(f, u)]) _ (fun g hg => hn g (List.mem_cons_of_mem _ hg)) nd'.2 (fun g hg hm => ?_) (by rw [List.length_append, List.length_singleton]; omega) (by rw [upd_same, putF_new (na f List.mem_cons_self)]) hv.2 fun H' h1 h2 => ?_
    · rw [List.map_append] at hm
      rcases List.mem_append.mp hm with z | z
      · exact na g (List.mem_cons_of_mem _ hg) z
      · rw [List.map_cons, List.map_nil, List.mem_singleton] at z
        have z' : g = f := z
        exact nd'.1 (z' ▸ hg)
    · refine k H' (fun b hb => (h1 b hb).trans (upd_ne hb)) (h2.trans ?_)
      rw [List.append_assoc]
      rfl
  | [], _ :: _, _, _, _, _, _, _, _, h, _ => h.elim
  | _ :: _, [], _, _, _, _, _, _, _, h, _ => h.elim
def endsS (x : Addr) (fjs : List (Str × Nat)) (Qd : List DV → Nat → Prop) (R : PR) : PEnds := { nx := fun ρ => ρ.sl[0]? = some (some (.val (.raw (.ref x)))) ∧ ∃ zs, SlotsD ρ.sl fjs zs ∧ Qd zs ρ.ink, rt := fun _ _ => False, rs := R }
section
variable {P : Program} {w : World} {K : PySem.W.Frag} {mg : Str → Option Value} {base : Heap}
variable {CX : CXT} {x qual : Str} {params : Arguments} {body : List Stmt} {scope : Scope} {dvs : List V} {kws : List (Str × V)} {f : Addr} {fd : FuncData} {N ps : List Str} {k : Nat}
end
structure KMk (P : Program) (w : World) (K : PySem.W.Frag) (mg : Str → Option Value) (base : Heap) (CX : CXT) (k : Nat) (x : Str) (C : Addr) (n : Nat) (ks : List Str) (sp : Sp) : Prop where
  ex : ∃ (f : Addr) (fd : FuncData) (ps : List Str) (g : List Value → List Value → List Value), Mk K C f ∧ FnOk P w K mg base CX k f fd ps sp ∧ mg x = some (.ref C) ∧ KBn K fd ps (n + 1) ks g (fun vs zs => vs ++ zs)
theorem KMk.calm {P : Program} {w : World} {K : PySem.W.Frag} {mg : Str → Option Value} {base : Heap} {k n : Nat} {ks : List Str} {C : Str} {fs : List Str} {Fn : NFn} {x : Str} (c : KMk P w K mg base (L2.CX P w) k x (He.ga K C) n ks (spNew K C fs Fn)) : KMk P w K mg base CX0 k x (He.ga K C) n ks (spNew K C fs (calmN Fn)) := by
  obtain ⟨f, fd, ps, gg, M, F, g, b⟩ := c.ex
  have cs : ∀ {vs : List V} {H : Hp} {Q : VK} {E : XK}, spNew K C fs (calmN Fn) vs H Q E → spNew K C fs Fn vs H Q fun _ _ _ => False := fun {vs H Q E} h => by
    obtain ⟨D, pn, x, dx, us, ds, n, Qd, R, h1, h2, h3, h4, h5, h6, h7, h8, h9, _⟩ := h
    exact ⟨D, pn, x, dx, us, ds, n, Qd, _, h1, h2, h3, h4, h5, h6, h7, h8, h9, exX_never⟩
  refine ⟨f, fd, ps, gg, M, ⟨fun vs H Q E h => F.len _ _ _ _ (cs h), fun A outer s H args us vs Q E hr he hb hv hs => codeAny_mono (F.run A outer s H args us vs Q _ hr he hb hv (cs hs)) fun r s' hq => ?_⟩, g, b⟩
  cases r with
  | error e => exact (calm_cx hq).elim
  | ok fl => cases fl <;> exact hq
section
variable {G : Gx} {X : Cx} {a b c e fe : Expr} {es : List Expr} {kws : List Keyword} {pos p : Pos} {pa pb pc : PEt} {pl pk : PAt} {x : Str} {n : Nat} {ks : List Str}
def pMakeK (C : Str) (fs : List Str) (n m : Nat) (Fn : List DV → Nat → (List DV → Nat → Prop) → PR → Prop) (pl pk : PAt) : PEt := fun ρ Q R => pl ρ (fun ds ρ1 => pk ρ1 (fun es ρ2 => ds.length = n ∧ es.length = m ∧ Fn (ds ++ es) ρ2.ink (fun zs n => Q (.node (.ins C fs) zs) { ρ2 with ink := n }) R) R) R
theorem rvA_app2 {K : PySem.W.Frag} {D : Hp} : ∀ {vs ws : List V} {ds es : List DV}, RvA K D vs ds → RvA K D ws es → RvA K D (vs ++ ws) (ds ++ es)
  | _, _, _, _, .nil, h => h
  | _, _, _, _, .cons a t, h => .cons a (rvA_app2 t h)
theorem d_makeK {CX : CXT} {k j : Nat} {C : Str} {fs : List Str} {Fn : NFn} (c : KMk X.prog X.w X.K X.mg X.base CX k x (He.ga G.K C) n ks (spNew G.K C fs Fn)) (hr : Room j X.A) (hk : k + 1 ≤ j) (hg : Gl X x) (hx : Passes CX X G.E) (ha : DA G X (e :: es) pl) (hkw : DKw G X kws pk)
    (hall : (backToKw pos (keywordEach kws X.env)).all (·.1.isSome) = true := by rfl) (hks : (backToKw pos (keywordEach kws X.env)).filterMap (·.1) = ks := by rfl) (hdb : (x == ("__debug__" : Str)) = false := by decide)
    (he : starEach (e :: es) X.env = (false, eval e X.env) :: starEach es X.env := by rfl) (hpl : ((backTo pos (starEach (e :: es) X.env)).any (·.1) || (backToKw pos (keywordEach kws X.env)).any (·.1.isNone)) = false := by rfl) :
    DE G X (.Call (.Name x p) (e :: es) kws pos) (pMakeK C fs n ks.length (Fn G.pn) pl pk) := by
  obtain ⟨f, fd, ps, gg, M, F, hm, hb⟩ := c.ex
  refine DE.of (pe_makeK M F (hr.mono hk) hg hm hb hx ha.run hkw.run hall hks hdb he hpl) fun F D σ H ρ Q R k rel hp hx cont => ?_
  refine simA_l F D σ H ρ _ R _ rel hp hx fun ds ρ0 D0 vs H0 e0 r0 q0 hp0 => ?_
  refine simA_l F D0 σ H0 ρ0 _ R _ r0 hp0 hx fun es ρ1 D1 zs H1 e1' r1 q1' hp1 => ?_
  obtain ⟨l1, l2, hp1⟩ := hp1
  refine ⟨(rvA_len q0).trans l1, (rvA_len q1').trans l2, ?_⟩
  intro x dx hx0 hd ne
  have e1 := e0.trans e1'
  have q1 : RvA G.K D1 (vs ++ zs) (ds ++ es) := rvA_app2 (rvA_mono e1' q0) q1'
  have x1 : (upd H1 dx (.own x)) x = none := by rw [upd_ne (Ne.symm ne)]; exact hx0
  have t1 : Step NoW D1 H1 D1 (upd (upd H1 dx (.own x)) x (.ins (He.ga G.K C) dx [])) := (Step.tmp r1.same hd).trans (Step.tmp (Step.tmp (W := NoW) r1.same hd).dh x1)
  have rN : Rel G F D1 σ (upd (upd H1 dx (.own x)) x (.ins (He.ga G.K C) dx [])) ρ1 := r1.stepN t1.t
  have penx : ∀ p, G.pn = some p → p ≠ x := fun p hp e => by
    have := r1.ph p hp
    exact this (r1.st.free (e ▸ hx0))
  refine ⟨D1, G.pn, x, dx, vs ++ zs, ds ++ es, ρ1.ink, _, R, rfl, rN.same, fun p hp => ⟨fun h => r1.ph p hp (rN.st.free h), penx p hp⟩, r1.same.free hx0, upd_same, q1, rN.pen, hp1, ?_, exX_from hx r1.st hx0 hd ne r1.same⟩
  intro D' H' dxe zs es' n' st d1 h1 hl rv pk hq
  refine ⟨rfl, ?_⟩
  have st2 : StepT G.K (Wx G.pn x) D1 H1 D' H' := (t1.any (W := Wx G.pn x)).t.trans st
  have st3 : StepT G.K (Wn G.pn) D1 H1 D' H' := st2.fresh fun b z => z.elim (fun e' => .inr (by rw [e']; exact hx0)) .inl
  have sD : Same D' (upd D' x (.ins (He.ga G.K C) dxe (fs.zip zs))) := same_new d1
  have st4 : StepT G.K (Wn G.pn) D1 H1 (upd D' x (.ins (He.ga G.K C) dxe (fs.zip zs))) H' := st3.settle hx0 h1 d1
  have pk2 : PenOk G.K (upd D' x (.ins (He.ga G.K C) dxe (fs.zip zs))) H' G.pn n' := fun p hp => by
    obtain ⟨o, q, ns, t, g, e1, e2, e3, e4⟩ := pk p hp
    exact ⟨by rw [upd_ne (penx p hp)]; exact o, q, ns, t, g, e1, sD.seq e2, e3, e4⟩
  exact cont _ _ _ _ H' (e1.trans (st3.dd.trans sD)) (r1.step st4 pk2) (.ins upd_same hl (rvA_mono sD rv)) hq
structure ClO (P : Program) (w : World) (K : PySem.W.Frag) (mg : Str → Option Value) (base : Heap) (CX : CXT) (k : Nat) (C : Addr) (sp : Sp) : Prop where
  ex : ∃ (g : Addr) (fd : FuncData) (ps : List Str), StX.CallO K C g ∧ FnOk P w K mg base CX k g fd ps sp ∧ Binds K fd ps []
theorem ClO.calm {P : Program} {w : World} {K : PySem.W.Frag} {mg : Str → Option Value} {base : Heap} {k : Nat} {C : Addr} {Fn : PFn} (c : ClO P w K mg base (L2.CX P w) k C (spP K Fn)) : ClO P w K mg base CX0 k C (spP K (calmF Fn)) := by
  obtain ⟨f, fd, ps, g, F, b⟩ := c.ex
  exact ⟨f, fd, ps, g, FnOk.calm F, b⟩
end
end Rg

set_option Elab.async false
set_option linter.all false
set_option maxRecDepth 100000
set_option maxHeartbeats 4000000
namespace Rg
open PySem PySem.Spec PyProof.Rows L2
section
variable {X : Cx} {CX : CXT} {k j : Nat} {C : Addr} {sp : Sp} {E : XK} {m : Str} {pos : Pos} {ta tb : TE}
end
section
variable {G : Gx} {X : Cx} {a b : Expr} {pos : Pos} {pa pb : PEt}
end
end Rg

set_option Elab.async false
set_option linter.all false
set_option maxRecDepth 100000
set_option maxHeartbeats 4000000
namespace Rg
open PySem PySem.Spec PyProof.Rows L2
section
variable {X : Cx} {CX : CXT} {k j : Nat} {C : Addr} {sp : Sp} {m : Str} {pos : Pos} {ta tb : TE}
end
section
variable {G : Gx} {X : Cx} {a b c : Expr} {pos : Pos} {pa pb : PEt} {pt : PTt} {p q : PRt}
end
structure PGEnds where
  nx : List DV → Ps → Prop
  rs : PR
  bk : List DV → Ps → Prop := fun _ _ => False
  ct : List DV → Ps → Prop := fun _ _ => False
abbrev PGn := PGEnds → List DV → Ps → Prop
def GLk (G : Gx) (D0 : Hp) (p : List DV → Ps → Prop) (t : List V → L2.St → Hp → Prop) : Prop := ∀ D σ H ρ ys ds, Same D0 D → Rel G [] D σ H ρ → RvA G.K D ys ds → p ds ρ → t ys σ H
structure GEndsOk (G : Gx) (D0 : Hp) (Ep : PGEnds) (E : GEnds) : Prop where
  nx : GLk G D0 Ep.nx E.nx
  bk : GLk G D0 Ep.bk E.bk
  ct : GLk G D0 Ep.ct E.ct
theorem GLk.up {G : Gx} {D0 D1 : Hp} {p : List DV → Ps → Prop} {t : List V → L2.St → Hp → Prop} (h : GLk G D0 p t) (s : Same D0 D1) : GLk G D1 p t := fun D σ H ρ ys ds e => h D σ H ρ ys ds (s.trans e)
theorem GEndsOk.up {G : Gx} {D0 D1 : Hp} {Ep : PGEnds} {E : GEnds} (h : GEndsOk G D0 Ep E) (s : Same D0 D1) : GEndsOk G D1 Ep E := ⟨h.nx.up s, h.bk.up s, h.ct.up s⟩
section
variable {G : Gx} {X : Cx} {a b c e tg : Expr} {st : Stmt} {sts sts2 : List Stmt} {pos yp : Pos} {pa : PEt} {pt : PTt} {p q : PGn} {pp : PSt}
end
section
variable {P : Program} {w : World} {K : PySem.W.Frag} {mg : Str → Option Value} {base : Heap}
variable {x qual : Str} {params : Arguments} {body : List Stmt} {scope : Scope} {dvs : List V} {kws : List (Str × V)} {f : Addr} {fd : FuncData} {N ps : List Str} {k : Nat}
end
section
variable {G : Gx} {X : Cx} {a b c e o : Expr} {es : List Expr} {pos pos' p apos : Pos} {pa : PEt} {pl : PAt}
end
end Rg

set_option Elab.async false
set_option linter.all false
set_option maxRecDepth 100000
set_option maxHeartbeats 4000000
namespace Rg
open PySem PySem.Spec PyProof.Rows L2
section
variable {G : Gx} {X : Cx} {es : List Expr} {pos : Pos}
end
end Rg

set_option Elab.async false
set_option linter.all false
set_option maxRecDepth 100000
set_option maxHeartbeats 4000000
namespace Rg
open PySem PySem.Spec PyProof.Rows L2
section
variable {G : Gx} {X : Cx} {a b c e : Expr} {es : List Expr} {pos p : Pos} {pa pb pc : PEt} {pl : PAt} {x : Str}
end
end Rg

set_option Elab.async false
set_option linter.all false
set_option maxRecDepth 100000
set_option maxHeartbeats 4000000
namespace Rg
open PySem PySem.Spec PyProof.Rows L2
abbrev Gf (G : Gx) (x : Addr) (fr : List (Addr × HO)) : Gx := { G with H0 := offX x G.H0, fr := fr }
section
variable {G : Gx} {F : List (Addr × HO)} {D D' H H' : Hp} {σ : L2.St} {ρ : Ps} {x : Addr} {o : HO}
/-- an object that stood at the start is taken into the frame -/
theorem RelB.grab (R : RelB G F D σ H ρ) (h0 : G.H0 x ≠ none) (hx : H x = some o) (dx : D x = none) (np : ∀ p, G.pn = some p → p ≠ x) (no : NT o := by trivial) : RelB (Gf G x G.fr) ((x, o) :: F) D σ H ρ := by
  obtain ⟨as, r⟩ := R.sl
  have z := rs_own_h0 R.frH0 r
  have n : x ∉ as := fun h => h0 (z x h)
  have off0 : ∀ a, G.H0 a = none → offX x G.H0 a = none := fun a h => by
    by_cases q : a = x
    · rw [q]; exact offX_eq
    · rw [offX_ne q]; exact h
  have key : ∀ {σ : L2.St} {sl : Sl} {as : List Addr}, Rs G.K D H G.H0 (F.map (·.1)) σ sl as → Rs G.K D H (offX x G.H0) (F.map (·.1)) σ sl as := by
    intro σ sl as r
    induction r with
    | nil => exact .nil
    | no _ ih => exact .no ih
    | val q _ ih => exact .val q ih
    | own ob d z n _ ih => exact .own ob d (off0 _ z) n ih
  obtain ⟨as', _, r3⟩ := rs_push (key r) n
  refine ⟨R.st.offX, ⟨as', r3⟩, fun q hq => ?_, R.pen, fun p e => by show offX x G.H0 p ≠ none; rw [offX_ne (np p e)]; exact R.ph p e, List.forall_mem_cons.mpr ⟨no, R.nt⟩⟩
  rcases List.mem_cons.mp hq with e | e
  · rw [e]
    exact ⟨hx, dx, offX_eq⟩
  · obtain ⟨f1, f2, f3⟩ := R.fr q e
    exact ⟨f1, f2, off0 _ f3⟩
theorem stepX_off {K : PySem.W.Frag} {pn : Option Addr} {D0 H0 D1 H1 : Hp} (s : StepT K (Wn pn) D0 (offX x H0) D1 H1) (h1 : H1 x ≠ none) (d1 : D1 x = none) : StepT K (Wx pn x) D0 H0 D1 H1 := by
  refine ⟨s.dd, s.dh, fun b o hb n e => s.kq b o (fun z => hb (.inr z)) n (by rw [offX_ne (fun z => hb (.inl z))]; exact e), fun b e => ?_, fun b e d => ?_, fun b hb t => s.tb b (fun z => hb (.inr z)) ?_⟩
  · by_cases q : b = x
    · rw [q]; exact h1
    · exact s.ns b (by rw [offX_ne q]; exact e)
  · by_cases q : b = x
    · rw [q]; exact d1
    · exact s.fr b (by rw [offX_ne q]; exact e) d
  · obtain ⟨g0, ps, h, r⟩ := t
    exact ⟨g0, ps, by rw [offX_ne (fun z => hb (.inl z))]; exact h, r⟩
end
structure WS where
  fs : List (Str × Option DV)
  kvs : List (Key × DV)
def FldR (K : PySem.W.Frag) (D : Hp) (a : Addr) : List (Str × V) → List (Str × Option DV) → Prop := Paired fun p q => p.1 = q.1 ∧ match q.2 with
  | some d => Rv K D p.2 d
  | none => p.2 = .ref a
theorem fldR_mono {K : PySem.W.Frag} {D D' : Hp} {a : Addr} (e : Same D D') : ∀ {ps : List (Str × V)} {fs : List (Str × Option DV)}, FldR K D a ps fs → FldR K D' a ps fs
  | _, _, .nil => .nil
  | (_, _) :: _, (_, some _) :: _, .cons h r => .cons ⟨h.1, rv_mono e h.2⟩ (fldR_mono e r)
  | (_, _) :: _, (_, none) :: _, .cons h r => .cons ⟨h.1, h.2⟩ (fldR_mono e r)
theorem fldR_names {K : PySem.W.Frag} {D : Hp} {a : Addr} : ∀ {ps : List (Str × V)} {fs : List (Str × Option DV)}, FldR K D a ps fs → ps.map (·.1) = fs.map (·.1)
  | _, _, .nil => rfl
  | _, _, .cons h r => by rw [List.map_cons, List.map_cons, h.1, fldR_names r]
theorem fldR_app {K : PySem.W.Frag} {D : Hp} {a : Addr} {f : Str} {v : V} {d : DV} (h : Rv K D v d) : ∀ {ps : List (Str × V)} {fs : List (Str × Option DV)}, FldR K D a ps fs → FldR K D a (ps ++ [(f, v)]) (fs ++ [(f, some d)])
  | _, _, .nil => .cons ⟨rfl, h⟩ .nil
  | _, _, .cons g r => .cons g (fldR_app h r)
theorem fldR_dict {K : PySem.W.Frag} {D : Hp} {a : Addr} {f : Str} : ∀ {ps : List (Str × V)} {fs : List (Str × Option DV)}, FldR K D a ps fs → fs.lookup f = some none → ps.lookup f = some (.ref a)
  | _, _, .nil, e => nomatch e
  | (g, v) :: ps, (g2, o) :: fs, .cons h r, e => by
    obtain ⟨h1, h2⟩ := h
    have h1 : g = g2 := h1
    subst h1
    by_cases q : f = g
    · subst q
      rw [List.lookup_cons_self] at e ⊢
      cases e
      exact congrArg some h2
    · have b : (f == g) = false := beq_eq_false_iff_ne.mpr q
      rw [List.lookup_cons, b] at e ⊢
      exact fldR_dict r e
abbrev frm (K : PySem.W.Frag) (C : Str) (x dx a : Addr) (ps : List (Str × V)) (qs : List (Key × V)) : List (Addr × HO) := [(x, .ins (He.ga K C) dx ps), (a, .dK qs)]
def RelI (G : Gx) (C : Str) (x : Addr) (W : WS) (D : Hp) (σ : L2.St) (H : Hp) (ρ : Ps) : Prop := ∃ (dx a : Addr) (ps : List (Str × V)) (qs : List (Key × V)), Rel (Gf G x (frm G.K C x dx a ps qs)) [] D σ H ρ ∧ FldR G.K D a ps W.fs ∧ RvP G.K D qs W.kvs ∧ a ≠ x
structure PIEnds where
  nx : Ps → WS → Prop
  rs : PR
  bk : Ps → WS → Prop := fun _ _ => False
  ct : Ps → WS → Prop := fun _ _ => False
abbrev PIt := PIEnds → Ps → WS → Prop
def ILk (G : Gx) (C : Str) (x : Addr) (D0 : Hp) (p : Ps → WS → Prop) (t : L2.St → Hp → Prop) : Prop := ∀ D σ H ρ W, Same D0 D → RelI G C x W D σ H ρ → p ρ W → t σ H
theorem ILk.up {G : Gx} {C : Str} {x : Addr} {D0 D1 : Hp} {p : Ps → WS → Prop} {t : L2.St → Hp → Prop} (h : ILk G C x D0 p t) (s : Same D0 D1) : ILk G C x D1 p t := fun D σ H ρ W e => h D σ H ρ W (s.trans e)
structure EndsI (G : Gx) (C : Str) (x : Addr) (D0 : Hp) (Ep : PIEnds) (E : Ends) : Prop where
  nx : ILk G C x D0 Ep.nx E.nx
  bk : ILk G C x D0 Ep.bk E.bk
  ct : ILk G C x D0 Ep.ct E.ct
theorem EndsI.up {G : Gx} {C : Str} {x : Addr} {D0 D1 : Hp} {Ep : PIEnds} {E : Ends} (h : EndsI G C x D0 Ep E) (s : Same D0 D1) : EndsI G C x D1 Ep E := ⟨h.nx.up s, h.bk.up s, h.ct.up s⟩
def lSi (G : Gx) (C : Str) (x : Addr) (p : PIt) : TS := fun E σ H => ∃ (D : Hp) (ρ : Ps) (W : WS) (Ep : PIEnds), RelI G C x W D σ H ρ ∧ p Ep ρ W ∧ EndsI G C x D Ep E ∧ ExOkX x G Ep.rs
structure DSi (G : Gx) (C : Str) (x : Addr) (X : Cx) (st : Stmt) (p : PIt) : Prop where
  run : PS X st (lSi G C x p)
structure DSsi (G : Gx) (C : Str) (x : Addr) (X : Cx) (sts : List Stmt) (p : PIt) : Prop where
  run : PSs X sts (lSi G C x p)
theorem exI {G : Gx} {x : Addr} {fr : List (Addr × HO)} {R : PR} (h : ExOkX x G R) : ExOk (Gf G x fr) R := ⟨fun D H e n d ps s => h.ok D H e n d ps (s.mono fun b z => .inr z)⟩
section
variable {G : Gx} {C : Str} {x : Addr} {X : Cx} {st : Stmt} {sts : List Stmt} {p q : PIt} {pos p1 p2 p3 : Pos}
def pINil : PIt := fun E ρ W => E.nx ρ W
def pISeq (p q : PIt) : PIt := fun E ρ W => p { E with nx := q E } ρ W
theorem si_nil : DSsi G C x X [] pINil := ⟨⟨fun pins s σ H E I ⟨D, ρ, W, Ep, rel, hp, ok, hx⟩ => pss_nil.run pins s σ H E I (ok.nx D σ H ρ W (Same.refl D) rel hp)⟩⟩
theorem si_cons (h : DSi G C x X st p) (h2 : DSsi G C x X sts q) : DSsi G C x X (st :: sts) (pISeq p q) := ⟨⟨fun pins s σ H E I ⟨D, ρ, W, Ep, rel, hp, ok, hx⟩ => (pss_cons h.run h2.run).run pins s σ H E I
  ⟨D, ρ, W, { Ep with nx := q Ep }, rel, hp, ⟨fun D' σ' H' ρ' W' sm rel' h' => ⟨D', ρ', W', Ep, rel', h', ok.up sm, hx⟩, ok.bk, ok.ct⟩, hx⟩⟩⟩
/-- a statement that stores nothing into self -/
def pIPl (p : WS → Addr → Addr → List (Str × V) → List (Key × V) → PSt) : PIt := fun E ρ W => ∀ (dx a : Addr) (ps : List (Str × V)) (qs : List (Key × V)), p W dx a ps qs { nx := fun ρ' => E.nx ρ' W, rt := fun _ _ => False, rs := E.rs, bk := fun ρ' => E.bk ρ' W, ct := fun ρ' => E.ct ρ' W } ρ
theorem si_plain {p : WS → Addr → Addr → List (Str × V) → List (Key × V) → PSt} (d : ∀ (W : WS) (dx a : Addr) (ps : List (Str × V)) (qs : List (Key × V)), (∀ f, W.fs.lookup f = some none → ps.lookup f = some (.ref a)) → qs.map (·.1) = W.kvs.map (·.1) → DS (Gf G x (frm G.K C x dx a ps qs)) X st (p W dx a ps qs)) : DSi G C x X st (pIPl p) := by
  refine ⟨⟨fun pins s σ H E I ⟨D, ρ, W, Ep, ⟨dx, a, ps, qs, rel, fl, rv, ne⟩, hp, ok, hx⟩ => ?_⟩⟩
  have keys : ∀ {qs : List (Key × V)} {kvs : List (Key × DV)}, RvP G.K D qs kvs → qs.map (·.1) = kvs.map (·.1) := by
    intro qs kvs r
    induction r with
    | nil => rfl
    | cons a _ ih => rw [List.map_cons, List.map_cons, a.1, ih]
  refine (d W dx a ps qs (fun f h => fldR_dict fl h) (keys rv)).run.run pins s σ H E I ⟨D, ρ, _, rel, hp dx a ps qs, ⟨fun D' σ' H' ρ' sm rel' h' => ok.nx D' σ' H' ρ' W sm ⟨dx, a, ps, qs, rel', fldR_mono sm fl, rvP_mono sm rv, ne⟩ h', fun _ _ _ _ _ _ _ _ z => z.elim, fun D' σ' H' ρ' sm rel' h' => ok.bk D' σ' H' ρ' W sm ⟨dx, a, ps, qs, rel', fldR_mono sm fl, rvP_mono sm rv, ne⟩ h', fun D' σ' H' ρ' sm rel' h' => ok.ct D' σ' H' ρ' W sm ⟨dx, a, ps, qs, rel', fldR_mono sm fl, rvP_mono sm rv, ne⟩ h'⟩, exI hx⟩
end
end Rg

set_option Elab.async false
set_option linter.all false
set_option maxRecDepth 100000
set_option maxHeartbeats 4000000
namespace Rg
open PySem PySem.Spec PyProof.Rows L2
def hasKey (keys : List Key) (k : Key) : Bool := keys.any fun j => decide (j = k)
theorem valV_some (k : Key) : ∀ qs : List (Key × V), (valV qs k).isSome = hasKey (qs.map (·.1)) k
  | [] => rfl
  | (j, v) :: r => by
    have ih := valV_some k r
    unfold valV at ih ⊢
    rw [List.find?_cons, List.map_cons]
    show _ = (decide (j = k) || hasKey (r.map (·.1)) k)
    by_cases h : j = k
    · rw [decide_eq_true h]
      rfl
    · rw [decide_eq_false h]
      exact ih
def slSelf (x : Addr) (ρ : Ps) : Prop := ρ.sl[0]? = some (some (.val (.raw (.ref x))))
section
variable {G : Gx} {C : Str} {x : Addr} {X : Cx} {b k v e : Expr} {st : Stmt} {sts : List Stmt} {p q : PIt} {pos p1 p2 p3 : Pos} {pb pk pv pa : PEt} {s f : Str}
def pInF (x : Addr) (W : WS) (f : Str) (pb : PEt) : PTt := fun ρ Q R => pb ρ (fun y ρ1 => slSelf x ρ1 ∧ W.fs.lookup f = some none ∧ match keyOf y with
  | some k => Q (hasKey (W.kvs.map (·.1)) k) ρ1
  | none => False) R
theorem self_at {F : List (Addr × HO)} {D H : Hp} {σ : L2.St} {ρ : Ps} (rel : Rel G F D σ H ρ) (h : slSelf x ρ) : σ[0]? = some (some (.ref x)) := by
  obtain ⟨w, e0, r0⟩ := rel.get h
  rw [rv_raw r0] at e0
  exact e0
theorem t_inF {W : WS} {dx a : Addr} {ps : List (Str × V)} {qs : List (Key × V)} (hu : X.A.units + 1 < cLine) (c : Cls X.K (He.ga G.K C)) (n : NoAttr X.K (He.ga G.K C) f) (lk : ∀ f, W.fs.lookup f = some none → ps.lookup f = some (.ref a)) (hk : qs.map (·.1) = W.kvs.map (·.1)) (hs : PE X (.Name s p1) (tVar 0)) (hb : DE (Gf G x (frm G.K C x dx a ps qs)) X b pb)
    (hK : X.K = G.K := by rfl) : DT (Gf G x (frm G.K C x dx a ps qs)) X (.Compare b [.In] [.Attribute (.Name s p1) f p2] pos) (pInF x W f pb) := by
  refine DT.of (pt_cmp (pc_din hu hb.run (pe_fldK G.K hs hK)) rfl) fun F D σ H ρ Q R k rel hp hx cont => ?_
  refine simE_l F D σ H ρ _ R _ rel hp hx fun y ρ1 D1 w H1 e1 r1 q1 hp1 => ?_
  obtain ⟨hself, wl, hp1⟩ := hp1
  split at hp1
  · next kk ek =>
    have f1 := (r1.fr (x, .ins (He.ga G.K C) dx ps) (List.mem_append_right _ List.mem_cons_self)).1
    have f2 := (r1.fr (a, .dK qs) (List.mem_append_right _ (List.mem_cons_of_mem _ List.mem_cons_self))).1
    refine ⟨_, self_at r1 hself, x, He.ga G.K C, dx, ps, .ref a, rfl, f1, hK ▸ c, hK ▸ n, lk _ wl, a, valV qs kk, rfl, ?_, ?_⟩
    · rw [rv_key q1 ek]
      exact DGet.k f2
    · rw [valV_some, hk]
      exact ⟨_, rfl, cont _ ρ1 D1 H1 e1 r1 hp1⟩
  · exact hp1.elim
/-- self.f[k] = v -/
def pIPut (x : Addr) (f : Str) (pk pv : List (Addr × HO) → PEt) : PIt := fun E ρ W => ∀ fr, pv fr ρ (fun d ρ1 => slSelf x ρ1 ∧ W.fs.lookup f = some none ∧ pk fr ρ1 (fun y ρ2 => W.kvs.length < sizeLine ∧ match keyOf y with
  | some k => E.nx ρ2 ⟨W.fs, dput W.kvs k d⟩
  | none => False) E.rs) E.rs
theorem si_put {pk pv : List (Addr × HO) → PEt} (hu : X.A.units + 1 < cLine) (c : Cls X.K (He.ga G.K C)) (n : NoAttr X.K (He.ga G.K C) f) (hs : PE X (.Name s p1) (tVar 0)) (hk : ∀ fr, DE (Gf G x fr) X k (pk fr)) (hv : ∀ fr, DE (Gf G x fr) X v (pv fr))
    (hsw : swapsWith v (some (.Subscript (.Attribute (.Name s p1) f p2) k p3)) pos.line X.env = pure false := by rfl) (hK : X.K = G.K := by rfl) : DSi G C x X (.Assign [.Subscript (.Attribute (.Name s p1) f p2) k p3] v pos) (pIPut x f pk pv) := by
  refine ⟨⟨fun pins sh σ H E I ⟨D, ρ, W, Ep, ⟨dx, a, ps, qs, rel, fl, rv, ne⟩, hp, ok, hx⟩ => ?_⟩⟩
  refine (ps_dput hu (pe_fldK G.K hs hK) (hk (frm G.K C x dx a ps qs)).run (hv (frm G.K C x dx a ps qs)).run hsw).run pins sh σ H E I ?_
  refine simE_l [] D σ H ρ _ Ep.rs _ rel (hp (frm G.K C x dx a ps qs)) (exI hx) fun d ρ1 D1 u H1 e1 r1 q1 hp1 => ?_
  obtain ⟨hself, lk, hp1⟩ := hp1
  have f1 := (r1.fr (x, .ins (He.ga G.K C) dx ps) (List.mem_append_right _ List.mem_cons_self)).1
  refine ⟨_, self_at r1 hself, x, He.ga G.K C, dx, ps, .ref a, rfl, f1, hK ▸ c, hK ▸ n, fldR_dict fl lk, ?_⟩
  refine simE_l [] D1 σ H1 ρ1 _ Ep.rs _ r1 hp1 (exI hx) fun y ρ2 D2 w H2 e2 r2 q2 hp2 => ?_
  obtain ⟨hz, hp2⟩ := hp2
  split at hp2
  · next kk ek =>
    have f2 := (r2.fr (a, .dK qs) (List.mem_append_right _ (List.mem_cons_of_mem _ List.mem_cons_self))).1
    have sm : Same D D2 := e1.trans e2
    have r3 : RelB (Gf G x (frm G.K C x dx a ps qs)) [(a, .dK (putK qs kk u)), (x, .ins (He.ga G.K C) dx ps)] D2 σ (upd H2 a (.dK (putK qs kk u))) ρ2 := (RelB.swap2 r2).poke (fun z => ne (by simpa using z))
    refine ⟨a, _, rfl, .inl ⟨qs, kk, f2, rv_key q2 ek, by rw [rvP_len rv]; exact hz, rfl⟩, ok.nx D2 σ _ ρ2 ⟨W.fs, dput W.kvs kk d⟩ sm ⟨dx, a, ps, putK qs kk u, ?_, fldR_mono sm fl, rvP_put kk (rv_mono e2 q1) (rvP_mono sm rv), ne⟩ hp2⟩
    have r4 := RelB.swap2 r3
    exact ⟨r4.st, r4.sl, r4.fr, r4.pen, r4.ph, r4.nt⟩
  · exact hp2.elim
/-- self.g = v -/
def pISt (x : Addr) (g : Str) (pv : List (Addr × HO) → PEt) : PIt := fun E ρ W => ∀ fr, pv fr ρ (fun d ρ1 => slSelf x ρ1 ∧ g ∉ W.fs.map (·.1) ∧ W.fs.length < 900 ∧ E.nx ρ1 ⟨W.fs ++ [(g, some d)], W.kvs⟩) E.rs
theorem si_store {g : Str} {pv : List (Addr × HO) → PEt} (c : Cls X.K (He.ga G.K C)) (n : NoAttr X.K (He.ga G.K C) g) (hs : PE X (.Name s p1) (tVar 0)) (hv : ∀ fr, DE (Gf G x fr) X v (pv fr))
    (hsw : swapsWith v (some (.Attribute (.Name s p1) g p2)) pos.line X.env = pure false := by rfl) (hK : X.K = G.K := by rfl) : DSi G C x X (.Assign [.Attribute (.Name s p1) g p2] v pos) (pISt x g pv) := by
  refine ⟨⟨fun pins sh σ H E I ⟨D, ρ, W, Ep, ⟨dx, a, ps, qs, rel, fl, rv, ne⟩, hp, ok, hx⟩ => ?_⟩⟩
  refine (ps_fld hs (hv (frm G.K C x dx a ps qs)).run hsw).run pins sh σ H E I ?_
  refine simE_l [] D σ H ρ _ Ep.rs _ rel (hp (frm G.K C x dx a ps qs)) (exI hx) fun d ρ1 D1 u H1 e1 r1 q1 hp1 => ?_
  obtain ⟨hself, ng, hl, hp1⟩ := hp1
  have f1 := (r1.fr (x, .ins (He.ga G.K C) dx ps) (List.mem_append_right _ List.mem_cons_self)).1
  have nm := fldR_names fl
  have pl : ps.length = W.fs.length := by
    have := congrArg List.length nm
    rwa [List.length_map, List.length_map] at this
  refine ⟨_, self_at r1 hself, x, He.ga G.K C, dx, ps, rfl, f1, c, n, by omega, ?_⟩
  rw [putF_new (by rw [nm]; exact ng)]
  have r3 : RelB (Gf G x (frm G.K C x dx a ps qs)) [(x, .ins (He.ga G.K C) dx (ps ++ [(g, u)])), (a, .dK qs)] D1 σ (upd H1 x (.ins (He.ga G.K C) dx (ps ++ [(g, u)]))) ρ1 := RelB.poke r1 (fun z => ne (by simpa using z : x = a).symm)
  exact ok.nx D1 σ _ ρ1 ⟨W.fs ++ [(g, some d)], W.kvs⟩ e1 ⟨dx, a, ps ++ [(g, u)], qs, ⟨r3.st, r3.sl, r3.fr, r3.pen, r3.ph, r3.nt⟩, fldR_app q1 (fldR_mono e1 fl), rvP_mono e1 rv, ne⟩ hp1
/-- for, the body of which stores into self -/
def WkI (I : Ps → WS → Prop) : Ps → WS → Prop := fun ρ W => ∃ sl n, Le sl ρ.sl ∧ n ≤ ρ.ink ∧ I ⟨sl, n⟩ W
def pIFor (pi : List (Addr × HO) → PAt) (pg : List (Addr × HO) → PGt) (pb : PIt) : PIt := fun E ρ W => ∀ fr0, pi fr0 ρ (fun ds ρ1 => ∃ I : Nat → Ps → WS → Prop, I 0 ρ1 W ∧
  (∀ i d ρ2 W2, ds[i]? = some d → I i ρ2 W2 → ∀ fr, pg fr d ρ2 fun ρ3 => pb { E with nx := WkI (I (i + 1)), ct := WkI (I (i + 1)), bk := E.nx } ρ3 W2) ∧ ∀ ρ2 W2, I ds.length ρ2 W2 → E.nx ρ2 W2) E.rs
theorem RelI.wk {W : WS} {D H : Hp} {σ : L2.St} {ρ : Ps} {sl : Sl} {n : Nat} (R : RelI G C x W D σ H ρ) (l : Le sl ρ.sl) (hn : n ≤ ρ.ink) : RelI G C x W D σ H ⟨sl, n⟩ := by
  obtain ⟨dx, a, ps, qs, rel, r⟩ := R
  exact ⟨dx, a, ps, qs, rel.wk l hn, r⟩
theorem si_for {tg a : Expr} {g : List (Addr × HO) → TG} {ks : List Nat} {pg : List (Addr × HO) → PGt} {pi : List (Addr × HO) → PAt} {p : PIt} (hp : PassesOwn (model X.prog X.w) X.A X.env X.xe) (hc : X.calm = true) (hi : ∀ fr, DI (Gf G x fr) X tg a (pi fr)) (hg : ∀ fr, DG (Gf G x fr) X tg (g fr) ks (pg fr)) (hb : DSsi G C x X sts p) (hs : ∀ x, foldedSetIterable a X.env x = pure x := by intro _; rfl) (hgg : ∀ fr, g fr = g [] := by intro _; rfl) :
    DSi G C x X (.For tg a sts [] pos) (pIFor pi pg p) := by
  refine ⟨⟨fun pins sh σ H E I0 ⟨D, ρ, W, Ep, ⟨dx, ad, ps, qs, rel, fl, rv, ne⟩, hpp, ok, hx⟩ => ?_⟩⟩
  obtain ⟨wi, h1, s1⟩ := (hi (frm G.K C x dx ad ps qs)).ex
  refine (ps_for hp hc h1 (hg []).run hb.run hs).run pins sh σ H E I0 ?_
  refine s1 [] D σ H ρ _ Ep.rs _ rel (hpp (frm G.K C x dx ad ps qs)) (exI hx) fun ds ρ1 D1 H1 J e1 r1 it hp1 => ?_
  obtain ⟨I, i0, turn, fin⟩ := hp1
  obtain ⟨Y, w, hY⟩ := it.ex
  refine for_it w (fun i σ H => ∃ D2 ρ2 W2, Same D1 D2 ∧ RelI G C x W2 D2 σ H ρ2 ∧ I i ρ2 W2) ⟨D1, ρ1, W, Same.refl D1, ⟨dx, ad, ps, qs, r1, fldR_mono e1 fl, rvP_mono e1 rv, ne⟩, i0⟩ ?_ ?_ ?_
  · rintro i σ H _ ⟨D2, ρ2, W2, sm, ⟨dx, ad, ps, qs, r2, _⟩, _⟩
    exact sm.trans r2.same
  · rintro i y σ H H' hi' ⟨D2, ρ2, W2, sm, ⟨dx, ad, ps, qs, r2, fl2, rv2, ne2⟩, i2⟩ yy
    obtain ⟨d, D3, h3, sm3, r3, rv3⟩ := ItD.turn (G := Gf G x (frm G.K C x dx ad ps qs)) (J := J) hY hi' yy sm r2
    have hg1 := hg (frm G.K C x dx ad ps qs)
    rw [hgg] at hg1
    refine hg1.sim [] D3 σ H' ρ2 y d _ _ r3 rv3 (turn i d ρ2 W2 h3 i2 (frm G.K C x dx ad ps qs)) fun ρ4 σ4 _ r4 h4 => ?_
    refine ⟨D3, ρ4, W2, { Ep with nx := WkI (I (i + 1)), ct := WkI (I (i + 1)), bk := Ep.nx }, ⟨dx, ad, ps, qs, r4, fldR_mono sm3 fl2, rvP_mono sm3 rv2, ne2⟩, h4, ⟨?_, (ok.nx).up ((e1.trans sm).trans sm3), ?_⟩, hx⟩
    · rintro D5 σ5 H5 ρ5 W5 sm5 r5 ⟨sl, n, l, hn, h5⟩
      exact ⟨D5, _, W5, (sm.trans sm3).trans sm5, r5.wk l hn, h5⟩
    · rintro D5 σ5 H5 ρ5 W5 sm5 r5 ⟨sl, n, l, hn, h5⟩
      exact ⟨D5, _, W5, (sm.trans sm3).trans sm5, r5.wk l hn, h5⟩
  · rintro σ H ⟨D2, ρ2, W2, sm, r2, i2⟩
    exact ok.nx D2 σ H ρ2 W2 (e1.trans sm) r2 (fin ρ2 W2 i2)
end
end Rg

set_option Elab.async false
set_option linter.all false
set_option maxRecDepth 100000
set_option maxHeartbeats 4000000
namespace Rg
open PySem PySem.Spec PyProof.Rows L2
def lB (G : Gx) (C : Str) (x : Addr) (p : PIEnds → Ps → Prop) : TS := fun E σ H => ∃ (D : Hp) (ρ : Ps) (Ep : PIEnds), Rel G [] D σ H ρ ∧ p Ep ρ ∧ EndsI G C x D Ep E ∧ ExOkX x G Ep.rs
structure DSb (G : Gx) (C : Str) (x : Addr) (X : Cx) (sts : List Stmt) (p : PIEnds → Ps → Prop) : Prop where
  run : PSs X sts (lB G C x p)
section
variable {G : Gx} {C : Str} {x dx : Addr} {X : Cx} {st : Stmt} {sts : List Stmt} {p : PSt} {q : PIt} {qb : PIEnds → Ps → Prop} {pos p1 p2 p3 : Pos} {s f : Str}
def pBCons (p : PSt) (q : PIEnds → Ps → Prop) : PIEnds → Ps → Prop := fun E ρ => p { nx := q E, rt := fun _ _ => False, rs := E.rs } ρ
theorem b_cons (h : DS G X st p) (h2 : DSb G C x X sts qb) : DSb G C x X (st :: sts) (pBCons p qb) := by
  refine ⟨⟨fun pins sh σ H E I ⟨D, ρ, Ep, rel, hp, ok, hx⟩ => (pss_cons h.run h2.run).run pins sh σ H E I ?_⟩⟩
  exact ⟨D, ρ, _, rel, hp, ⟨fun D' σ' H' ρ' sm rel' h' => ⟨D', ρ', Ep, rel', h', ok.up sm, hx⟩, fun _ _ _ _ _ _ _ _ z => z.elim, fun _ _ _ _ _ _ z => z.elim, fun _ _ _ _ _ _ z => z.elim⟩, hx.ex⟩
/-- self.f = {} -/
def pBDict (x : Addr) (f : Str) (q : PIt) : PIEnds → Ps → Prop := fun E ρ => slSelf x ρ ∧ q E ρ ⟨[(f, none)], []⟩
theorem b_dict (hfr : G.fr = []) (h0 : G.H0 x = some (.ins (He.ga G.K C) dx [])) (d0 : G.D0 x = none) (np : ∀ p, G.pn = some p → p ≠ x) (c : Cls X.K (He.ga G.K C)) (n : NoAttr X.K (He.ga G.K C) f) (hs : PE X (.Name s p1) (tVar 0)) (h2 : DSsi G C x X sts q)
    (hsw : swapsWith (.Dict [] [] p3) (some (.Attribute (.Name s p1) f p2)) pos.line X.env = pure false := by rfl) : DSb G C x X (.Assign [.Attribute (.Name s p1) f p2] (.Dict [] [] p3) pos :: sts) (pBDict x f q) := by
  refine ⟨⟨fun pins sh σ H E I ⟨D, ρ, Ep, rel, ⟨hself, hq⟩, ok, hx⟩ => (pss_cons (ps_fld hs pe_dnewK hsw) h2.run).run pins sh σ H E I ?_⟩⟩
  have n0 : G.H0 x ≠ none := by rw [h0]; exact fun z => nomatch z
  intro a ha
  have hx1 : H x = some (.ins (He.ga G.K C) dx []) := rel.st.kq x _ (fun e => np x e rfl) True.intro h0
  have dx1 : D x = none := rel.st.fr x n0 d0
  have ne : a ≠ x := fun z => by rw [z, hx1] at ha; cases ha
  have r1 : RelB G [(a, .dK [])] D σ (upd H a (.dK [])) ρ := by
    have r := rel.push (o := .dK []) ha
    rw [hfr] at r
    exact r
  have r2 := r1.grab n0 (by rw [upd_ne (Ne.symm ne)]; exact hx1) dx1 np
  have r3 := r2.poke (o' := .ins (He.ga G.K C) dx [(f, .ref a)]) (fun z => ne (by simpa using z : x = a).symm)
  refine ⟨.ref x, self_at rel hself, x, He.ga G.K C, dx, [], rfl, by rw [upd_ne (Ne.symm ne)]; exact hx1, c, n, by show 0 < 1000; decide, ?_⟩
  exact ⟨D, ρ, ⟨[(f, none)], []⟩, Ep, ⟨dx, a, [(f, .ref a)], [], ⟨r3.st, r3.sl, r3.fr, r3.pen, r3.ph, r3.nt⟩, .cons ⟨rfl, rfl⟩ .nil, .nil, ne⟩, hq, ok, hx⟩
end
def finV (W : WS) : List DV := W.fs.map fun p => match p.2 with
  | some d => d
  | none => .node (.dct (W.kvs.map (·.1))) (W.kvs.map (·.2))
def endsI (fs : List Str) (Qd : List DV → Nat → Prop) (R : PR) : PIEnds := { nx := fun ρ W => W.fs.map (·.1) = fs ∧ Qd (finV W) ρ.ink, rs := R }
theorem zip_self {κ α : Type} : ∀ ps : List (κ × α), (ps.map (·.1)).zip (ps.map (·.2)) = ps
  | [] => rfl
  | p :: r => by rw [List.map_cons, List.map_cons, List.zip_cons_cons, zip_self r]
theorem rvP_vals {κ : Type} {K : PySem.W.Frag} {D : Hp} : ∀ {qs : List (κ × V)} {kvs : List (κ × DV)}, RvP K D qs kvs → qs.map (·.1) = kvs.map (·.1) ∧ RvA K D (qs.map (·.2)) (kvs.map (·.2))
  | _, _, .nil => ⟨rfl, .nil⟩
  | _, _, .cons a r => ⟨by rw [List.map_cons, List.map_cons, a.1, (rvP_vals r).1], .cons a.2 (rvP_vals r).2⟩
theorem fldR_vals {K : PySem.W.Frag} {D : Hp} {a : Addr} {dd : DV} (hd : Rv K D (.ref a) dd) : ∀ {ps : List (Str × V)} {fs : List (Str × Option DV)}, FldR K D a ps fs → RvA K D (ps.map (·.2)) (fs.map fun p => match p.2 with | some d => d | none => dd)
  | _, _, .nil => .nil
  | (_, _) :: _, (_, some _) :: _, .cons h r => .cons h.2 (fldR_vals hd r)
  | (_, v) :: _, (_, none) :: _, .cons h r => .cons (by have e : v = .ref a := h.2; rw [e]; exact hd) (fldR_vals hd r)
section
variable {P : Program} {w : World} {K : PySem.W.Frag} {mg : Str → Option Value} {base : Heap}
variable {CX : CXT} {x qual : Str} {params : Arguments} {body : List Stmt} {scope : Scope} {dvs : List V} {kws : List (Str × V)} {f : Addr} {fd : FuncData} {N ps : List Str} {k : Nat}
/-- how the end of such a body meets spNew's -/
theorem init_end {C : Str} {fs : List Str} {pn : Option Addr} {D H : Hp} {E : XK} {Q : VK} {x dx : Addr} {n : Nat} {Qd : List DV → Nat → Prop} {R : PR} {body : List Stmt} {X : Cx} {pp : PIEnds → Ps → Prop} {us : List V} {ds : List DV} {N : List Str}
    (dv : DSb ⟨K, pn, D, H, E, []⟩ C x X body pp) (sd : Same D H) (ph : ∀ p, pn = some p → H p ≠ none ∧ p ≠ x) (dx0 : D x = none) (hx : H x = some (.ins (He.ga K C) dx [])) (rv : RvA K D us ds) (pen : PenOk K D H pn n)
    (post : ∀ D' H' dxe zs es n', StepT K (Wx pn x) D H D' H' → D' x = none → H' x = some (.ins (He.ga K C) dxe (fs.zip zs)) → fs.length = zs.length → RvA K D' zs es → PenOk K D' H' pn n' → Qd es n' → Q .non H') (ex : ExOkX x ⟨K, pn, D, H, E, []⟩ R)
    (hp : pp (endsI fs Qd R) ⟨startP N (.raw (.ref x) :: ds), n⟩) : lB ⟨K, pn, D, H, E, []⟩ C x pp { nx := fun _ H' => Q .non H', rt := Q } (L2.start N (.ref x :: us)) H := by
  refine ⟨D, _, endsI fs Qd R, rel_start sd (fun p e => (ph p e).1) (.cons (.raw _) rv) pen, hp, ⟨?_, fun _ _ _ _ _ _ _ z => z.elim, fun _ _ _ _ _ _ _ z => z.elim⟩, ex⟩
  rintro D1 σ1 H1 ρ1 W sm ⟨dx', a, ps, qs, rel, fl, rvd, ne⟩ ⟨hn, hq⟩
  have f1 := rel.fr (x, .ins (He.ga K C) dx' ps) List.mem_cons_self
  obtain ⟨r2, sm2⟩ := (RelB.swap2 rel).pop (fun z => ne (by simpa using z))
  have hx1 : H1 x = some (.ins (He.ga K C) dx' ps) := f1.1
  have g1 := r2.fr (x, .ins (He.ga K C) dx' ps) List.mem_cons_self
  have st := stepX_off (pn := pn) r2.st (by rw [hx1]; exact fun z => nomatch z) g1.2.1
  obtain ⟨k1, k2⟩ := rvP_vals (rvP_mono sm2 rvd)
  have hd : Rv K (upd D1 a (.dK qs)) (.ref a) (.node (.dct (W.kvs.map (·.1))) (W.kvs.map (·.2))) := by
    rw [← k1]
    exact .dct (vs := qs.map (·.2)) (by rw [upd_same, zip_self]) (by rw [List.length_map, List.length_map]) k2
  have nm := fldR_names fl
  refine post _ H1 dx' (ps.map (·.2)) (finV W) ρ1.ink st g1.2.1 ?_ ?_ (fldR_vals hd (fldR_mono sm2 fl)) r2.pen hq
  · rw [hx1, ← hn, ← nm, zip_self]
  · rw [← hn, ← nm, List.length_map, List.length_map]
end
end Rg

set_option Elab.async false
set_option linter.all false
set_option maxRecDepth 100000
set_option maxHeartbeats 4000000
namespace Rg
open PySem PySem.Spec PyProof.Rows L2
def tupFn (Fn : NFn) : NFn := fun pn ds' n Q R => ∃ ds, ds' = [.tup ds] ∧ ds.length ≤ sizeLine ∧ Fn pn ds n Q R
section
variable {P : Program} {w : World} {K : PySem.W.Frag} {mg : Str → Option Value} {base : Heap} {CX : CXT}
theorem spNew_tup {C : Str} {fs : List Str} {Fn : NFn} (hz : ∀ pn ds n Q R, Fn pn ds n Q R → ds.length ≤ sizeLine) {vs : List V} {H : Hp} {Q : VK} {E : XK} (h : spNew K C fs Fn vs H Q E) :
    ∃ ws rest, vs = ws ++ rest ∧ ws.length = ([("self" : Str)]).length ∧ rest.length ≤ sizeLine ∧ ∀ p, H p = none → spNew K C fs (tupFn Fn) (ws ++ [V.ref p]) (upd H p (.tup rest)) Q E := by
  obtain ⟨D, pn, x, dx, us, ds, n, Qd, R, rfl, sd, ph, dx0, hx, rv, pen, hf, post, ex⟩ := h
  have lz := hz _ _ _ _ _ hf
  refine ⟨[.ref x], us, rfl, rfl, by rw [rvA_len rv]; exact lz, fun p hp => ?_⟩
  have st : StepT K NoW D H (upd D p (.tup us)) (upd H p (.tup us)) := (Step.new sd hp).t
  have npx : p ≠ x := fun z => by rw [z, hx] at hp; cases hp
  have sm : Same D (upd D p (.tup us)) := st.dd
  refine ⟨upd D p (.tup us), pn, x, dx, [.ref p], [.tup ds], n, Qd, R, rfl, st.dh, fun q hq => ⟨upd_ne_none (ph q hq).1, (ph q hq).2⟩, by rw [upd_ne (Ne.symm npx)]; exact dx0, by rw [upd_ne (Ne.symm npx)]; exact hx, .cons (.tup upd_same (rvA_mono sm rv)) .nil, pen.keep st, ⟨ds, rfl, lz, hf⟩, fun D' H' dxe zs es n' s d1 h1 hl rvz pk hq => post D' H' dxe zs es n' ((st.any (W := Wx pn x)).trans s) d1 h1 hl rvz pk hq, ⟨fun D' H' e n d ps s => ex.ok D' H' e n d ps ?_⟩⟩
  have e1 : offX x (upd H p (.tup us)) = upd (offX x H) p (.tup us) := by
    funext b
    by_cases q : b = x
    · rw [q, offX_eq, upd_ne (Ne.symm npx), offX_eq]
    · rw [offX_ne q]
      by_cases q2 : b = p
      · rw [q2, upd_same, upd_same]
      · rw [upd_ne q2, upd_ne q2, offX_ne q]
  have sd2 : Same D (offX x H) := fun b o h => by
    have q : b ≠ x := fun z => by rw [z, dx0] at h; cases h
    rw [offX_ne q]
    exact sd b o h
  have s' : StepT K (Wx pn x) (upd D p (.tup us)) (upd (offX x H) p (.tup us)) D' H' := e1 ▸ s
  exact ((Step.new (o := .tup us) sd2 (by rw [offX_ne npx]; exact hp)).any (W := Wx pn x)).t.trans s'
theorem ok_newV {x qual pv : Str} {params : Arguments} {body : List Stmt} {scope : Scope} {f : Addr} {fd : FuncData} {N : List Str} {k : Nat} {C : Str} {fs : List Str} {Fn : NFn} (F : FunD K x qual params body scope [] [] f fd) (S : FnScope N ([("self" : Str)] ++ [pv]) scope) (hCX : StX.CXUp CX)
    (hb : ∀ (kV doc pm : Value) (an : Option Addr) (cdv ct : Value) (us rest : List Value), us.length = ([("self" : Str)]).length → bindArgs (PySem.W.fnOf x qual params body scope .none kV doc pm an cdv ct) ⟨us ++ rest, []⟩ = (newTuple rest >>= fun t => pure ([("self" : Str)].zip us ++ [(pv, t)])))
    (hz : ∀ pn ds n Q R, Fn pn ds n Q R → ds.length ≤ sizeLine)
    (hbody : ∀ (cdv : Value) (A : Around) (outer : List Env) (s : Shared) (pn : Option Addr) (D H : Hp) (E : XK) (x dx : Addr) (ds : List DV) (n : Nat) (Qd : List DV → Nat → Prop) (R : PR), Room k (A.deeper (envOfC qual scope s.heap.objs.size f cdv)) → D x = none → H x = some (.ins (He.ga K C) dx []) → (∀ p, pn = some p → p ≠ x) → Fn pn ds n Qd R →
      ∃ pp, DSb ⟨K, pn, D, H, E, []⟩ C x (cxOf CX P w K mg base N qual scope f cdv A outer s H E) body pp ∧ pp (endsI fs Qd R) ⟨startP N [.raw (.ref x), .tup ds], n⟩) : FnR P w K mg base CX (k + 1) f (spNew K C fs Fn) := by
  obtain ⟨oc, od, dV, kV, doc, pm, an, cdv, ct, osl, rfl, lk, hcd, hD, _⟩ := F.ex
  obtain rfl : dV = .none := by
    rcases hD with ⟨_, e⟩ | ⟨e, _⟩
    · exact e
    · exact absurd rfl e
  have base0 := StX.fn_star (P := P) (w := w) (mg := mg) (base := base) (k := k) (CX := CX) (sp := spNew K C fs (tupFn Fn)) lk hcd S hCX (fun us rest hl => hb _ _ _ _ _ _ us rest hl) fun A outer s H vs Q E hr h => ?_
  · exact base0.imp fun vs H Q E h => spNew_tup hz h
  · obtain ⟨D, pn, x, dx, us, ds', n, Qd, R, rfl, sd, ph, dx0, hx, rv, pen, ⟨ds, rfl, lz, hf⟩, post, ex⟩ := h
    obtain ⟨pp, dv, hp⟩ := hbody cdv A outer s pn D H E x dx ds n Qd R hr dx0 hx (fun p e => (ph p e).2) hf
    exact ⟨_, dv.run, init_end dv sd ph dx0 hx rv pen post ex hp⟩
end
structure MkS (P : Program) (w : World) (K : PySem.W.Frag) (mg : Str → Option Value) (base : Heap) (CX : CXT) (k : Nat) (x : Str) (C : Addr) (sp : Sp) : Prop where
  ex : ∃ g : Addr, Mk K C g ∧ FnR P w K mg base CX k g sp ∧ mg x = some (.ref C)
section
variable {G : Gx} {X : Cx} {a b c e : Expr} {es : List Expr} {pos p sp_ : Pos} {pa pb pc : PEt} {pl : PAt} {x : Str}
theorem sim_makeR {C : Str} {fs : List Str} {Fn : NFn} {t : TA} (st : SimA G t pl) : SimE G (StX.tMakeR (He.ga G.K C) (spNew G.K C fs Fn) G.E t) (pMake C fs (Fn G.pn) pl) := by
  intro F D σ H ρ Q R k rel hp hx cont
  have z := sim_make (C := C) (fs := fs) (Fn := Fn) st F D σ H ρ Q R k rel hp hx cont
  refine st F D σ H ρ _ R _ rel hp hx fun ds ρ1 D1 vs H1 e1 r1 q1 hp1 => ?_
  intro x dx hx0 hd ne
  have x1 : (upd H1 dx (.own x)) x = none := by rw [upd_ne (Ne.symm ne)]; exact hx0
  have t1 : Step NoW D1 H1 D1 (upd (upd H1 dx (.own x)) x (.ins (He.ga G.K C) dx [])) := (Step.tmp r1.same hd).trans (Step.tmp (Step.tmp (W := NoW) r1.same hd).dh x1)
  have rN : Rel G F D1 σ (upd (upd H1 dx (.own x)) x (.ins (He.ga G.K C) dx [])) ρ1 := r1.stepN t1.t
  have penx : ∀ p, G.pn = some p → p ≠ x := fun p hp e => by
    have := r1.ph p hp
    exact this (r1.st.free (e ▸ hx0))
  refine ⟨D1, G.pn, x, dx, vs, ds, ρ1.ink, _, R, rfl, rN.same, fun p hp => ⟨fun h => r1.ph p hp (rN.st.free h), penx p hp⟩, r1.same.free hx0, upd_same, q1, rN.pen, hp1, ?_, exX_from hx r1.st hx0 hd ne r1.same⟩
  intro D' H' dxe zs es' n' st d1 h1 hl rv pk hq
  refine ⟨rfl, ?_⟩
  have st2 : StepT G.K (Wx G.pn x) D1 H1 D' H' := (t1.any (W := Wx G.pn x)).t.trans st
  have st3 : StepT G.K (Wn G.pn) D1 H1 D' H' := st2.fresh fun b z => z.elim (fun e' => .inr (by rw [e']; exact hx0)) .inl
  have sD : Same D' (upd D' x (.ins (He.ga G.K C) dxe (fs.zip zs))) := same_new d1
  have st4 : StepT G.K (Wn G.pn) D1 H1 (upd D' x (.ins (He.ga G.K C) dxe (fs.zip zs))) H' := st3.settle hx0 h1 d1
  have pk2 : PenOk G.K (upd D' x (.ins (He.ga G.K C) dxe (fs.zip zs))) H' G.pn n' := fun p hp => by
    obtain ⟨o, q, ns, t, g, e1, e2, e3, e4⟩ := pk p hp
    exact ⟨by rw [upd_ne (penx p hp)]; exact o, q, ns, t, g, e1, sD.seq e2, e3, e4⟩
  exact cont _ _ _ _ H' (e1.trans (st3.dd.trans sD)) (r1.step st4 pk2) (.ins upd_same hl (rvA_mono sD rv)) hq
end
end Rg

set_option Elab.async false
set_option linter.all false
set_option maxRecDepth 100000
set_option maxHeartbeats 4000000
namespace Rg
open PySem PySem.Spec PyProof.Rows L2
section
variable {G : Gx} {X : Cx} {e : Expr} {es : List Expr} {p : Pos} {pa : PEt} {pl : PAt}
/-- *e, .. : e a tuple or a list -/
def pStar (pa : PEt) (pl : PAt) : PAt := fun ρ Q R => pa ρ (fun d ρ1 => match d with
  | .node .tup ds => pl ρ1 (fun es ρ2 => Q (ds ++ es) ρ2) R
  | .node .lst ds => pl ρ1 (fun es ρ2 => Q (ds ++ es) ρ2) R
  | _ => False) R
theorem a_star (ha : DE G X e pa) (hl : DA G X es pl) (hs : starEach (.Starred e p :: es) X.env = (true, eval e X.env) :: starEach es X.env := by rfl) (hK : X.K = G.K := by rfl) : DA G X (.Starred e p :: es) (pStar pa pl) := by
  obtain ⟨t, h1, s1⟩ := ha.ex
  obtain ⟨u, h2, s2⟩ := hl.ex
  refine DA.of (StX.pa_star h1 h2 hs) fun F D σ H ρ Q R k rel hp hx cont => ?_
  refine s1 F D σ H ρ _ R _ rel hp hx fun d ρ1 D1 v H1 e1 r1 q1 hp1 => ?_
  split at hp1
  · obtain ⟨a, vs, rfl, h3, h4⟩ := rv_tup q1
    refine ⟨a, vs, rfl, .inl (SqT.of (r1.same _ _ h3)), ?_⟩
    refine s2 F D1 σ H1 ρ1 _ R _ r1 hp1 hx fun ds ρ2 D2 ws H2 e2 r2 q2 hp2 => ?_
    exact cont _ ρ2 D2 _ H2 (e1.trans e2) r2 (rvA_app (rvA_mono e2 h4) q2) hp2
  · obtain ⟨a, vs, rfl, h3, h4⟩ := rv_lst q1
    refine ⟨a, vs, rfl, .inr (SqL.of (r1.same _ _ h3)), ?_⟩
    refine s2 F D1 σ H1 ρ1 _ R _ r1 hp1 hx fun ds ρ2 D2 ws H2 e2 r2 q2 hp2 => ?_
    exact cont _ ρ2 D2 _ H2 (e1.trans e2) r2 (rvA_app (rvA_mono e2 h4) q2) hp2
  · exact hp1.elim
end
end Rg

set_option Elab.async false
set_option linter.all false
set_option maxRecDepth 100000
set_option maxHeartbeats 4000000
namespace StX
open PySem PySem.Spec PyProof.Rows L2
def tStar1 (K : PySem.W.Frag) (te : TE) : TA := fun σ H Q => te σ H fun x H1 => ∃ p xs, x = V.ref p ∧ (SqT K H1 p xs ∨ SqL K H1 p xs) ∧ Q xs H1
section
variable {X : Cx} {CX : CXT} {k i : Nat} {f C : Addr} {sp : Sp} {E : XK} {x : Str} {e : Expr} {te tf : TE} {p sp_ pos : Pos}
/-- x( *e ): what x reads as is the class -/
theorem pe_makeSt (M : Mk X.K C f) (F : FnR X.prog X.w X.K X.mg X.base CX k f sp) (hr : Room (k + 1) X.A) (hf : PE X (.Name x p) tf) (hx : Passes CX X E) (he : PE X e te)
    (hst : starEach [.Starred e sp_] X.env = [(true, eval e X.env)] := by rfl) : PE X (.Call (.Name x p) [.Starred e sp_] [] pos) (fun σ H Q => tf σ H fun y H1 => y = V.ref C ∧ tMakeR C sp E (tStar1 X.K te) σ H1 Q) := by
  refine ⟨fun pins s σ H Q I h => ?_⟩
  refine wpAny_Call_Name_kw (thn (hf.run pins s σ H _ I h) fun u s0 ⟨y0, H0, I0, ry0, ey0, h0⟩ => ?_)
  subst ey0
  obtain rfl : u = Value.ref C := ry0
  refine PySem.W.callWith_S (h₀ := X.base) I0.ok.mod.kin M.kp (thn (he.run pins s0 σ H0 _ I0 h0) fun v s1 ⟨y, H1, I1, ry, a, xs, ey, hxs, q⟩ => ?_) hst
  subst ey
  obtain rfl : v = Value.ref a := ry
  exact star_any I1 hxs fun us s2 I2 rv => ⟨I2.kIn, run_makeR M F hr hx I2 rv q⟩
end
end StX
namespace Rg
open PySem PySem.Spec PyProof.Rows L2
section
variable {G : Gx} {X : Cx} {e : Expr} {p pos sp_ : Pos} {pa : PEt} {x : Str}
def pStar1 (pa : PEt) : PAt := fun ρ Q R => pa ρ (fun d ρ1 => match d with
  | .node .tup ds => Q ds ρ1
  | .node .lst ds => Q ds ρ1
  | _ => False) R
theorem simA_star1 {t : TE} (s1 : SimE G t pa) : SimA G (StX.tStar1 G.K t) (pStar1 pa) := fun F D σ H ρ Q R k rel hp hx cont => by
  refine s1 F D σ H ρ _ R _ rel hp hx fun d ρ1 D1 v H1 e1 r1 q1 hp1 => ?_
  split at hp1
  · obtain ⟨a, vs, rfl, h3, h4⟩ := rv_tup q1
    exact ⟨a, vs, rfl, .inl (SqT.of (r1.same _ _ h3)), cont _ ρ1 D1 _ H1 e1 r1 h4 hp1⟩
  · obtain ⟨a, vs, rfl, h3, h4⟩ := rv_lst q1
    exact ⟨a, vs, rfl, .inr (SqL.of (r1.same _ _ h3)), cont _ ρ1 D1 _ H1 e1 r1 h4 hp1⟩
  · exact hp1.elim
/-- x( *e ), x a name that holds the class (cls of a classmethod) -/
def pMakeCls (i : Nat) (c : Addr) (q : PEt) : PEt := fun ρ Q R => ρ.sl[i]? = some (some (.val (.raw (.ref c)))) ∧ q ρ Q R
theorem d_makeSt {CX : CXT} {i k j : Nat} {y C : Str} {fs : List Str} {Fn : NFn} (c : MkS X.prog X.w X.K X.mg X.base CX k y (He.ga G.K C) (spNew G.K C fs Fn)) (hr : Room j X.A) (hk : k + 1 ≤ j) (hf : PE X (.Name x p) (tVar i)) (hx : Passes CX X G.E) (ha : DE G X e pa)
    (hst : starEach [.Starred e sp_] X.env = [(true, eval e X.env)] := by rfl) (hK : X.K = G.K := by rfl) :
    DE G X (.Call (.Name x p) [.Starred e sp_] [] pos) (pMakeCls i (He.ga G.K C) (pMake C fs (Fn G.pn) (pStar1 pa))) := by
  obtain ⟨g, M, F, hm⟩ := c.ex
  have z := StX.pe_makeSt (p := p) (pos := pos) (sp_ := sp_) M F (hr.mono hk) hf hx ha.run hst
  rw [hK] at z
  refine DE.of z fun F D σ H ρ Q R k rel hp hx cont => ?_
  obtain ⟨h0, hp⟩ := hp
  obtain ⟨w, e0, r0⟩ := rel.get h0
  have ew := rv_raw r0
  subst ew
  exact ⟨_, e0, rfl, sim_makeR (simA_star1 simE_l) F D σ H ρ Q R k rel hp hx cont⟩
end
end Rg

set_option Elab.async false
set_option linter.all false
set_option maxRecDepth 100000
set_option maxHeartbeats 4000000
namespace Rg
open PySem PySem.Spec PyProof.Rows L2
section
variable {G : Gx} {X : Cx} {b o : Expr} {pos : Pos} {pa pb : PEt}
def pDinK (neg : Bool) (pa pb : PEt) : PTt := fun ρ Q R => pb ρ (fun y ρ1 => pa ρ1 (fun d ρ2 => match d with
  | .node (.dct ks) _ => (match keyOf y with
    | some k => Q (hasKey ks k ^^ neg) ρ2
    | none => False)
  | _ => False) R) R
theorem dct_get {K : PySem.W.Frag} {D : Hp} {v w : V} {ks : List Key} {xs : List DV} {y : DV} {k : Key} (h : Rv K D v (.node (.dct ks) xs)) (hy : Rv K D w y) (ek : keyOf y = some k) {H : Hp} (sm : Same D H) : ∃ a o, v = .ref a ∧ DGet H a w o ∧ o.isSome = hasKey ks k := by
  cases h with
  | dct h l r =>
    rename_i a vs
    refine ⟨a, valV (ks.zip vs) k, rfl, ?_, ?_⟩
    · rw [rv_key hy ek]
      exact DGet.k (sm _ _ h)
    · rw [valV_some, List.map_fst_zip (Nat.le_of_eq l)]
theorem t_dnotinK (hu : X.A.units + 1 < cLine) (ha : DE G X o pa) (hb : DE G X b pb) (hm : behindInMarks .NotIn o = false := by rfl) : DT G X (.Compare b [.NotIn] [o] pos) (pDinK true pa pb) := by
  obtain ⟨t, h1, s1⟩ := ha.ex
  obtain ⟨u, h2, s2⟩ := hb.ex
  refine DT.of (pt_cmp (pc_dnotin hu h2 h1) hm) fun F D σ H ρ Q R k rel hp hx cont => ?_
  refine s2 F D σ H ρ _ R _ rel hp hx fun y ρ1 D1 w H1 e1 r1 q1 hp1 => ?_
  refine s1 F D1 σ H1 ρ1 _ R _ r1 hp1 hx fun d ρ2 D2 v H2 e2 r2 q2 hp2 => ?_
  split at hp2
  · split at hp2
    · next kk ek =>
      obtain ⟨a, o, rfl, g, eo⟩ := dct_get q2 (rv_mono e2 q1) ek r2.same
      refine ⟨a, o, rfl, g, _, rfl, ?_⟩
      rw [eo]
      rw [Bool.xor_true] at hp2
      exact cont _ ρ2 D2 H2 (e1.trans e2) r2 hp2
    · exact hp2.elim
  · exact hp2.elim
/-- d[k], d settled -/
def valD : List (Key × DV) → Key → Option DV
  | [], _ => none
  | p :: r, k => if p.1 = k then some p.2 else valD r k
def pDgetK (pa pb : PEt) : PEt := fun ρ Q R => pa ρ (fun d ρ1 => pb ρ1 (fun y ρ2 => match d with
  | .node (.dct ks) ds => (match keyOf y with
    | some k => (match valD (ks.zip ds) k with
      | some z => Q z ρ2
      | none => False)
    | none => False)
  | _ => False) R) R
theorem val_rv {K : PySem.W.Frag} {D : Hp} {k : Key} {z : DV} : ∀ {ks : List Key} {vs : List V} {ds : List DV}, ks.length = vs.length → RvA K D vs ds → valD (ks.zip ds) k = some z → ∃ v, valV (ks.zip vs) k = some v ∧ Rv K D v z
  | [], _, _, _, _, h => by cases h
  | j :: ks, v :: vs, d :: ds, l, .cons r1 r2, h => by
    rw [List.zip_cons_cons] at h
    rw [List.zip_cons_cons]
    unfold valD at h
    have ev : valV ((j, v) :: ks.zip vs) k = if j = k then some v else valV (ks.zip vs) k := by
      unfold valV
      rw [List.find?_cons]
      by_cases e : j = k
      · rw [if_pos e]
        simp [e]
      · rw [if_neg e]
        simp [e]
    rw [ev]
    by_cases e : j = k
    · rw [if_pos e] at h ⊢
      cases h
      exact ⟨v, rfl, r1⟩
    · rw [if_neg e] at h ⊢
      exact val_rv (Nat.succ.inj l) r2 h
theorem d_dgetK (hu : X.A.units + 1 < cLine) (ha : DE G X o pa) (hb : DE G X b pb) (hs : NoSl b := by exact fun _ _ => rfl) : DE G X (.Subscript o b pos) (pDgetK pa pb) := by
  obtain ⟨t, h1, s1⟩ := ha.ex
  obtain ⟨u, h2, s2⟩ := hb.ex
  refine DE.of (pe_dget hu h1 h2 hs) fun F D σ H ρ Q R k rel hp hx cont => ?_
  refine s1 F D σ H ρ _ R _ rel hp hx fun d ρ1 D1 v H1 e1 r1 q1 hp1 => ?_
  refine s2 F D1 σ H1 ρ1 _ R _ r1 hp1 hx fun y ρ2 D2 w H2 e2 r2 q2 hp2 => ?_
  split at hp2
  · split at hp2
    · next kk ek =>
      split at hp2
      · next z ez =>
        have q3 := rv_mono e2 q1
        cases q3 with
        | dct h l r =>
          obtain ⟨v, e3, r3⟩ := val_rv l r ez
          refine ⟨_, v, rfl, ?_, cont _ ρ2 D2 _ H2 (e1.trans e2) r2 r3 hp2⟩
          rw [rv_key q2 ek, ← e3]
          exact DGet.k (r2.same _ _ h)
      · exact hp2.elim
    · exact hp2.elim
  · exact hp2.elim
end
end Rg

set_option Elab.async false
set_option linter.all false
set_option maxRecDepth 100000
set_option maxHeartbeats 4000000
namespace Rg
open PySem PySem.Spec PyProof.Rows L2
/-- the tuples handed out so far -/
structure ZG (Pa Pb : Nat → Value → Prop) (lo : Addr) (h : Heap) (as : List Addr) : Prop where
  rise : as.Pairwise (· < ·)
  above : ∀ a ∈ as, lo < a
  pairs : ∀ (j : Nat) (a : Addr), as[j]? = some a → ∃ x y, Pa j x ∧ Pb j y ∧ IsTupOf2 h a x y
theorem ZG.there {Pa Pb : Nat → Value → Prop} {lo : Addr} {h : Heap} {as : List Addr} (g : ZG Pa Pb lo h as) {a : Addr} (ha : a ∈ as) : a < h.objs.size := by
  obtain ⟨j, hj⟩ := List.mem_iff_getElem?.mp ha
  obtain ⟨_, _, _, _, e⟩ := g.pairs j a hj
  exact Heap.lt_size e
section
variable {P : Program} {w : World} {A : Around} {E : Value → Shared → Prop} {s : Shared} {z ti to i1 i2 S : Addr} {fa fb : List Addr} {na nb : Nat} {Pa Pb : Nat → Value → Prop} {Sa Sb : Nat → Heap → Prop}
theorem ZSt.keep {h h' : Heap} (x : ZSt h z ti to i1 i2) (k : ∀ b o, b ≠ S → h.get? b = some o → h'.get? b = some o) (nz : z ≠ S) (ni : ti ≠ S) (no : to ≠ S) : ZSt h' z ti to i1 i2 := by
  obtain ⟨⟨f0, b, ho, hf⟩, hi, p, q, hown⟩ := x
  exact ⟨⟨f0, b, k z _ nz ho, hf⟩, k ti _ ni hi, p, q, k to _ no hown⟩
end
section
variable {X : Cx} {a b : Expr} {ta : TA} {p p2 q pos : Pos}
end
section
variable {G : Gx} {X : Cx} {a b : Expr} {pl : PAt} {p p2 q pos : Pos}
end
end Rg

set_option Elab.async false
set_option linter.all false
set_option maxRecDepth 100000
set_option maxHeartbeats 4000000
namespace Rg
open PySem PySem.Spec PyProof.Rows L2
section
variable {G : Gx} {X : Cx} {a b c e : Expr} {es : List Expr} {pos p : Pos} {pa pb pc : PEt} {pl : PAt} {x : Str}
end
end Rg

set_option Elab.async false
set_option linter.all false
set_option maxRecDepth 100000
set_option maxHeartbeats 4000000
namespace Rg
open PySem PySem.Spec PyProof.Rows L2
structure DRc (CX : CXT) (G : Gx) (X : Cx) (e : Expr) (p : PRt) : Prop where
  run : ∀ (E : L2.St → XK), (∀ σ, PassesAt CX X σ (E σ)) → PE X e (lR G E p)
theorem DRc.dr {G : Gx} {X : Cx} {e : Expr} {p : PRt} (h : DRc (L2.CX X.prog X.w) G X e p) : DR G X e p := ⟨h.run⟩
section
variable {CX : CXT} {G : Gx} {X : Cx} {a b c e : Expr} {es : List Expr} {kws : List Keyword} {pos p0 : Pos} {pl pk : PAt} {p : PRt} {x : Str} {n : Nat} {ks : List Str}
end
end Rg

set_option Elab.async false
set_option linter.all false
set_option maxRecDepth 100000
set_option maxHeartbeats 4000000
namespace Rg
open PySem PySem.Spec PyProof.Rows L2
section
variable {CX : CXT} {G : Gx} {X : Cx} {a b c e : Expr} {es : List Expr} {pos p pos2 : Pos} {pl : PAt} {x : Str}
end
section
variable {P : Program} {w : World} {K : PySem.W.Frag} {mg : Str → Option Value} {base : Heap} {CX : CXT} {x qual : Str} {params : Arguments} {body : List Stmt} {scope : Scope} {dvs : List V} {kws : List (Str × V)} {f : Addr} {fd : FuncData} {N ps : List Str} {k : Nat} {sp : Sp}
end
end Rg

set_option Elab.async false
set_option linter.all false
set_option maxRecDepth 100000
set_option maxHeartbeats 4000000
namespace Rg
open PySem PySem.Spec PyProof.Rows L2
section
variable {G : Gx} {X : Cx} {a b c e o : Expr} {es : List Expr} {kws : List Keyword} {pos p apos : Pos} {pa pb pc : PEt} {pl pk : PAt} {x : Str} {n : Nat} {ks : List Str}
structure OwnTy (K : PySem.W.Frag) (C : Str) : Prop where
  ins : InsTy K (He.ga K C)
  self : PySem.W.kitOne K (.ref (He.ga K C)) (.ref (He.ga K C)) = some true
  oth : (tyNames.all fun n => decide (PySem.W.kitOne K (.type n) (.ref (He.ga K C)) = some false)) = true
def oIsiC (K : PySem.W.Frag) (C : Str) : ON := fun ds Q => match ds with
  | [d, .raw (.ref A)] => A = He.ga K C ∧ ((isC C d = true ∧ Q (.bl true)) ∨ ((tyName d).isSome = true ∧ Q (.bl false)))
  | _ => False
theorem c_isiC {C : Str} (h : OwnTy G.K C) (hK : X.K = G.K := by rfl) : CallD G X (.builtin "isinstance") (oIsiC G.K C) := by
  refine ⟨_, call_isY, fun F D σ H ρ vs ds Q k rel rv ho cont => ?_⟩
  unfold oIsiC at ho
  split at ho
  · next d A =>
    obtain ⟨rfl, ho⟩ := ho
    obtain ⟨y, cv, rfl, ra, rc⟩ := rvA2 rv
    cases rv_raw rc
    rw [hK]
    rcases ho with ⟨hC, q⟩ | ⟨hT, q⟩
    · obtain ⟨fs, zs, rfl⟩ : ∃ fs zs, d = .node (.ins C fs) zs := by
        unfold isC at hC
        split at hC
        · next C' fs zs =>
          obtain rfl : C' = C := of_decide_eq_true hC
          exact ⟨fs, zs, rfl⟩
        · cases hC
      exact ⟨y, _, _, _, true, rfl, .own _, .base (h.ins.ty rel.same ra), h.self, cont _ _ D H (Same.refl D) rel (.bl _) q⟩
    · obtain ⟨t, e3⟩ := Option.isSome_iff_exists.mp hT
      exact ⟨y, _, _, _, false, rfl, .own _, .base (rv_ty ra rel.same e3), of_decide_eq_true (List.all_eq_true.mp h.oth _ (tyName_in e3)), cont _ _ D H (Same.refl D) rel (.bl _) q⟩
  · exact ho.elim
def pListF (pl : PAt) : PAt := fun ρ Q R => pl ρ (fun ds ρ1 => match ds with
  | [.node .lst xs] => Q xs ρ1
  | [.node .tup xs] => Q xs ρ1
  | _ => False) R
theorem f_list (hg : Gl X "list") (hm : X.mg "list" = none) (ha : DA G X (e :: es) pl) (hK : X.K = G.K := by rfl)
    (he : starEach (e :: es) X.env = (false, eval e X.env) :: starEach es X.env := by rfl) (hpl : (backTo pos (starEach es X.env)).any (·.1) = false := by rfl) : DF G X (.Call (.Name "list" p) (e :: es) [] pos) (pListF pl) := by
  refine DF.of (pe_callTy (call_list_ofK G.K hK) hg hm (by decide +kernel) ha.run (by decide) (by decide) he hpl) fun F D σ H ρ Q R k rel hp hx cont => ?_
  refine simA_l F D σ H ρ _ R _ rel hp hx fun ds ρ1 D1 vs H1 e1 r1 q1 hp1 => ?_
  split at hp1
  · obtain ⟨v, rfl, r⟩ := rvA1 q1
    obtain ⟨p, vs, rfl, h1, h2⟩ := rv_lst r
    exact ⟨p, vs, rfl, .inl (SqL.of (r1.same _ _ h1)), fun l hl => cont _ _ D1 _ _ l e1 (r1.push hl) (r1.fresh hl) h2 hp1⟩
  · obtain ⟨v, rfl, r⟩ := rvA1 q1
    obtain ⟨p, vs, rfl, h1, h2⟩ := rv_tup r
    exact ⟨p, vs, rfl, .inr (SqT.of (r1.same _ _ h1)), fun l hl => cont _ _ D1 _ _ l e1 (r1.push hl) (r1.fresh hl) h2 hp1⟩
  · exact hp1.elim
end
end Rg

set_option Elab.async false
set_option linter.all false
set_option maxRecDepth 100000
set_option maxHeartbeats 4000000
namespace Rg
open PySem PySem.Spec PyProof.Rows L2
section
variable {P : Program} {w : World} {A : Around} {E : Value → Shared → Prop} {s : Shared}
end
section
variable {G : Gx} {X : Cx} {a b c e : Expr} {lo hi : Option Expr} {pos p2 : Pos} {pa pb pc : PEt} {pl ph : PPt}
end
section
variable {G : Gx} {X : Cx} {c : Expr} {sts sts2 : List Stmt} {pos : Pos} {pt : PTt} {p q : PSr}
end
end Rg

set_option Elab.async false
set_option linter.all false
set_option maxRecDepth 100000
set_option maxHeartbeats 4000000
namespace Rg
open PySem PySem.Spec PyProof.Rows L2
section
variable {X : Cx} {o : Expr} {to : TE} {f : Str} {pos : Pos}
end
abbrev JS := List (Str × DV)
def FldJ (K : PySem.W.Frag) (D : Hp) : List (Str × V) → JS → Prop := Paired fun p q => p.1 = q.1 ∧ Rv K D p.2 q.2
theorem fldJ_mono {K : PySem.W.Frag} {D D' : Hp} (e : Same D D') : ∀ {ps : List (Str × V)} {fs : JS}, FldJ K D ps fs → FldJ K D' ps fs
  | _, _, .nil => .nil
  | _, _, .cons h r => .cons ⟨h.1, rv_mono e h.2⟩ (fldJ_mono e r)
theorem fldJ_names {K : PySem.W.Frag} {D : Hp} : ∀ {ps : List (Str × V)} {fs : JS}, FldJ K D ps fs → ps.map (·.1) = fs.map (·.1)
  | _, _, .nil => rfl
  | _, _, .cons h r => by rw [List.map_cons, List.map_cons, h.1, fldJ_names r]
theorem fldJ_vals {K : PySem.W.Frag} {D : Hp} : ∀ {ps : List (Str × V)} {fs : JS}, FldJ K D ps fs → RvA K D (ps.map (·.2)) (fs.map (·.2))
  | _, _, .nil => .nil
  | _, _, .cons h r => .cons h.2 (fldJ_vals r)
theorem fldJ_app {K : PySem.W.Frag} {D : Hp} {f : Str} {v : V} {d : DV} (h : Rv K D v d) : ∀ {ps : List (Str × V)} {fs : JS}, FldJ K D ps fs → FldJ K D (ps ++ [(f, v)]) (fs ++ [(f, d)])
  | _, _, .nil => .cons ⟨rfl, h⟩ .nil
  | _, _, .cons g r => .cons g (fldJ_app h r)
theorem fldJ_int {K : PySem.W.Frag} {D : Hp} {f : Str} {i : Int} : ∀ {ps : List (Str × V)} {fs : JS}, FldJ K D ps fs → fs.lookup f = some (.int i) → ps.lookup f = some (.int i)
  | _, _, .nil, e => nomatch e
  | (g, v) :: ps, (g2, o) :: fs, .cons h r, e => by
    obtain ⟨h1, h2⟩ := h
    have h1 : g = g2 := h1
    subst h1
    by_cases q : f = g
    · subst q
      rw [List.lookup_cons_self] at e ⊢
      cases e
      rw [show v = V.int i from rv_int h2]
    · have b : (f == g) = false := beq_eq_false_iff_ne.mpr q
      rw [List.lookup_cons, b] at e ⊢
      exact fldJ_int r e
abbrev frmJ (K : PySem.W.Frag) (C : Str) (x dx : Addr) (ps : List (Str × V)) : List (Addr × HO) := [(x, .ins (He.ga K C) dx ps)]
def RelJ (G : Gx) (C : Str) (x : Addr) (fs : JS) (D : Hp) (σ : L2.St) (H : Hp) (ρ : Ps) : Prop := ∃ (dx : Addr) (ps : List (Str × V)), Rel (Gf G x (frmJ G.K C x dx ps)) [] D σ H ρ ∧ FldJ G.K D ps fs
structure PJEnds where
  nx : Ps → JS → Prop
  rs : PR
abbrev PJt := PJEnds → Ps → JS → Prop
def JLk (G : Gx) (C : Str) (x : Addr) (D0 : Hp) (p : Ps → JS → Prop) (t : L2.St → Hp → Prop) : Prop := ∀ D σ H ρ fs, Same D0 D → RelJ G C x fs D σ H ρ → p ρ fs → t σ H
theorem JLk.up {G : Gx} {C : Str} {x : Addr} {D0 D1 : Hp} {p : Ps → JS → Prop} {t : L2.St → Hp → Prop} (h : JLk G C x D0 p t) (s : Same D0 D1) : JLk G C x D1 p t := fun D σ H ρ W e => h D σ H ρ W (s.trans e)
def lSj (G : Gx) (C : Str) (x : Addr) (p : PJt) : TS := fun E σ H => ∃ (D : Hp) (ρ : Ps) (fs : JS) (Ep : PJEnds), RelJ G C x fs D σ H ρ ∧ p Ep ρ fs ∧ JLk G C x D Ep.nx E.nx ∧ ExOkX x G Ep.rs
structure DSj (G : Gx) (C : Str) (x : Addr) (X : Cx) (st : Stmt) (p : PJt) : Prop where
  run : PS X st (lSj G C x p)
structure DSsj (G : Gx) (C : Str) (x : Addr) (X : Cx) (sts : List Stmt) (p : PJt) : Prop where
  run : PSs X sts (lSj G C x p)
section
variable {G : Gx} {C : Str} {x : Addr} {X : Cx} {v e : Expr} {st : Stmt} {sts : List Stmt} {p q : PJt} {pos p1 p2 p3 : Pos} {s f y : Str} {i : Nat}
def pJNil : PJt := fun E ρ fs => E.nx ρ fs
def pJSeq (p q : PJt) : PJt := fun E ρ fs => p { E with nx := q E } ρ fs
theorem j_nil : DSsj G C x X [] pJNil := ⟨⟨fun pins s σ H E I ⟨D, ρ, W, Ep, rel, hp, ok, hx⟩ => pss_nil.run pins s σ H E I (ok D σ H ρ W (Same.refl D) rel hp)⟩⟩
theorem j_cons (h : DSj G C x X st p) (h2 : DSsj G C x X sts q) : DSsj G C x X (st :: sts) (pJSeq p q) := ⟨⟨fun pins s σ H E I ⟨D, ρ, W, Ep, rel, hp, ok, hx⟩ => (pss_cons h.run h2.run).run pins s σ H E I
  ⟨D, ρ, W, { Ep with nx := q Ep }, rel, hp, fun D' σ' H' ρ' W' sm rel' h' => ⟨D', ρ', W', Ep, rel', h', ok.up sm, hx⟩, hx⟩⟩⟩
/-- self.g = v -/
def pJSt (x : Addr) (g : Str) (pv : JS → Addr → List (Str × V) → PEt) : PJt := fun E ρ fs => ∀ dx ps, pv fs dx ps ρ (fun d ρ1 => slSelf x ρ1 ∧ g ∉ fs.map (·.1) ∧ fs.length < 900 ∧ E.nx ρ1 (fs ++ [(g, d)])) E.rs
theorem j_store {g : Str} {pv : JS → Addr → List (Str × V) → PEt} (c : Cls X.K (He.ga G.K C)) (n : NoAttr X.K (He.ga G.K C) g) (hs : PE X (.Name s p1) (tVar 0)) (hv : ∀ fs dx ps, (∀ f i, fs.lookup f = some (.int i) → ps.lookup f = some (.int i)) → DE (Gf G x (frmJ G.K C x dx ps)) X v (pv fs dx ps))
    (hsw : swapsWith v (some (.Attribute (.Name s p1) g p2)) pos.line X.env = pure false := by rfl) (hK : X.K = G.K := by rfl) : DSj G C x X (.Assign [.Attribute (.Name s p1) g p2] v pos) (pJSt x g pv) := by
  refine ⟨⟨fun pins sh σ H E I ⟨D, ρ, W, Ep, ⟨dx, ps, rel, fl⟩, hp, ok, hx⟩ => ?_⟩⟩
  refine (ps_fld hs (hv W dx ps (fun f i h => fldJ_int fl h)).run hsw).run pins sh σ H E I ?_
  refine simE_l [] D σ H ρ _ Ep.rs _ rel (hp dx ps) (exI hx) fun d ρ1 D1 u H1 e1 r1 q1 hp1 => ?_
  obtain ⟨hself, ng, hl, hp1⟩ := hp1
  have f1 := (r1.fr (x, .ins (He.ga G.K C) dx ps) (List.mem_append_right _ List.mem_cons_self)).1
  have nm := fldJ_names fl
  have pl : ps.length = W.length := by
    have := congrArg List.length nm
    rwa [List.length_map, List.length_map] at this
  refine ⟨_, self_at r1 hself, x, He.ga G.K C, dx, ps, rfl, f1, c, n, by omega, ?_⟩
  rw [putF_new (by rw [nm]; exact ng)]
  have r3 : RelB (Gf G x (frmJ G.K C x dx ps)) [(x, .ins (He.ga G.K C) dx (ps ++ [(g, u)]))] D1 σ (upd H1 x (.ins (He.ga G.K C) dx (ps ++ [(g, u)]))) ρ1 := RelB.poke r1 (fun z => nomatch z)
  exact ok D1 σ _ ρ1 (W ++ [(g, d)]) e1 ⟨dx, ps ++ [(g, u)], ⟨r3.st, r3.sl, r3.fr, r3.pen, r3.ph, r3.nt⟩, fldJ_app q1 (fldJ_mono e1 fl)⟩ hp1
end
structure DSk (G : Gx) (C : Str) (x : Addr) (X : Cx) (sts : List Stmt) (p : PJEnds → Ps → Prop) : Prop where
  run : PSs X sts (fun E σ H => ∃ (D : Hp) (ρ : Ps) (Ep : PJEnds), Rel G [] D σ H ρ ∧ p Ep ρ ∧ JLk G C x D Ep.nx E.nx ∧ ExOkX x G Ep.rs)
section
variable {G : Gx} {C : Str} {x dx : Addr} {X : Cx} {st : Stmt} {sts : List Stmt} {p : PSt} {q : PJt} {qb : PJEnds → Ps → Prop}
def pKTail (q : PJt) : PJEnds → Ps → Prop := fun E ρ => q E ρ []
theorem k_tail (hfr : G.fr = []) (h0 : G.H0 x = some (.ins (He.ga G.K C) dx [])) (d0 : G.D0 x = none) (np : ∀ p, G.pn = some p → p ≠ x) (h2 : DSsj G C x X sts q) : DSk G C x X sts (pKTail q) := by
  refine ⟨⟨fun pins sh σ H E I ⟨D, ρ, Ep, rel, hq, ok, hx⟩ => h2.run.run pins sh σ H E I ?_⟩⟩
  have n0 : G.H0 x ≠ none := by rw [h0]; exact fun z => nomatch z
  have hx1 : H x = some (.ins (He.ga G.K C) dx []) := rel.st.kq x _ (fun e => np x e rfl) True.intro h0
  have dx1 : D x = none := rel.st.fr x n0 d0
  have r1 : RelB G [] D σ H ρ := by
    have r : RelB G ([] ++ G.fr) D σ H ρ := rel
    rw [hfr] at r
    exact r
  have r2 := r1.grab n0 hx1 dx1 np
  exact ⟨D, ρ, [], Ep, ⟨dx, [], ⟨r2.st, r2.sl, r2.fr, r2.pen, r2.ph, r2.nt⟩, .nil⟩, hq, ok, hx⟩
end
def endsJ (fs : List Str) (Qd : List DV → Nat → Prop) (R : PR) : PJEnds := { nx := fun ρ W => W.map (·.1) = fs ∧ Qd (W.map (·.2)) ρ.ink, rs := R }
section
variable {P : Program} {w : World} {K : PySem.W.Frag} {mg : Str → Option Value} {base : Heap}
variable {CX : CXT} {x qual : Str} {params : Arguments} {body : List Stmt} {scope : Scope} {dvs : List V} {kws : List (Str × V)} {f : Addr} {fd : FuncData} {N ps : List Str} {k : Nat}
theorem ok_newJ {C : Str} {fs : List Str} {Fn : NFn} (F : FunD K x qual params body scope dvs kws f fd) (S : FnScope N ps scope)
    (len : ∀ pn ds n Q R, Fn pn ds n Q R → ds.length + 1 = ps.length)
    (hbody : ∀ (cdv : Value) (A : Around) (outer : List Env) (s : Shared) (pn : Option Addr) (D H : Hp) (E : XK) (x dx : Addr) (ds : List DV) (n : Nat) (Qd : List DV → Nat → Prop) (R : PR), Room k (A.deeper (envOfC qual scope s.heap.objs.size f cdv)) → Fn pn ds n Qd R → H x = some (.ins (He.ga K C) dx []) → D x = none → (∀ p, pn = some p → p ≠ x) →
      ∃ pp, DSk ⟨K, pn, D, H, E, []⟩ C x (cxOf CX P w K mg base N qual scope f cdv A outer s H E) body pp ∧ pp (endsJ fs Qd R) ⟨startP N (.raw (.ref x) :: ds), n⟩) : FnOk P w K mg base CX (k + 1) f fd ps (spNew K C fs Fn) := by
  refine F.ok S (fun vs H Q E h => ?_) (fun cdv A outer s H vs Q E hr h => ?_)
  · obtain ⟨D, pn, x, dx, us, ds, n, Qd, R, rfl, _, _, _, _, rv, _, hf, _⟩ := h
    rw [List.length_cons, rvA_len rv]
    exact len _ _ _ _ _ hf
  · obtain ⟨D, pn, x, dx, us, ds, n, Qd, R, rfl, sd, ph, dx0, hx, rv, pen, hf, post, ex⟩ := h
    obtain ⟨pp, dv, hp⟩ := hbody cdv A outer s pn D H E x dx ds n Qd R hr hf hx dx0 (fun p e => (ph p e).2)
    refine ⟨_, dv.run, D, _, endsJ fs Qd R, rel_start sd (fun p e => (ph p e).1) (.cons (.raw _) rv) pen, hp, ?_, ex⟩
    rintro D1 σ1 H1 ρ1 W sm ⟨dx', ps, rel, fl⟩ ⟨hn, hq⟩
    have f1 := rel.fr (x, .ins (He.ga K C) dx' ps) List.mem_cons_self
    have hx1 : H1 x = some (.ins (He.ga K C) dx' ps) := f1.1
    have st := stepX_off (pn := pn) rel.st (by rw [hx1]; exact fun z => nomatch z) f1.2.1
    have nm := fldJ_names fl
    refine post _ H1 dx' (ps.map (·.2)) (W.map (·.2)) ρ1.ink st f1.2.1 ?_ ?_ (fldJ_vals fl) rel.pen hq
    · rw [hx1, ← hn, ← nm, zip_self]
    · rw [← hn, ← nm, List.length_map, List.length_map]
end
end Rg

set_option Elab.async false
set_option linter.all false
set_option maxRecDepth 100000
set_option maxHeartbeats 4000000
namespace Rg
open PySem PySem.Spec PyProof.Rows L2
structure CalD (P : Program) (w : World) (K : PySem.W.Frag) (mg : Str → Option Value) (base : Heap) (CX : CXT) (k : Nat) (x : Str) (dd : List DV) (sp : Sp) : Prop where
  ex : ∃ (f : Addr) (fd : FuncData) (ps : List Str) (ds : List Value) (dvs : List V), FnOk P w K mg base CX k f fd ps sp ∧ mg x = some (.ref f) ∧ PySem.W.keepIn K (.ref f) = true ∧ Binds K fd ps ds ∧ Vals dvs ds ∧ ∀ D, RvA K D dvs dd
structure MetD (P : Program) (w : World) (K : PySem.W.Frag) (mg : Str → Option Value) (base : Heap) (CX : CXT) (k : Nat) (C : Addr) (m : Str) (dd : List DV) (sp : Sp) : Prop where
  ex : ∃ (f : Addr) (fd : FuncData) (ps : List Str) (ds : List Value) (dvs : List V), Meth K C m f ∧ FnOk P w K mg base CX k f fd ps sp ∧ Binds K fd ps ds ∧ Vals dvs ds ∧ ∀ D, RvA K D dvs dd
section
variable {G : Gx} {X : Cx} {a b c e : Expr} {es : List Expr} {pos p : Pos} {pa pb pc : PEt} {pl : PAt} {x : Str} {dd : List DV}
end
theorem CalD.calm {P : Program} {w : World} {K : PySem.W.Frag} {mg : Str → Option Value} {base : Heap} {k : Nat} {x : Str} {dd : List DV} {Fn : PFn} (c : CalD P w K mg base (L2.CX P w) k x dd (spP K Fn)) : CalD P w K mg base CX0 k x dd (spP K (calmF Fn)) := by
  obtain ⟨f, fd, ps, ds, dvs, F, r⟩ := c.ex
  exact ⟨f, fd, ps, ds, dvs, FnOk.calm F, r⟩
theorem MetD.calm {P : Program} {w : World} {K : PySem.W.Frag} {mg : Str → Option Value} {base : Heap} {k : Nat} {C : Addr} {m : Str} {dd : List DV} {Fn : PFn} (c : MetD P w K mg base (L2.CX P w) k C m dd (spP K Fn)) : MetD P w K mg base CX0 k C m dd (spP K (calmF Fn)) := by
  obtain ⟨f, fd, ps, ds, dvs, h, F, r⟩ := c.ex
  exact ⟨f, fd, ps, ds, dvs, h, FnOk.calm F, r⟩
end Rg

set_option Elab.async false
set_option linter.all false
set_option maxRecDepth 100000
set_option maxHeartbeats 4000000
namespace Rg
open PySem PySem.Spec PyProof.Rows L2
section
variable {G : Gx} {X : Cx} {a b c e tg : Expr} {pos : Pos} {pa pb pc : PEt}
end
/-- without what lies at a -/
def ers (D : Hp) (a : Addr) : Hp := fun b => if b = a then none else D b
theorem ers_ne {D : Hp} {a b : Addr} (h : b ≠ a) : ers D a b = D b := if_neg h
theorem ers_at {D : Hp} {a : Addr} : ers D a a = none := if_pos rfl
section
variable {G : Gx} {X : Cx}
end
end Rg

set_option Elab.async false
set_option linter.all false
set_option maxRecDepth 100000
set_option maxHeartbeats 4000000
namespace Rg
open PySem PySem.Spec PyProof.Rows L2
section
variable {P : Program} {w : World} {A : Around}
end
section
variable {G : Gx} {X : Cx} {a e : Expr} {pos : Pos} {pa : PEt}
end
section
variable {G : Gx} {X : Cx} {a tg : Expr} {pos : Pos}
end
section
variable {G : Gx} {X : Cx} {a tg : Expr} {pos : Pos}
end
structure KFn (P : Program) (w : World) (K : PySem.W.Frag) (mg : Str → Option Value) (base : Heap) (CX : CXT) (k : Nat) (x : Str) (n : Nat) (ks : List Str) (gV : List V → List V → List V) (sp : Sp) : Prop where
  ex : ∃ (f : Addr) (fd : FuncData) (ps : List Str) (g : List Value → List Value → List Value), mg x = some (.ref f) ∧ PySem.W.keepIn K (.ref f) = true ∧ FnOk P w K mg base CX k f fd ps sp ∧ KBn K fd ps n ks g gV
theorem KFn.calm {P : Program} {w : World} {K : PySem.W.Frag} {mg : Str → Option Value} {base : Heap} {k n : Nat} {x : Str} {ks : List Str} {gV : List V → List V → List V} {Fn : PFn} (c : KFn P w K mg base (L2.CX P w) k x n ks gV (spP K Fn)) : KFn P w K mg base CX0 k x n ks gV (spP K (calmF Fn)) := by
  obtain ⟨f, fd, ps, g, h1, h2, F, b⟩ := c.ex
  exact ⟨f, fd, ps, g, h1, h2, FnOk.calm F, b⟩
section
variable {G : Gx} {X : Cx} {e : Expr} {es : List Expr} {kws : List Keyword} {pos p : Pos} {pl pk : PAt} {x : Str} {n : Nat} {ks : List Str} {gV : List V → List V → List V} {gD : List DV → List DV → List DV}
end
end Rg

set_option Elab.async false
set_option linter.all false
set_option maxRecDepth 100000
set_option maxHeartbeats 4000000
namespace Rg
open PySem PySem.Spec PyProof.Rows L2
section
variable {G : Gx} {X : Cx} {pos p : Pos} {x : Str}
end
end Rg

set_option Elab.async false
set_option linter.all false
set_option maxRecDepth 100000
set_option maxHeartbeats 4000000
namespace Rg
open PySem PySem.Spec PyProof.Rows L2
section
variable {G : Gx} {X : Cx} {a b c e o : Expr} {es : List Expr} {pos p apos : Pos} {pa pb pc : PEt} {pl pk : PAt} {x : Str}
end
section
variable {X : Cx} {e : Expr} {te : TE} {p q pos mpos apos : Pos}
end
section
variable {G : Gx} {X : Cx} {e : Expr} {pa : PEt} {p mpos apos pos : Pos}
/-- no reference -/
def flatD : DV → Bool
  | .int _ => true
  | .str _ => true
  | .bl _ => true
  | .non => true
  | _ => false
theorem rv_flat {K : PySem.W.Frag} {D D' : Hp} {v : V} {d : DV} (h : flatD d = true) (r : Rv K D v d) : Rv K D' v d := by
  cases d with
  | int i => rw [rv_int r]; exact .int i
  | str i => rw [rv_str r]; exact .str i
  | bl i => rw [rv_bl r]; exact .bl i
  | non => cases r; exact .non
  | raw v => cases h
  | node t xs => cases h
theorem rvP_flat {K : PySem.W.Frag} {D D' : Hp} {κ : Type} : ∀ {ps : List (κ × V)} {qs : List (κ × DV)}, (qs.all fun q => flatD q.2) = true → RvP K D ps qs → RvP K D' ps qs
  | _, _, _, .nil => .nil
  | _, _, h, .cons a b => by
    rw [List.all_cons, Bool.and_eq_true] at h
    exact .cons ⟨a.1, rv_flat h.1 a.2⟩ (rvP_flat h.2 b)
/-- what may stand in the other slots meanwhile -/
def lendOk : Option SV → Bool
  | none => true
  | some (.val _) => true
  | some (.dK kvs) => kvs.all fun q => flatD q.2
  | _ => false
theorem rs_lend {K : PySem.W.Frag} {D H D3 H2 H0 : Hp} {Fa : List Addr} (sd : Same D D3) : ∀ {σ : L2.St} {sl : Sl} {as : List Addr}, Rs K D H H0 Fa σ sl as →
    (∀ (j : Nat) (a : Addr) (s : SV), σ[j]? = some (some (.ref a)) → sl[j]? = some (some s) → (∀ d, s ≠ .val d) → Ob K D3 H2 a s ∧ D3 a = none) → Rs K D3 H2 H0 Fa σ sl as
  | _, _, _, .nil, _ => .nil
  | _, _, _, .no r, h => .no (rs_lend sd r fun j a s e1 e2 => h (j + 1) a s (by simpa using e1) (by simpa using e2))
  | _, _, _, .val rv r, h => .val (rv_mono sd rv) (rs_lend sd r fun j a s e1 e2 => h (j + 1) a s (by simpa using e1) (by simpa using e2))
  | _, _, _, @Rs.own _ _ _ _ _ a s _ _ _ ob d0 h0 na r, h => by
    have nv : ∀ d, s ≠ .val d := fun d e => by subst e; exact ob
    obtain ⟨o1, o2⟩ := h 0 a s rfl rfl nv
    exact .own o1 o2 h0 na (rs_lend sd r fun j a s e1 e2 => h (j + 1) a s (by simpa using e1) (by simpa using e2))
theorem lendOk_at {sl : Sl} {i : Nat} (h : (sl.set i none).all lendOk = true) {j : Nat} {s : SV} (q : j ≠ i) (e : sl[j]? = some (some s)) : lendOk (some s) = true := by
  have e2 : (sl.set i none)[j]? = some (some s) := by rw [List.getElem?_set_ne (Ne.symm q)]; exact e
  exact List.all_eq_true.mp h _ (List.mem_of_getElem? e2)
end
end Rg

set_option Elab.async false
set_option linter.all false
set_option maxRecDepth 100000
set_option maxHeartbeats 4000000
namespace Rg
open PySem PySem.Spec PyProof.Rows L2
def Dct0 (h : Heap) (a : Addr) : Prop := ∃ o ep, h.get? a = some o ∧ o.ExactDict ∧ o.data = .dict #[] ep
theorem Dct0.of {P : Program} {w : World} {h : Heap} {a : Addr} {κ : Type} [DecidableEq κ] {knd : KeyKind P w κ} (x : Dct0 h a) : h.DictOf knd a [] := by
  obtain ⟨o, ep, h1, h2, h3⟩ := x
  exact ⟨o, #[], ep, h1, h2, h3, fun e he => by simp at he, .nil, List.nodup_nil⟩
section
variable {G : Gx} {X : Cx}
end
theorem CmX.calm {P : Program} {w : World} {K : PySem.W.Frag} {mg : Str → Option Value} {base : Heap} {k : Nat} {C : Addr} {m : Str} {Fn : PFn} (c : CmX P w K mg base (L2.CX P w) k C m (spP K Fn)) : CmX P w K mg base CX0 k C m (spP K (calmF Fn)) := by
  obtain ⟨q, g, r, cm, F⟩ := c.ex
  refine ⟨q, g, r, cm, fun A outer s H us vs Q E hr e0 rv hs => codeAny_mono (F A outer s H us vs Q _ hr e0 rv (calm_sp hs)) fun r s' hq => ?_⟩
  cases r with
  | error e => exact (calm_cx hq).elim
  | ok fl => cases fl <;> exact hq
end Rg

set_option Elab.async false
set_option linter.all false
set_option maxRecDepth 100000
set_option maxHeartbeats 4000000
namespace Rg
open PySem PySem.Spec PyProof.Rows L2
section
variable {G : Gx} {X : Cx} {b o : Expr} {pos : Pos} {pa pb : PEt}
end
end Rg

set_option Elab.async false
set_option linter.all false
set_option maxRecDepth 100000
set_option maxHeartbeats 4000000
namespace Rg
open PySem PySem.Spec PyProof.Rows L2
section
variable {G : Gx} {X : Cx} {a : Expr} {pos : Pos} {pa : PEt}
end
end Rg

set_option Elab.async false
set_option linter.all false
set_option maxRecDepth 100000
set_option maxHeartbeats 4000000
namespace Rg
open PySem PySem.Spec PyProof.Rows L2
section
variable {G : Gx} {X : Cx}
end
end Rg

set_option Elab.async false
set_option linter.all false
set_option maxRecDepth 100000
set_option maxHeartbeats 4000000
namespace Rg
open PySem PySem.Spec PyProof.Rows L2
def causeAt (h : Heap) (a a2 : Addr) : Heap := (h.update a (Obj.mapFields (·.setIfInBounds 3 (.ref a2)))).update a (Obj.mapFields (·.setIfInBounds 4 (.bool true)))
theorem setO {vs : Array Value} {i j : Nat} {x y : Value} (hij : i ≠ j) (h : vs[j]? = some y) : (vs.setIfInBounds i x)[j]? = some y := by
  rw [Array.getElem?_setIfInBounds_ne hij]
  exact h
theorem causeAt_at {h : Heap} {a a2 : Addr} {oe : Obj} {vs : Array Value} (ha : h.get? a = some oe) (hd : oe.data = .fields vs) :
    (causeAt h a a2).get? a = some ((oe.mapFields (·.setIfInBounds 3 (.ref a2))).mapFields (·.setIfInBounds 4 (.bool true))) ∧ ((oe.mapFields (·.setIfInBounds 3 (.ref a2))).mapFields (·.setIfInBounds 4 (.bool true))).data = .fields ((vs.setIfInBounds 3 (.ref a2)).setIfInBounds 4 (.bool true)) := by
  have d3 := Obj.data_mapFields hd (·.setIfInBounds 3 (.ref a2))
  have h3 := Heap.get?_update_self (Obj.mapFields (·.setIfInBounds 3 (.ref a2))) ha (Obj.isFreed_of_fields d3)
  have d4 := Obj.data_mapFields d3 (·.setIfInBounds 4 (.bool true))
  exact ⟨Heap.get?_update_self (Obj.mapFields (·.setIfInBounds 4 (.bool true))) h3 (Obj.isFreed_of_fields d4), d4⟩
theorem causeAt_ne {h : Heap} {a a2 b : Addr} (hne : a ≠ b) : (causeAt h a a2).get? b = h.get? b := by
  unfold causeAt
  rw [Heap.get?_update_other _ _ hne, Heap.get?_update_other _ _ hne]
theorem raise_made_from {prog : Program} {w : World} {A : Around} {E : Value → Shared → Prop} {env : Env} {s : Shared} {x c : Sem Value} {Q : Flow → Shared → Prop} (hh : A.handled = none)
    (h : wpAny (model prog w) A x (fun v s₁ => ∃ a, v = .ref a ∧ wpAny (model prog w) A c (fun v2 s₂ => ∃ a2 oe vs cls oe2 vs2 cls2, v2 = .ref a2 ∧ s₂.heap.get? a = some oe ∧ oe.cls = cls ∧ oe.data = .fields vs ∧ vs[1]? = some .none ∧ 4 < vs.size ∧
      s₂.heap.get? a2 = some oe2 ∧ oe2.cls = cls2 ∧ oe2.data = .fields vs2 ∧ PySem.W.Looks (model prog w) s₂.heap (isSubtype cls (.type "BaseException")) true ∧ PySem.W.Looks (model prog w) s₂.heap (isSubtype cls2 (.type "BaseException")) true ∧
      PySem.W.Looks (model prog w) (causeAt s₂.heap a a2) (typeOf cls) (.type "type") ∧ E (.ref a) { s₂ with heap := causeAt s₂.heap a a2 }) E s₁) E s) :
    wpAny (model prog w) A (raiseStmt env (some x) (some c)) Q E s := by
  unfold raiseStmt
  dsimp only
  refine wpAny_bind (wpAny_mono h (fun v s₁ h₁ => ?_) fun _ _ x => x)
  obtain ⟨a, rfl, h₁⟩ := h₁
  refine wpAny_bind (wpAny_holding (wpAny_mono h₁ (fun v2 s₂ h₂ => wpAny_bind (wpAny_pure ?_)) fun _ _ x => x))
  obtain ⟨a2, oe, vs, cls, oe2, vs2, cls2, rfl, ha, hcls, hd, h1, hi, ha2, hcls2, hd2, L1, L2, L3, hE⟩ := h₂
  have isT : ∀ {b : Addr} {ob : Obj} {ws : Array Value} {s' : Shared} {Q' : Bool → Shared → Prop}, s'.heap.get? b = some ob → ob.data = .fields ws → Q' false s' → wpAny (model prog w) A (isType (.ref b)) Q' E s' := by
    intro b ob ws s' Q' e d hq
    simp only [isType, loadHead]
    refine wpAny_bind (wpAny_loadPart e ?_)
    rw [d]
    exact wpAny_pure hq
  have LT : PySem.W.Looks (model prog w) s₂.heap (typeOf (.ref a)) cls := fun A Q E s k q => wpAny_typeOf_ref (k _ _ ha) (by rw [hcls]; exact q)
  have LT2 : PySem.W.Looks (model prog w) s₂.heap (typeOf (.ref a2)) cls2 := fun A Q E s k q => wpAny_typeOf_ref (k _ _ ha2) (by rw [hcls2]; exact q)
  have LI : PySem.W.Looks (model prog w) s₂.heap (isInstance (.ref a) (.type "BaseException")) true := LT.andThen L1
  have LI2 : PySem.W.Looks (model prog w) s₂.heap (isInstance (.ref a2) (.type "BaseException")) true := LT2.andThen L2
  have d3 := Obj.data_mapFields hd (·.setIfInBounds 3 (.ref a2))
  have ha3 := Heap.get?_update_self (Obj.mapFields (·.setIfInBounds 3 (.ref a2))) ha (Obj.isFreed_of_fields d3)
  obtain ⟨ha4, d4⟩ := causeAt_at (a2 := a2) ha hd
  have s3 : 3 < vs.size := by omega
  have s4 : 4 < (vs.setIfInBounds 3 (.ref a2)).size := by simpa using hi
  have h14 : ((vs.setIfInBounds 3 (.ref a2)).setIfInBounds 4 (Value.bool true))[1]? = some Value.none := setO (by decide) (setO (by decide) h1)
  have hcls4 : ((oe.mapFields (·.setIfInBounds 3 (.ref a2))).mapFields (·.setIfInBounds 4 (.bool true))).cls = cls := by rw [Obj.cls_mapFields, Obj.cls_mapFields]; exact hcls
  have LT4 : PySem.W.Looks (model prog w) (causeAt s₂.heap a a2) (typeOf (.ref a)) cls := fun A Q E s k q => wpAny_typeOf_ref (k _ _ ha4) (by rw [hcls4]; exact q)
  have rest : wpAny (model prog w) A (do
      let b ← isType (.ref a)
      if b = true then do
        let e ← holding [.ref a] (raisedFor (.ref a) (.ref a))
        setFlight e none
        raiseNew e
      else do
        let e ← raisedInstance (.ref a)
        setFlight e none
        raiseNew e : Sem Flow) Q E { s₂ with heap := causeAt s₂.heap a a2 } := by
    refine wpAny_bind (isT (s' := { s₂ with heap := causeAt s₂.heap a a2 }) ha4 d4 ?_)
    simp only [Bool.false_eq_true, if_false]
    unfold raisedInstance
    refine wpAny_bind (wpAny_bind (LT4.here (wpAny_bind (L3.here ?_))))
    rw [if_pos (beq_self_eq_true _)]
    refine wpAny_pure ?_
    unfold setFlight raiseNew
    refine wpAny_bind (wpAny_bind (wpAny_field ha4 d4 h14 ?_))
    rw [if_neg (by decide)]
    refine wpAny_pure (wpAny_bind (wpAny_handled ?_))
    rw [hh]
    first
      | exact wpAny_throw hE
      | exact wpAny_bind (wpAny_pure (wpAny_throw hE))
  dsimp only
  refine wpAny_bind (wpAny_holding ?_)
  unfold excFromValue isExcClass
  refine wpAny_bind (wpAny_bind (isT ha hd ?_))
  simp only [Bool.false_eq_true, if_false]
  refine wpAny_pure ?_
  simp only [Bool.false_eq_true, if_false]
  refine wpAny_bind (LI.here ?_)
  simp only [if_true]
  refine wpAny_pure ?_
  have nn : (Value.ref a2 == Value.none) = false := by rfl
  simp only [nn, Bool.false_eq_true, if_false]
  refine wpAny_bind (wpAny_holding ?_)
  refine wpAny_bind (wpAny_bind (isT ha2 hd2 ?_))
  simp only [Bool.false_eq_true, if_false]
  refine wpAny_pure ?_
  simp only [Bool.false_eq_true, if_false]
  refine wpAny_bind (LI2.here ?_)
  simp only [if_true]
  refine wpAny_pure ?_
  exact wpAny_bind (wpAny_setField ha hd s3 (wpAny_bind (wpAny_setField ha3 d3 s4 rest)))
/-- an exception object, not raised yet -/
def ExF (cls : Value) (d : Option Addr) (a : Addr) : HO := .ext fun h => ∃ (oe : Obj) (vs : Array Value), h.get? a = some oe ∧ Zc cls d oe ∧ oe.data = .fields vs ∧ vs[1]? = some .none ∧ 4 < vs.size
theorem exF_ok {P : Program} {w : World} {H : Hp} {h : Heap} {a : Addr} {cls : Value} {d : Option Addr} {oe : Obj} {vs : Array Value} (e : h.get? a = some oe) (z : Zc cls d oe) (hd : oe.data = .fields vs) (h1 : vs[1]? = some .none) (h4 : 4 < vs.size) : ObjOk P w H h a (ExF cls d a) :=
  ⟨⟨oe, vs, e, z, hd, h1, h4⟩, ⟨oe, e⟩, fun _ _ ⟨o, v, q, r⟩ k => ⟨o, v, k o q, r⟩⟩
def Six6 (u : Value) (s' : Shared) : Prop := ∀ (a : Addr) (oe : Obj) (vs : Array Value), u = .ref a → s'.heap.get? a = some oe → oe.data = .fields vs → 4 < vs.size
def PMk6 (X : Cx) (e : Expr) (t : L2.St → Hp → XK → Prop) : Prop :=
  ∀ (pins : List (Addr × Obj)) (s : Shared) (σ : L2.St) (H : Hp) (Q : XK), Inv X pins σ H s → t σ H Q → wpAny (model X.prog X.w) X.A (eval e X.env) (fun u s' => MkP X pins σ Q u s' ∧ Six6 u s') X.xe s
section
variable {X : Cx} {e e2 : Expr} {es : List Expr} {ta : TA} {p pos : Pos}
theorem pmk6_oex {CX : CXT} {x : Str} {C fI : Addr} {k : Nat} {fd : FuncData} {ps : List Str} {sp : Sp} (T : OexC X.K C) (iC : PySem.W.findIn X.K (.ref C) "__init__" = some (some (.ref fI))) (tI : PySem.W.typeIn X.K (.ref fI) = some (.type "function"))
    (F1 : FnOk X.prog X.w X.K X.mg X.base CX k fI fd ps sp) (hr : Room (k + 1) X.A) (hb : Binds X.K fd ps []) (hx : Passes CX X (fun _ _ _ => False)) (hg : Gl X x) (hm : X.mg x = some (.ref C)) (ha : PA X (e :: es) ta)
    (hdb : (x == ("__debug__" : Str)) = false := by decide) (he : starEach (e :: es) X.env = (false, eval e X.env) :: starEach es X.env := by rfl) (hpl : (backTo pos (starEach es X.env)).any (·.1) = false := by rfl) :
    PMk6 X (.Call (.Name x p) (e :: es) [] pos) (tMkO C sp [] ta) := by
  intro pins s σ H Q I h
  obtain ⟨nm, q, N, bs, bm, sn, sub, ab, col, dd, k0, k1, k2, k3, k5, hC, hbm⟩ := T.cls
  refine wpAny_Call_Name_kw (ld_glob I hg hm ?_ hdb)
  refine PySem.W.callWith_K (h₀ := X.base) I.ok.mod.kin T.kC (thn (ha.run pos pins s σ H _ I h) fun us s1 ⟨vs, H1, I1, r1, hz, q1⟩ => ⟨I1.kIn, ?_⟩) he hpl
  obtain ⟨hp, g, dr, tk, os⟩ := s1
  have young : hp.objs.size ≤ hp.objs.size + 1 := Nat.le_succ _
  have hq := q1 (hp.objs.size + 1) (I1.hok.fresh young)
  have keep : ∀ b o, hp.get? b = some o → ((hp.push (PySem.W.kdv_tup us)).push (PySem.HandSPX.excO C hp.objs.size)).get? b = some o := fun b o e => Heap.get?_push_of_some _ (Heap.get?_push_of_some _ e)
  have new : ((hp.push (PySem.W.kdv_tup us)).push (PySem.HandSPX.excO C hp.objs.size)).get? (hp.objs.size + 1) = some (PySem.HandSPX.excO C hp.objs.size) := by heap_get
  have I2 : Inv X pins σ (upd H1 (hp.objs.size + 1) (exo (hp.objs.size + 1) C none)) ⟨(hp.push (PySem.W.kdv_tup us)).push (PySem.HandSPX.excO C hp.objs.size), g, dr, tk, os⟩ :=
    I1.laid (t' := tk) keep young (exo_ok new)
  rw [List.append_nil] at hq
  have r2 : Vals (V.ref (hp.objs.size + 1) :: vs) (Value.ref (hp.objs.size + 1) :: us) := .cons rfl r1
  have hl : (Value.ref (hp.objs.size + 1) :: us).length = ps.length := by
    rw [← r2.length]
    exact F1.len _ _ _ _ hq
  have hus : us.length ≤ sizeLine := by
    rw [← Paired.length r1, sizeLine_eq]
    omega
  have bt := hb ⟨(hp.push (PySem.W.kdv_tup us)).push (PySem.HandSPX.excO C hp.objs.size), g, dr, tk, os⟩ (Value.ref (hp.objs.size + 1) :: us) I2.kIn (by rw [List.append_nil]; exact hl)
  rw [List.append_nil] at bt
  show wpAny _ _ (call (.ref C) us) _ _ _
  refine wpAny_call (PySem.HandSPX.call_own F.excBase_ValueError (fun Y => PySem.HandSPX.refsVE_contains Y bm hbm) (I1.kIn _ _ hC) (PySem.W.looks_findIn I1.kIn iC) (fun self => PySem.W.bind_fn I1.kIn self tI) hus
    (codeAny_mono (F1.run _ X.stack _ _ ⟨Value.ref (hp.objs.size + 1) :: us, []⟩ _ _ _ (fun _ _ _ => False) (hr.make C us []) (I2.env0.make C us []) bt r2 hq) fun r s' hq' => ?_))
  cases r with
  | error er => exact hx pins σ _ _ er s' I2 hq'
  | ok fl =>
    cases fl with
    | ret u =>
      obtain ⟨v, H2, os2, bare2, un2, hok2, rv, ev, d, fs, ea, ed, hd1, q2⟩ := hq'
      subst ev
      obtain ⟨h2, g2, d2, t2, os'⟩ := s'
      obtain ⟨t0, G, J, kG, ge, hoe, na⟩ := mk_end0 (g2 := g2) (d2 := d2) (t2 := t2) I1 young keep un2 hok2 os2 bare2 ea ed hd1
      refine ⟨rv, ⟨_, _, _, ⟨G, g2, d2, t2, os'⟩, _, .ref C, some d, rfl, J, kG, ge, hoe, ⟨rfl, rfl⟩, rfl, rfl, na, rfl, bare2, raises_own T.exC T.tyC, q2⟩, fun b oe vs2 eb eo ed2 => ?_⟩
      cases eb
      have eo : h2.get? (hp.objs.size + 1) = some oe := eo
      rw [hoe] at eo
      cases eo
      cases ed2
      show (4 : Nat) < 6
      decide
    | next => exact False.elim hq'
    | brk => exact False.elim hq'
    | cont => exact False.elim hq'
theorem ps_raiseFrom {W : WX} {t t2 : L2.St → Hp → XK → Prop} (hc : X.calm = true) (hex : X.ex = []) (tk : Takes X W) (he : PMk6 X e t) (hu : PMk X e2 t2) :
    PS X (.Raise (some e) (some e2) pos) (fun _ σ H => t σ H fun cls d H' => ∀ a, H' a = none → Fr0 X.H_0 a ∧ t2 σ (upd H' a (ExF cls d a)) fun _ _ H2 => H2 a = some (ExF cls d a) ∧ W cls d σ (delH H2 a)) := by
  refine ⟨fun pins s σ H D I h => ?_⟩
  show wpAny _ _ (do standAt pos; raiseStmt X.env (some (do let v ← eval e X.env; standAt pos; pure v)) (some (do let v ← eval e2 X.env; standAt pos; pure v))) _ _ _
  refine wpAny_bind (wpAny_standAt (raise_made_from (I.ok.hd hc) (wpAny_bind (wpAny_mono (he pins s σ H _ I h) (fun u s1 hu1 => wpAny_bind (wpAny_standAt (wpAny_pure ?_))) fun _ _ x => x))))
  obtain ⟨⟨a, oe, vs, sI, H', cls, d, rfl, J, k, hne, ha, hz, hd, h1, na, os, ag, r, q⟩, h5⟩ := hu1
  obtain ⟨f0, q⟩ := q a na
  have I1 : Inv X pins σ (upd H' a (ExF cls d a)) s1 := J.call' (ch := []) os (Un.laidN k hne na) (J.hok.laidN k na (exF_ok ha hz hd h1 (h5 a oe vs rfl ha hd))) ag fun b z => nomatch z
  refine ⟨a, rfl, wpAny_bind (wpAny_mono (hu pins s1 σ _ _ I1 q) (fun u s2 hu2 => wpAny_bind (wpAny_standAt (wpAny_pure ?_))) fun _ _ x => x)⟩
  obtain ⟨a2, oe2, vs2, sI2, H2, cls2, d2, rfl, J2, k2, hne2, ha2, hz2, hd2, _, na2, os2, ag2, r2, tr, hw⟩ := hu2
  obtain ⟨⟨o3, v3, g3, z3, e3, n3, l3⟩, _, _⟩ := J2.hok a _ tr
  obtain ⟨G, gs, ga, J3⟩ := J2.untrack tr f0 hex
  have g3' : s2.heap.get? a = some o3 := k2 _ _ g3
  have kf : ∀ b o, G.get? b = some o → (causeAt s2.heap a a2).get? b = some o := fun b o z => by
    have nab : a ≠ b := fun y => by rw [← y, ga] at z; cases z
    rw [causeAt_ne nab]
    exact k2 b o (gs b o z)
  obtain ⟨c1, c2⟩ := causeAt_at (a2 := a2) g3' e3
  obtain ⟨w1, _⟩ := r (model X.prog X.w) s2.heap (J2.kIn.keeps k2)
  obtain ⟨_, w2⟩ := r (model X.prog X.w) (causeAt s2.heap a a2) (J3.kIn.keeps kf)
  obtain ⟨w3, _⟩ := r2 (model X.prog X.w) s2.heap (J2.kIn.keeps k2)
  refine ⟨a2, o3, v3, cls, oe2, vs2, cls2, rfl, g3', z3.1, e3, n3, l3, ha2, hz2.1, hd2, w1, w3, w2, tk _ _ (XE.new J3 kf ga c1 ⟨by rw [Obj.cls_mapFields, Obj.cls_mapFields]; exact z3.1, by rw [HandSPX.dict_mapFields, HandSPX.dict_mapFields]; exact z3.2⟩ c2 (setO (by decide) (setO (by decide) n3)) delH_same os2 ag2 hw)⟩
end
end Rg

set_option Elab.async false
set_option linter.all false
set_option maxRecDepth 100000
set_option maxHeartbeats 4000000
namespace Rg
open PySem PySem.Spec PyProof.Rows L2
/-- an exception object is no code object -/
def obF (cls : Value) (d : Option Addr) : Obj := { cls := cls, dict := d, data := .fields #[.none, .none, .none, .none, .none, .none] }
def hpF (cls : Value) (d : Option Addr) (a : Addr) : Heap := ⟨Array.replicate (a + 1) (obF cls d), {}⟩
theorem hpF_at {cls : Value} {d : Option Addr} {a : Addr} : (hpF cls d a).get? a = some (obF cls d) := Heap.get?_some_iff.mpr ⟨by simp [hpF], rfl⟩
theorem hpF_of {cls : Value} {d : Option Addr} {a c : Addr} {o : Obj} (h : (hpF cls d a).get? c = some o) : o = obF cls d := by
  obtain ⟨g4, _⟩ := Heap.get?_some_iff.mp h
  have g5 : (Array.replicate (a + 1) (obF cls d))[c]? = some o := g4
  obtain ⟨hc, e⟩ := Array.getElem?_eq_some_iff.mp g5
  rw [← e]
  simp
theorem exF_code {cls : Value} {d : Option Addr} {a c : Addr} {q : Str} : ExF cls d a ≠ LamX.CodeO c q := fun z => by
  unfold ExF LamX.CodeO at z
  have h1 := congrFun (HO.ext.inj z) (hpF cls d a)
  have h2 : ∃ (oe : Obj) (vs : Array Value), (hpF cls d a).get? a = some oe ∧ Zc cls d oe ∧ oe.data = .fields vs ∧ vs[1]? = some .none ∧ 4 < vs.size := ⟨_, _, hpF_at, ⟨rfl, rfl⟩, rfl, rfl, by show (4 : Nat) < 6; decide⟩
  rw [h1] at h2
  obtain ⟨oc, vs, t, g1, g2, g3⟩ := h2
  rw [hpF_of g1] at g2
  cases g2
  cases g3
theorem stepT_del {K : PySem.W.Frag} {W : Addr → Prop} {D0 H0 D H : Hp} {a : Addr} {φ : Heap → Prop} (s : StepT K W D0 H0 D H) (d0 : D0 a = none) (h0 : H0 a = none) (ha : ∀ c q, D c = some (LamX.CodeO c q) → c ≠ a) : StepT K W D0 H0 (delH D a) (delH H a) := by
  have nD : ∀ b o, D0 b = some o → b ≠ a := fun b o e z => by rw [z, d0] at e; cases e
  have nH : ∀ b, H0 b ≠ none → b ≠ a := fun b e z => e (by rw [z]; exact h0)
  refine ⟨fun b o e => by rw [delH_ne (nD b o e)]; exact s.dd b o e, fun b o e => ?_, fun b o hw n e => ?_, fun b e => ?_, fun b e d => ?_, fun b hw t => ?_⟩
  · by_cases q : b = a
    · rw [q, delH_same] at e
      cases e
    · rw [delH_ne q] at e ⊢
      exact s.dh b o e
  · rw [delH_ne (nH b (fun z => by rw [z] at e; cases e))]
    exact s.kq b o hw n e
  · rw [delH_ne (nH b e)]
    exact s.ns b e
  · rw [delH_ne (nH b e)]
    exact s.fr b e d
  · obtain ⟨g1, qs, h1, ht1, hc1⟩ := s.tb b hw t
    have nb : b ≠ a := nH b t.there
    refine ⟨by rw [delH_ne nb]; exact g1, qs, by rw [delH_ne nb]; exact h1, ht1, fun pos cv z => ?_⟩
    obtain ⟨c, e1, e2⟩ := hc1 pos cv z
    exact ⟨c, e1, by rw [delH_ne (ha c _ e2)]; exact e2⟩
theorem sqL_del {K : PySem.W.Frag} {D : Hp} {a q : Addr} {xs : List V} {φ : Heap → Prop} (h : SqL K D q xs) (ha : D a = some (.ext φ)) : SqL K (delH D a) q xs := by
  rcases h with (h | ⟨o, h⟩) | h
  · exact .inl (.inl (by rw [delH_ne (fun z => by rw [z, ha] at h; cases h)]; exact h))
  · exact .inl (.inr ⟨o, by rw [delH_ne (fun z => by rw [z, ha] at h; cases h)]; exact h⟩)
  · exact .inr h
section
variable {G : Gx} {X : Cx} {e e2 : Expr} {es es2 : List Expr} {pos posb p p2 pos2 : Pos} {pl pl2 : PAt} {x x2 : Str}
/-- what an own exception's making asks, read by the pure layer -/
theorem mkO_sim {C : Addr} {fs : List Str} {vs : List V} {H1 : Hp} {Q : XK} (vl : vs.length = fs.length) (hfs : fs.length ≤ 900) (hQ : ∀ d, H1 d = none → Q (.ref C) (some d) (upd H1 d (.xd (fs.zip vs).reverse))) :
    vs.length ≤ 1000 ∧ ∀ a, H1 a = none → spXI C fs (.ref a :: (vs ++ [])) (upd H1 a (exo a C none))
      (fun v H2 => v = .non ∧ ∃ (d : Addr) (fs : List (Str × V)), H2 a = some (exo a C (some d)) ∧ H2 d = some (exd d fs) ∧ H1 d = none ∧ Q (.ref C) (some d) (upd (del H2 a) d (.xd fs))) (fun _ _ _ => False) := by
  refine ⟨by omega, fun a0 ha0 => ⟨a0, vs, by rw [List.append_nil], vl, upd_same, fun d H' hd hda h1 h2 h3 => ?_⟩⟩
  have hd1 : H1 d = none := by rw [upd_ne hda] at hd; exact hd
  refine ⟨rfl, d, _, h1, h2, hd1, ?_⟩
  have eH : upd (del H' a0) d (.xd (fs.zip vs).reverse) = upd H1 d (.xd (fs.zip vs).reverse) := by
    funext b0
    by_cases hb : b0 = d
    · rw [hb, upd_same, upd_same]
    · rw [upd_ne hb, upd_ne hb]
      by_cases hb2 : b0 = a0
      · rw [hb2, del_same, ha0]
      · rw [del_ne hb2, h3 b0 hb2 hb, upd_ne hb2]
  rw [eH]
  exact hQ d hd1
def pRaiseF (C : Str) (fs : List Str) (pl : PAt) (fs2 : List Str) (pl2 : PAt) : PSt := fun E ρ => pl ρ (fun ds ρ1 => ds.length = fs.length ∧ pl2 ρ1 (fun es ρ2 => es.length = fs2.length ∧ E.rs (C, fs.reverse, ds.reverse) ρ2.ink) E.rs) E.rs
theorem s_raiseF {k k2 j : Nat} {C C2 : Str} {fs fs2 : List Str} (c : XcX X.prog X.w X.K X.mg X.base k x (He.ga G.K C) fs) (c2 : XcX X.prog X.w X.K X.mg X.base k2 x2 (He.ga G.K C2) fs2) (tk : Takes X fun cls d _ H => G.E cls d H) (hr : Room j X.A) (hk : k + 1 ≤ j) (hk2 : k2 + 1 ≤ j) (hg : Gl X x) (hg2 : Gl X x2)
    (ha : DA G X (e :: es) pl) (ha2 : DA G X (e2 :: es2) pl2) (hfs : fs.length ≤ 900 := by decide) (hfs2 : fs2.length ≤ 900 := by decide) (hc : X.calm = true := by rfl) (hex : X.ex = [] := by rfl) (hH : X.H_0 = G.H0 := by rfl)
    (hdb : (x == ("__debug__" : Str)) = false := by decide) (he : starEach (e :: es) X.env = (false, eval e X.env) :: starEach es X.env := by rfl) (hpl : (backTo pos (starEach es X.env)).any (·.1) = false := by rfl)
    (hdb2 : (x2 == ("__debug__" : Str)) = false := by decide) (he2 : starEach (e2 :: es2) X.env = (false, eval e2 X.env) :: starEach es2 X.env := by rfl) (hpl2 : (backTo posb (starEach es2 X.env)).any (·.1) = false := by rfl) :
    DS G X (.Raise (some (.Call (.Name x p) (e :: es) [] pos)) (some (.Call (.Name x2 p2) (e2 :: es2) [] posb)) pos2) (pRaiseF C fs pl fs2 pl2) := by
  obtain ⟨fI, fd, ps, O, iC, tI, F, b, hm⟩ := c.ex
  obtain ⟨fI2, fd2, ps2, O2, iC2, tI2, F2, b2, hm2⟩ := c2.ex
  refine DS.of (ps_raiseFrom hc hex tk (pmk6_oex O iC tI F (hr.mono hk) b pass0 hg hm ha.run hdb he hpl) (pmk_oex O2 iC2 tI2 F2 (hr.mono hk2) b2 .nil pass0 hg2 hm2 ha2.run hdb2 he2 hpl2)) fun D σ H ρ Ep E rel hp ok hx => ?_
  refine simA_l [] D σ H ρ _ Ep.rs _ rel hp hx fun ds ρ1 D1 vs H1 e1 r1 q1 hp1 => ?_
  obtain ⟨hl, hp1⟩ := hp1
  have vl : vs.length = fs.length := (rvA_len q1).trans hl
  refine mkO_sim (C := He.ga G.K C) (H1 := H1) (Q := fun cls d H' => ∀ (a : Addr), H' a = none → Fr0 X.H_0 a ∧ tMkO (He.ga G.K C2) (spXI (He.ga G.K C2) fs2) [] (lA G pl2) σ (upd H' a (ExF cls d a)) fun _ _ H2 => H2 a = some (ExF cls d a) ∧ G.E cls d (delH H2 a)) vl hfs fun d hd1 => ?_
  have r2 : Rel G [] (upd D1 d (.xd (fs.zip vs).reverse)) σ (upd H1 d (.xd (fs.zip vs).reverse)) ρ1 := r1.new hd1
  have s2 : Same D1 (upd D1 d (.xd (fs.zip vs).reverse)) := r1.newS hd1
  intro a haN
  have h0a : G.H0 a = none := r2.st.free haN
  have dda : (upd D1 d (.xd (fs.zip vs).reverse)) a = none := r2.same.free haN
  have d0a : G.D0 a = none := by
    cases q : G.D0 a with
    | none => rfl
    | some o =>
      have := r2.st.dd a o q
      rw [dda] at this
      cases this
  have d1a : D1 a = none := by
    cases q : D1 a with
    | none => rfl
    | some o =>
      have := s2 a o q
      rw [dda] at this
      cases this
  refine ⟨by rw [hH]; exact fr0_none h0a, ?_⟩
  have r3 : Rel G [] (upd (upd D1 d (.xd (fs.zip vs).reverse)) a (ExF (.ref (He.ga G.K C)) (some d) a)) σ (upd (upd H1 d (.xd (fs.zip vs).reverse)) a (ExF (.ref (He.ga G.K C)) (some d) a)) ρ1 := r2.new haN
  have s3 := s2.trans (r2.newS (o := ExF (.ref (He.ga G.K C)) (some d) a) haN)
  refine simA_l [] _ σ _ ρ1 _ Ep.rs _ r3 hp1 hx fun ds2 ρ2 D4 ws H4 e4 r4 q4 hp2 => ?_
  obtain ⟨hl2, hp2⟩ := hp2
  have wl : ws.length = fs2.length := (rvA_len q4).trans hl2
  refine mkO_sim (C := He.ga G.K C2) (H1 := H4) (Q := fun _ _ H2 => H2 a = some (ExF (.ref (He.ga G.K C)) (some d) a) ∧ G.E (.ref (He.ga G.K C)) (some d) (delH H2 a)) wl hfs2 fun d2 hd2 => ?_
  have r5 : Rel G [] (upd D4 d2 (.xd (fs2.zip ws).reverse)) σ (upd H4 d2 (.xd (fs2.zip ws).reverse)) ρ2 := r4.new hd2
  have s5 : Same D4 (upd D4 d2 (.xd (fs2.zip ws).reverse)) := r4.newS hd2
  have t4 : D4 a = some (ExF (.ref (He.ga G.K C)) (some d) a) := e4 a _ upd_same
  have t5 := s5 a _ t4
  have sD : Same D1 (delH (upd D4 d2 (.xd (fs2.zip ws).reverse)) a) := fun b o z => by
    have nb : b ≠ a := fun y => by rw [y, d1a] at z; cases z
    rw [delH_ne nb]
    exact s5 b o (e4 b o (s3 b o z))
  refine ⟨r5.same a _ t5, ?_⟩
  have nda : d ≠ a := fun z => by rw [← z, upd_same] at haN; cases haN
  refine hx.ok (delH (upd D4 d2 (.xd (fs2.zip ws).reverse)) a) _ (C, fs.reverse, ds.reverse) ρ2.ink d (fs.zip vs).reverse (stepT_del (φ := fun _ => True) r5.st d0a h0a fun c q z y => ?_) ?_ ?_ ?_ ?_ hp2
  · rw [y, t5] at z
    exact exF_code (Option.some.inj z)
  · intro pn hpn
    obtain ⟨o, q, ns, t, g, k1, k2, k3, k4⟩ := r5.pen pn hpn
    have npa : pn ≠ a := fun y => r5.ph pn hpn (by rw [y]; exact h0a)
    exact ⟨by rw [delH_ne npa]; exact o, q, ns, t, g, by rw [delH_ne npa]; exact k1, sqL_del k2 t5, k3, k4⟩
  · rw [delH_ne nda]
    refine s5 d _ (e4 d _ ?_)
    rw [upd_ne nda, upd_same]
  · rw [List.map_reverse]
    show (List.map Prod.fst (fs.zip vs)).reverse = fs.reverse
    rw [List.map_fst_zip (by omega)]
  · rw [List.map_reverse]
    show RvA G.K _ (List.map Prod.snd (fs.zip vs)).reverse ds.reverse
    rw [List.map_snd_zip (by omega)]
    exact rvA_rev (rvA_mono sD q1)
end
end Rg

set_option Elab.async false
set_option linter.all false
set_option maxRecDepth 100000
set_option maxHeartbeats 4000000
namespace StX
open PySem PySem.Spec PyProof.Rows L2
section
variable {X : Cx} {CX : CXT} {k i : Nat} {f C : Addr} {sp : Sp} {E : XK} {x : Str} {e : Expr} {es : List Expr} {t : TA} {tf : TE} {p pos : Pos}
theorem pe_makeSt2 (M : Mk X.K C f) (F : FnR X.prog X.w X.K X.mg X.base CX k f sp) (hr : Room (k + 1) X.A) (hf : PE X (.Name x p) tf) (hx : Passes CX X E) (ha : PA X (e :: es) t)
    (he : starEach (e :: es) X.env = (false, eval e X.env) :: starEach es X.env := by rfl) (hst : (backTo pos (starEach es X.env)).any (·.1) = true := by rfl) :
    PE X (.Call (.Name x p) (e :: es) [] pos) (fun σ H Q => tf σ H fun y H1 => y = V.ref C ∧ tMakeR C sp E t σ H1 Q) := by
  refine ⟨fun pins s σ H Q I h => ?_⟩
  refine wpAny_Call_Name_kw (thn (hf.run pins s σ H _ I h) fun u s0 ⟨y0, H0, I0, ry0, ey0, h0⟩ => ?_)
  subst ey0
  obtain rfl : u = Value.ref C := ry0
  refine PySem.W.callWith_S2 (h₀ := X.base) I0.ok.mod.kin M.kp (thn (ha.run pos pins s0 σ H0 _ I0 h0) fun us s1 ⟨vs, H1, I1, r, q⟩ => ⟨I1.kIn, ?_⟩) he hst
  exact run_makeR M F hr hx I1 r q
end
end StX
namespace Rg
open PySem PySem.Spec PyProof.Rows L2
section
variable {G : Gx} {X : Cx} {e : Expr} {es : List Expr} {p pos : Pos} {pl : PAt} {x : Str}
/-- x(e, .., *y), x a name that holds the class -/
theorem d_makeSt2 {CX : CXT} {i k j : Nat} {y C : Str} {fs : List Str} {Fn : NFn} (c : MkS X.prog X.w X.K X.mg X.base CX k y (He.ga G.K C) (spNew G.K C fs Fn)) (hr : Room j X.A) (hk : k + 1 ≤ j) (hf : PE X (.Name x p) (tVar i)) (hx : Passes CX X G.E) (ha : DA G X (e :: es) pl)
    (he : starEach (e :: es) X.env = (false, eval e X.env) :: starEach es X.env := by rfl) (hst : (backTo pos (starEach es X.env)).any (·.1) = true := by rfl) :
    DE G X (.Call (.Name x p) (e :: es) [] pos) (pMakeCls i (He.ga G.K C) (pMake C fs (Fn G.pn) pl)) := by
  obtain ⟨g, M, F, hm⟩ := c.ex
  have z := StX.pe_makeSt2 (p := p) (pos := pos) M F (hr.mono hk) hf hx ha.run he hst
  refine DE.of z fun F D σ H ρ Q R k rel hp hx cont => ?_
  obtain ⟨h0, hp⟩ := hp
  obtain ⟨w, e0, r0⟩ := rel.get h0
  have ew := rv_raw r0
  subst ew
  exact ⟨_, e0, rfl, sim_makeR simA_l F D σ H ρ Q R k rel hp hx cont⟩
end
def tupFnN (m : Nat) (Fn : NFn) : NFn := fun pn ds' n Q R => ∃ ds1 ds2, ds' = ds1 ++ [.tup ds2] ∧ ds1.length = m ∧ ds2.length ≤ sizeLine ∧ Fn pn (ds1 ++ ds2) n Q R
section
variable {P : Program} {w : World} {K : PySem.W.Frag} {mg : Str → Option Value} {base : Heap} {CX : CXT}
theorem spNew_tupN {C : Str} {fs : List Str} {Fn : NFn} {m : Nat} (hz : ∀ pn ds n Q R, Fn pn ds n Q R → m ≤ ds.length ∧ ds.length ≤ sizeLine) {vs : List V} {H : Hp} {Q : VK} {E : XK} (h : spNew K C fs Fn vs H Q E) :
    ∃ ws rest, vs = ws ++ rest ∧ ws.length = m + 1 ∧ rest.length ≤ sizeLine ∧ ∀ p, H p = none → spNew K C fs (tupFnN m Fn) (ws ++ [V.ref p]) (upd H p (.tup rest)) Q E := by
  obtain ⟨D, pn, x, dx, us, ds, n, Qd, R, rfl, sd, ph, dx0, hx, rv, pen, hf, post, ex⟩ := h
  obtain ⟨lm, lz⟩ := hz _ _ _ _ _ hf
  have ul := rvA_len rv
  refine ⟨.ref x :: us.take m, us.drop m, by rw [List.cons_append, List.take_append_drop], by rw [List.length_cons, List.length_take]; omega, by rw [List.length_drop]; omega, fun p hp => ?_⟩
  have st : StepT K NoW D H (upd D p (.tup (us.drop m))) (upd H p (.tup (us.drop m))) := (Step.new sd hp).t
  have npx : p ≠ x := fun z => by rw [z, hx] at hp; cases hp
  have sm : Same D (upd D p (.tup (us.drop m))) := st.dd
  refine ⟨upd D p (.tup (us.drop m)), pn, x, dx, us.take m ++ [.ref p], ds.take m ++ [.tup (ds.drop m)], n, Qd, R, rfl, st.dh, fun q hq => ⟨upd_ne_none (ph q hq).1, (ph q hq).2⟩, by rw [upd_ne (Ne.symm npx)]; exact dx0, by rw [upd_ne (Ne.symm npx)]; exact hx, ?_, pen.keep st, ⟨ds.take m, ds.drop m, rfl, by rw [List.length_take]; omega, by rw [List.length_drop]; omega, by rw [List.take_append_drop]; exact hf⟩, fun D' H' dxe zs es n' s d1 h1 hl rvz pk hq => post D' H' dxe zs es n' ((st.any (W := Wx pn x)).trans s) d1 h1 hl rvz pk hq, ⟨fun D' H' e n d ps s => ex.ok D' H' e n d ps ?_⟩⟩
  · exact rvA_app (rvA_take m (rvA_mono sm rv)) (.cons (.tup upd_same (rvA_drop m (rvA_mono sm rv))) .nil)
  have e1 : offX x (upd H p (.tup (us.drop m))) = upd (offX x H) p (.tup (us.drop m)) := by
    funext b
    by_cases q : b = x
    · rw [q, offX_eq, upd_ne (Ne.symm npx), offX_eq]
    · rw [offX_ne q]
      by_cases q2 : b = p
      · rw [q2, upd_same, upd_same]
      · rw [upd_ne q2, upd_ne q2, offX_ne q]
  have sd2 : Same D (offX x H) := fun b o h => by
    have q : b ≠ x := fun z => by rw [z, dx0] at h; cases h
    rw [offX_ne q]
    exact sd b o h
  have s' : StepT K (Wx pn x) (upd D p (.tup (us.drop m))) (upd (offX x H) p (.tup (us.drop m))) D' H' := e1 ▸ s
  exact ((Step.new (o := .tup (us.drop m)) sd2 (by rw [offX_ne npx]; exact hp)).any (W := Wx pn x)).t.trans s'
theorem ok_newSV {x qual pv : Str} {params : Arguments} {body : List Stmt} {scope : Scope} {f : Addr} {fd : FuncData} {N ps : List Str} {k : Nat} {C : Str} {fjs : List (Str × Nat)} {Fn : NFn} (F : FunD K x qual params body scope [] [] f fd) (S : FnScope N (ps ++ [pv]) scope) (hCX : StX.CXUp CX)
    (hb : ∀ (kV doc pm : Value) (an : Option Addr) (cdv ct : Value) (us rest : List Value), us.length = ps.length → bindArgs (PySem.W.fnOf x qual params body scope .none kV doc pm an cdv ct) ⟨us ++ rest, []⟩ = (newTuple rest >>= fun t => pure (ps.zip us ++ [(pv, t)])))
    (hc : Cls K (He.ga K C)) (hn : ∀ f ∈ fjs.map (·.1), NoAttr K (He.ga K C) f) (nd : (fjs.map (·.1)).Nodup) (hl : fjs.length < 1000)
    {m : Nat} (hm : ps.length = m + 1) (hz : ∀ pn ds n Q R, Fn pn ds n Q R → m ≤ ds.length ∧ ds.length ≤ sizeLine)
    (hbody : ∀ (cdv : Value) (A : Around) (outer : List Env) (s : Shared) (pn : Option Addr) (D H : Hp) (E : XK) (x : Addr) (ds1 ds2 : List DV) (n : Nat) (Qd : List DV → Nat → Prop) (R : PR), Room k (A.deeper (envOfC qual scope s.heap.objs.size f cdv)) → ds1.length = m → Fn pn (ds1 ++ ds2) n Qd R →
      ∃ pp, DSx ⟨K, pn, D, H, E, []⟩ (cxOf CX P w K mg base N qual scope f cdv A outer s H E) body fjs pp ∧ pp (endsS x fjs Qd R) ⟨startP N (.raw (.ref x) :: (ds1 ++ [.tup ds2])), n⟩) : FnR P w K mg base CX (k + 1) f (spNew K C (fjs.map (·.1)) Fn) := by
  obtain ⟨oc, od, dV, kV, doc, pm, an, cdv, ct, osl, rfl, lk, hcd, hD, _⟩ := F.ex
  obtain rfl : dV = .none := by
    rcases hD with ⟨_, e⟩ | ⟨e, _⟩
    · exact e
    · exact absurd rfl e
  have base0 := StX.fn_star (P := P) (w := w) (mg := mg) (base := base) (k := k) (CX := CX) (sp := spNew K C (fjs.map (·.1)) (tupFnN m Fn)) lk hcd S hCX (fun us rest hl => hb _ _ _ _ _ _ us rest hl) fun A outer s H vs Q E hr h => ?_
  · exact base0.imp fun vs H Q E h => by
      obtain ⟨ws, rest, e1, e2, e3, e4⟩ := spNew_tupN hz h
      exact ⟨ws, rest, e1, e2.trans hm.symm, e3, e4⟩
  · obtain ⟨D, pn, x, dx, us, ds', n, Qd, R, rfl, sd, ph, dx0, hx, rv, pen, ⟨ds1, ds2, rfl, l1, lz, hf⟩, post, ex⟩ := h
    obtain ⟨pp, dv, hp⟩ := hbody cdv A outer s pn D H E x ds1 ds2 n Qd R hr l1 hf
    refine ⟨_, dv.run, D, _, endsS x fjs Qd R, rel_start sd (fun p e => (ph p e).1) (.cons (.raw _) rv) pen, hp, ⟨?_, fun _ _ _ _ _ _ _ _ z => z.elim, fun _ _ _ _ _ _ z => z.elim, fun _ _ _ _ _ _ z => z.elim⟩, ex.ex⟩
    rintro D' σ' H' ρ' sm rel ⟨g0, zs, gs, hq⟩
    have npx : ¬ Wn pn x := fun e => (ph x e).2 rfl
    have hx' : H' x = some (.ins (He.ga K C) dx []) := rel.st.kq x _ npx True.intro hx
    have dx' : D' x = none := rel.st.fr x (by show H x ≠ none; rw [hx]; exact fun z => nomatch z) dx0
    obtain ⟨v0, e0, r0⟩ := rel.get g0
    rw [rv_raw r0] at e0
    obtain ⟨ws, hv, ra⟩ := slots_of rel gs
    refine stores_run e0 hc fjs ws [] H' hn nd (fun _ _ z => nomatch z) (by simpa using hl) hx' hv fun H2 h1 h2 => ?_
    have e2 : H2 = upd H' x (.ins (He.ga K C) dx ((fjs.map (·.1)).zip ws)) := by
      funext b
      by_cases q : b = x
      · rw [q, h2, upd_same]
        rfl
      · rw [h1 b q, upd_ne q]
    have st1 : StepT K (Wx pn x) D H D' H2 := by
      rw [e2]
      exact (rel.st.mono (W' := Wx pn x) fun b z => .inr z).write (.inl (.inl rfl)) dx'
    have st2 : StepT K (fun b => b = x) D' H' D' H2 := by
      rw [e2]
      exact (StepT.refl rel.same).write (.inl rfl) dx'
    exact post D' H2 dx ws zs _ st1 dx' h2 (by rw [List.length_map, slotsD_len gs, rvA_len ra]) ra (fun p hp => (rel.pen p hp).keepT st2 (ph p hp).2) hq
end
end Rg

set_option Elab.async false
set_option linter.all false
set_option maxRecDepth 100000
set_option maxHeartbeats 4000000
namespace Rg
open PySem PySem.Spec PyProof.Rows L2
section
variable {G : Gx} {X : Cx} {a b e : Expr} {pos : Pos} {pa pb : PEt}
end
end Rg

set_option Elab.async false
set_option linter.all false
set_option maxRecDepth 100000
set_option maxHeartbeats 4000000
namespace GQB
open PySem PySem.SeqAt
open AutoSeq1 (wpAny_loadPart')
open MeetsSeq MeetsSeq2 MeetsSeq3 SeqRoads2
section
variable {prog : Program} {w : World} {A : Around} {R : Result → Shared → Prop}
end
section
variable {prog : Program} {w : World} {A : Around} {E : Value → Shared → Prop} {s : Shared}
end
end GQB
namespace Rg
open PySem PySem.Spec PyProof.Rows L2
section
variable {X : Cx} {n : Nat} {a b : DV} {k : Bool}
end
section
variable {G : Gx} {X : Cx}
end
end Rg

set_option Elab.async false
set_option linter.all false
set_option maxRecDepth 100000
set_option maxHeartbeats 4000000
namespace Rg
open PySem PySem.Spec PyProof.Rows L2
section
variable {G : Gx} {X : Cx} {a b : Expr} {pos : Pos} {pa pb : PEt}
end
end Rg

set_option Elab.async false
set_option linter.all false
set_option maxRecDepth 100000
set_option maxHeartbeats 4000000
namespace Rg
open PySem PySem.Spec PyProof.Rows L2
section
variable {G : Gx} {X : Cx} {a b : Expr} {pos : Pos} {pa pb : PEt}
end
end Rg

set_option Elab.async false
set_option linter.all false
set_option maxRecDepth 100000
set_option maxHeartbeats 4000000
namespace Rg
open PySem PySem.Spec PyProof.Rows L2
section
variable {G : Gx} {X : Cx} {e : Expr} {es : List Expr} {pos pos' p p2 : Pos} {pl : PAt} {y : Str}
end
end Rg

set_option Elab.async false
set_option linter.all false
set_option maxRecDepth 100000
set_option maxHeartbeats 4000000
namespace Rg
open PySem PySem.Spec PyProof.Rows L2
section
variable {G : Gx} {X : Cx}
end
end Rg
namespace Rg
open PySem PySem.Spec PyProof.Rows L2
section
variable {G : Gx} {X : Cx} {a tg : Expr} {pos : Pos}
end
section
variable {G : Gx} {X : Cx} {x : Str} {pos p : Pos}
end
end Rg

set_option Elab.async false
set_option linter.all false
set_option maxRecDepth 100000
set_option maxHeartbeats 4000000
namespace PySem.W
open Lean Elab Tactic Meta PySem PySem.Calls PyProof.Rows
section
variable {M : Model} {K : Frag} {C : Addr} {nm : String}
end
end PySem.W
namespace Rg
open PySem PySem.Spec PyProof.Rows L2
section
variable {X : Cx} {CX : CXT} {k j : Nat} {C : Addr} {sp : Sp} {E : XK} {m : Str} {pos : Pos} {ta tb : TE}
end
section
variable {G : Gx} {X : Cx} {a b : Expr} {pos : Pos} {pa pb : PEt}
end
end Rg

set_option Elab.async false
set_option linter.all false
set_option maxRecDepth 100000
set_option maxHeartbeats 4000000
namespace L2
open PySem PySem.Spec PyProof.Rows
section
variable {X : Cx} {e : Expr} {es : List Expr} {ta : TA} {p pos : Pos}
end
end L2
namespace Rg
open PySem PySem.Spec PyProof.Rows L2
section
variable {G : Gx} {X : Cx} {e : Expr} {es : List Expr} {pos p : Pos} {pl : PAt} {x : Str}
end
end Rg

set_option Elab.async false
set_option linter.all false
set_option maxRecDepth 100000
set_option maxHeartbeats 2000000
namespace PySem.HandSPX
open PySem Calls PyProof.Rows
section
variable {M : Model} {A : Around} {E : Value → Shared → Prop} {h : Heap} {g : Array GenState} {d : Drawn} {t : Nat} {os : OsState}
variable {nm q : Str} {C N : Addr} {bs bm bmB : List Value} {hdct : Bool} {sn : List Str} {sub : List Value} {ab : Bool} {col : Option Bool} {dd : Option Addr} {k0 k1 k2 k3 k5 : Option Value} {B newId initId : String}
end
section
open Builtin Builtin.ObjectAttr
variable {prog : Program} {w : World} {A : Around} {E : Value → Shared → Prop} {R : Result → Shared → Prop} {h : Heap} {g : Array GenState} {d : Drawn} {t : Nat} {os : OsState}
variable {nm q : Str} {C N : Addr} {bs bm bmB : List Value} {hdct : Bool} {sn : List Str} {sub : List Value} {ab : Bool} {col : Option Bool} {dd : Option Addr} {k0 k1 k2 k3 k5 : Option Value} {B newId initId : String}
end
end PySem.HandSPX
namespace L2
open PySem PySem.Spec PyProof.Rows
section
variable {X : Cx} {kws : List Keyword} {tk : TA} {p pos : Pos}
end
end L2
namespace Rg
open PySem PySem.Spec PyProof.Rows L2
section
variable {G : Gx} {X : Cx} {kws : List Keyword} {pos p : Pos} {pk : PAt} {x : Str}
end
end Rg

set_option Elab.async false
set_option linter.all false
set_option maxRecDepth 100000
set_option maxHeartbeats 4000000
namespace Rg
open PySem PySem.Spec PyProof.Rows L2
section
variable {X : Cx} {p pos : Pos}
end
section
variable {G : Gx} {X : Cx}
end
section
variable {P : Program} {w : World} {K : PySem.W.Frag} {mg : Str → Option Value} {base : Heap}
variable {CX : CXT} {x qual : Str} {params : Arguments} {body : List Stmt} {scope : Scope} {dvs : List V} {kws : List (Str × V)} {f : Addr} {fd : FuncData} {N ps : List Str} {k : Nat} {Fn : Addr → Str → PFn}
end
section
variable {G : Gx} {X : Cx} {es : List Expr} {pos pos1 p p1 : Pos} {pl : PAt} {x y : Str}
end
end Rg

set_option Elab.async false
set_option linter.all false
set_option maxRecDepth 100000
set_option maxHeartbeats 4000000
namespace Rg
open PySem PySem.Spec PyProof.Rows L2
theorem MkS.calm {P : Program} {w : World} {K : PySem.W.Frag} {mg : Str → Option Value} {base : Heap} {k : Nat} {C : Str} {fs : List Str} {Fn : NFn} {x : Str} (c : MkS P w K mg base (L2.CX P w) k x (He.ga K C) (spNew K C fs Fn)) : MkS P w K mg base CX0 k x (He.ga K C) (spNew K C fs (calmN Fn)) := by
  obtain ⟨g, M, F, hm⟩ := c.ex
  refine ⟨g, M, fun A outer s H us vs Q E hr he hv hs => ?_, hm⟩
  have cs : spNew K C fs Fn vs H Q fun _ _ _ => False := by
    obtain ⟨D, pn, x, dx, us, ds, n, Qd, R, h1, h2, h3, h4, h5, h6, h7, h8, h9, _⟩ := hs
    exact ⟨D, pn, x, dx, us, ds, n, Qd, _, h1, h2, h3, h4, h5, h6, h7, h8, h9, exX_never⟩
  refine codeAny_mono (F A outer s H us vs Q _ hr he hv cs) fun r s' hq => ?_
  cases r with
  | error e => exact (calm_cx hq).elim
  | ok fl => cases fl <;> exact hq
end Rg

set_option Elab.async false
set_option linter.all false
set_option maxRecDepth 100000
set_option maxHeartbeats 2000000
namespace L2
open PySem PySem.Spec PyProof.Rows GenW
/-- a generator def's body in its legs: all is fixed but what stands at a leg's start -/
structure GCx where
  X : Cx
  xe : Shared → Value → Shared → Prop
def GCx.at (G : GCx) (s0 : Shared) : Cx := { G.X with s_0 := s0, xe := G.xe s0 }
/-- the legs: what is known of one at its start (by the turns that are left), what is told where it ends, how the heap goes on -/
structure Legs where
  ι : Type
  s0 : ι → Shared
  ok : Nat → Shared → ι → Prop
  yd : ι → Hp → List V → V → St → Hp → Prop
  wk : ι → Hp → Hp → ι → Hp → Prop
  sz : Nat
  szok : ∀ n s₀ ℓ, ok n s₀ ℓ → (s0 ℓ).heap.objs.size = sz
structure FEnds (ι : Type) where
  nx : ι → List V → St → Hp → Prop
  rt : ι → List V → V → Hp → Prop
  bk : ι → List V → St → Hp → Prop := fun _ _ _ _ => False
  ct : ι → List V → St → Hp → Prop := fun _ _ _ _ => False
def FEnds.at {ι : Type} (D : FEnds ι) (ℓ : ι) (ys : List V) : Ends := { nx := D.nx ℓ ys, rt := D.rt ℓ ys, bk := D.bk ℓ ys, ct := D.ct ℓ ys }
section
variable (L : Legs) (G : GCx)
end
section
variable {L : Legs} {G : GCx} {st : Stmt} {rest : List Stmt}
end
end L2

set_option Elab.async false
set_option linter.all false
set_option maxRecDepth 100000
set_option maxHeartbeats 2000000
namespace L2
open PySem PySem.Spec PyProof.Rows GenW
section
variable {X : Cx} {pins : List (Addr × Obj)} {σ : List (Option V)} {H H' : Hp} {s : Shared}
end
end L2
namespace Rg
open PySem PySem.Spec PyProof.Rows L2
end Rg

set_option Elab.async false
set_option linter.all false
set_option maxRecDepth 100000
set_option maxHeartbeats 2000000
namespace L2
open PySem PySem.Spec PyProof.Rows GenW
abbrev XNone : XK := fun _ _ _ => False
section
variable {P : Program} {w : World} {K : PySem.W.Frag} {mg : Str → Option Value} {base : Heap} {N : List Str} {qual : Str} {scope : Scope} {f : Addr} {cd : Value} {A : Around} {outer : List Env} {s s0 : Shared} {H : Hp} {pn : List (Addr × Obj)}
end
end L2

set_option Elab.async false
set_option linter.all false
set_option maxRecDepth 100000
set_option maxHeartbeats 2000000
namespace Rg
open PySem PySem.Spec PyProof.Rows L2
/-- a leg: what stands at its start, what of the other side's is kept aside, what was settled where the leg before ended, what the consumer knows -/
structure PLeg (κ : Type) where
  s0 : Shared
  fr : List (Addr × HO)
  dg : Hp
  g : κ
/-- the other side's objects: those at fr go, those at fr' come -/
structure Swap (H0 : Hp) (fr fr' : List (Addr × HO)) (H H2 : Hp) : Prop where
  new : ∀ p ∈ fr', H2 p.1 = some p.2
  same : ∀ b, b ∉ fr'.map (·.1) → b ∉ fr.map (·.1) → H2 b = H b
  gone : ∀ b, b ∈ fr.map (·.1) → b ∉ fr'.map (·.1) → H2 b = none
  free : ∀ p ∈ fr', H p.1 = none ∨ p.1 ∈ fr.map (·.1)
  h0 : ∀ p ∈ fr', H0 p.1 = none
  nt : ∀ p ∈ fr', NT p.2
abbrev gfOf (K : PySem.W.Frag) (D0 H0 : Hp) (fr : List (Addr × HO)) : Gx := ⟨K, none, D0, H0, XNone, fr⟩
section
variable {K : PySem.W.Frag} {D D0 H H2 H0 : Hp} {fr fr' : List (Addr × HO)} {σ : L2.St} {ρ : Ps}
theorem rs_swap (F F' : List Addr) (hk : ∀ a, H a ≠ none → a ∉ F → H2 a = H a ∧ a ∉ F') : ∀ {σ : L2.St} {sl : Sl} {as : List Addr}, Rs K D H H0 F σ sl as → ∃ os, as = os ++ F ∧ Rs K D H2 H0 F' σ sl (os ++ F')
  | _, _, _, .nil => ⟨[], rfl, .nil⟩
  | _, _, _, .no r => by
    obtain ⟨os, e, r2⟩ := rs_swap F F' hk r
    exact ⟨os, e, .no r2⟩
  | _, _, _, .val q r => by
    obtain ⟨os, e, r2⟩ := rs_swap F F' hk r
    exact ⟨os, e, .val q r2⟩
  | _, _, _, @Rs.own _ _ _ _ _ a s σ ρ as ob d z x r => by
    obtain ⟨os, e, r2⟩ := rs_swap F F' hk r
    have hn : H a ≠ none := by
      have key : ∃ u, H a = some u := by
        cases s with
        | val d => exact ob.elim
        | lst ds => obtain ⟨vs, h1, _⟩ := ob; exact ⟨_, h1⟩
        | dK ds => obtain ⟨vs, h1, _⟩ := ob; exact ⟨_, h1⟩
        | dT ds => obtain ⟨vs, h1, _⟩ := ob; exact ⟨_, h1⟩
        | ins C fs => obtain ⟨dx, ps, h1, _⟩ := ob; exact ⟨_, h1⟩
        | dN P w kvs => obtain ⟨xs, h1, _⟩ := ob; exact ⟨_, h1⟩
      obtain ⟨u, h1⟩ := key
      rw [h1]
      exact fun z => nomatch z
    have nF : a ∉ F := fun z => x (by rw [e]; exact List.mem_append_right _ z)
    obtain ⟨k1, k2⟩ := hk a hn nF
    refine ⟨a :: os, by rw [e]; rfl, .own (ob.mono (Same.refl D) k1) d z (fun q => ?_) r2⟩
    rcases List.mem_append.mp q with q | q
    · exact x (by rw [e]; exact List.mem_append_left _ q)
    · exact k2 q
theorem Rel.swap (R : Rel (gfOf K D0 H0 fr) [] D σ H ρ) (S : Swap H0 fr fr' H H2) : Rel (gfOf K D0 H0 fr') [] D σ H2 ρ := by
  obtain ⟨st, ⟨as, r⟩, rf, pen, ph, nt⟩ := R
  have rf : ∀ p ∈ fr, H p.1 = some p.2 ∧ D p.1 = none ∧ H0 p.1 = none := rf
  have inF : ∀ b, b ∈ fr.map (·.1) → D b = none ∧ H0 b = none := fun b hb => by
    obtain ⟨p, hp, rfl⟩ := List.mem_map.mp hb
    exact (rf p hp).2
  have inF' : ∀ b, b ∈ fr'.map (·.1) → D b = none ∧ H0 b = none := fun b hb => by
    obtain ⟨p, hp, rfl⟩ := List.mem_map.mp hb
    refine ⟨?_, S.h0 p hp⟩
    rcases S.free p hp with z | z
    · exact st.dfree z
    · exact (inF _ z).1
  have kp0 : ∀ b, H0 b ≠ none → H2 b = H b := fun b h => S.same b (fun z => h (inF' b z).2) fun z => h (inF b z).2
  have kpD : ∀ b, D b ≠ none → H2 b = H b := fun b h => S.same b (fun z => h (inF' b z).1) fun z => h (inF b z).1
  refine ⟨⟨st.dd, fun b u e => ?_, fun b o hw n e => ?_, fun b e => ?_, st.fr, fun b hw t => ?_⟩, ?_, fun p hp => ?_, (fun p e => nomatch e), (fun p e => nomatch e), S.nt⟩
  · rw [kpD b (by rw [e]; exact fun z => nomatch z)]
    exact st.dh b u e
  · have e : H0 b = some o := e
    rw [kp0 b (by rw [e]; exact fun z => nomatch z)]
    exact st.kq b o hw n e
  · rw [kp0 b e]
    exact st.ns b e
  · have hn := t.there
    obtain ⟨h1, ps, h2, h3, h4⟩ := st.tb b hw t
    exact ⟨h1, ps, by rw [kp0 b hn]; exact h2, h3, h4⟩
  · obtain ⟨os, _, r2⟩ := rs_swap (H2 := H2) (fr.map (·.1)) (fr'.map (·.1)) (fun a ha hF => by
      have nF' : a ∉ fr'.map (·.1) := fun z => by
        obtain ⟨p, hp, e⟩ := List.mem_map.mp z
        rcases S.free p hp with q | q
        · exact ha (e ▸ q)
        · exact hF (e ▸ q)
      exact ⟨S.same a nF' hF, nF'⟩) r
    exact ⟨_, r2⟩
  · exact ⟨S.new p hp, (inF' p.1 (List.mem_map.mpr ⟨p, hp, rfl⟩)).1, S.h0 p hp⟩
end
def FLk {κ : Type} (K : PySem.W.Frag) (D0 H0 : Hp) (Db : Hp) (p : List DV → Ps → Prop) (t : PLeg κ → List V → L2.St → Hp → Prop) : Prop := ∀ ℓ D σ H ρ ys ds, Same Db D → Same ℓ.dg D → Rel (gfOf K D0 H0 ℓ.fr) [] D σ H ρ → RvA K D ys ds → p ds ρ → t ℓ ys σ H
structure FEndsOk {κ : Type} (K : PySem.W.Frag) (D0 H0 : Hp) (Db : Hp) (Ep : PGEnds) (E : FEnds (PLeg κ)) : Prop where
  nx : FLk K D0 H0 Db Ep.nx E.nx
  bk : FLk K D0 H0 Db Ep.bk E.bk
  ct : FLk K D0 H0 Db Ep.ct E.ct
section
variable {κ : Type} {K : PySem.W.Frag} {D0 H0 Db D1 : Hp} {Ep : PGEnds} {E : FEnds (PLeg κ)}
theorem FLk.up {p : List DV → Ps → Prop} {t : PLeg κ → List V → L2.St → Hp → Prop} (h : FLk K D0 H0 Db p t) (s : Same Db D1) : FLk K D0 H0 D1 p t := fun ℓ D σ H ρ ys ds e => h ℓ D σ H ρ ys ds (s.trans e)
theorem FEndsOk.up (h : FEndsOk K D0 H0 Db Ep E) (s : Same Db D1) : FEndsOk K D0 H0 D1 Ep E := ⟨h.nx.up s, h.bk.up s, h.ct.up s⟩
end
section
variable {κ : Type} {K : PySem.W.Frag} {D0 H0 : Hp} {sz : Nat} {ok : Nat → Shared → PLeg κ → Prop} {Y : List DV → Prop} {GC : GCx} {a b c e tg : Expr} {st : Stmt} {sts sts2 : List Stmt} {pos yp : Pos} {pa : PEt} {pt : PTt} {p q : PGn} {pp : PSt}
end
end Rg

set_option Elab.async false
set_option linter.all false
set_option maxRecDepth 100000
set_option maxHeartbeats 2000000
namespace L2
open PySem PySem.Spec PyProof.Rows GenW
theorem ObjOk.there {P : Program} {w : World} {H : Hp} {h : Heap} {a : Addr} {o : HO} (x : ObjOk P w H h a o) : ∃ ob, h.get? a = some ob := by
  cases o with
  | lst xs => obtain ⟨_, _, _, _, e⟩ := x; exact ⟨_, e⟩
  | tup xs => obtain ⟨_, _, _, ob, e, _⟩ := x; exact ⟨_, e⟩
  | dK kvs => obtain ⟨_, _, _, _, o, _, _, e, _⟩ := x; exact ⟨_, e⟩
  | dT kvs => obtain ⟨_, _, _, _, o, _, _, e, _⟩ := x; exact ⟨_, e⟩
  | set S n => obtain ⟨o, _, _, _, e, _⟩ := x; exact ⟨_, e⟩
  | ins C dx fs => obtain ⟨_, _, _, e, _⟩ := x; exact ⟨_, e⟩
  | own y => obtain ⟨_, e⟩ := x; exact ⟨_, e⟩
  | xd fs => obtain ⟨_, ⟨_, _, _, e, _⟩, _⟩ := x; exact ⟨_, e⟩
  | rng lo hi => obtain ⟨_, _, _, e⟩ := x; exact ⟨_, e⟩
  | frz ob u => obtain ⟨e, _⟩ := x; exact ⟨_, e⟩
  | tbl ps => exact ⟨_, (show h.get? a = some _ from x)⟩
  | met f y => exact ⟨_, (show h.get? a = some _ from x)⟩
  | ext φ => obtain ⟨_, e, _⟩ := x; exact e
end L2
namespace Rg
open PySem PySem.Spec PyProof.Rows L2
section
variable {Xc : Cx} {G : Gx} {N : List Str} {qual : Str} {scope : Scope} {f : Addr} {cd : Value} {Aw : Around} {s : Shared} {Hs : Hp} {pn : List (Addr × Obj)} {n0 : Nat} {pins : List (Addr × Obj)} {s₀ s1 s1' : Shared} {σ : L2.St} {H D : Hp} {ρ : Ps} {Hb Dg : Hp} {pr fr : List (Addr × HO)} {ip : List (Addr × Obj)} {σg : L2.St} {Hg Dg1 : Hp}
end
end Rg

set_option Elab.async false
set_option linter.all false
set_option maxRecDepth 100000
set_option maxHeartbeats 2000000
namespace Rg
open PySem PySem.Spec PyProof.Rows L2
section
variable {Xc : Cx} {G : Gx} {N : List Str} {qual : Str} {scope : Scope} {f : Addr} {cd : Value} {Aw : Around} {s : Shared} {Hs : Hp} {pn : List (Addr × Obj)} {n0 : Nat} {pins : List (Addr × Obj)} {s₀ s1 s1' s2 : Shared} {σ σ2 : L2.St} {H1 D1 H2 D2 D : Hp} {ρ ρ2 : Ps} {Hb Dg : Hp} {pr1 fr : List (Addr × HO)} {ip : List (Addr × Obj)} {σg : L2.St} {Hg Dg1 : Hp}
end
end Rg

set_option Elab.async false
set_option linter.all false
set_option maxRecDepth 100000
set_option maxHeartbeats 2000000
namespace L2
open PySem PySem.Spec PyProof.Rows
/-- a sleeping generator that cannot be woken -/
def deadG : GenState → GenState
  | .suspended _ l c p fs cl => .suspended (fun _ => .unsupported "asleep") l c p fs cl
  | x => x
def sleepG : GenState → Bool
  | .suspended .. => true
  | _ => false
theorem deadG_bare (x : GenState) : (deadG x).bare = x.bare := by cases x <;> rfl
def isRet : Frame → Bool
  | .ret .. => true
  | .gen .. => false
def NoGen (fs : List Frame) : Prop := ∀ f ∈ fs, isRet f = true
section
variable {M : Model} {Γ : PySem.Ctx} {p : Pos} {t : Sem PySem.Fin} {fs : List Frame} {s s' : Shared} {e : End}
end
/-- z: the table where the run begins; g: now; g2: now, of a run that began with all sleepers dead -/
def NewG (z : Array GenState) (i : Nat) : Prop := ∀ x, z[i]? = some x → sleepG x = false
structure Asl (z g g2 : Array GenState) : Prop where
  sz : g2.size = g.size
  zs : z.size ≤ g.size
  old : ∀ (i : Nat) x, z[i]? = some x → sleepG x = true → g[i]? = some x ∧ g2[i]? = some (deadG x)
  new : ∀ (i : Nat), NewG z i → g2[i]? = g[i]?
  fr : ∀ (i : Nat), NewG z i → ∀ k l c p fs cl, g[i]? = some (.suspended k l c p fs cl) → NoGen fs
theorem newG_or (z : Array GenState) (i : Nat) : NewG z i ∨ ∃ x, z[i]? = some x ∧ sleepG x = true := by
  by_cases h : ∃ x, z[i]? = some x ∧ sleepG x = true
  · exact .inr h
  · refine .inl fun x hx => ?_
    cases e : sleepG x with
    | false => rfl
    | true => exact absurd ⟨x, hx, e⟩ h
theorem Asl.start (z : Array GenState) : Asl z z (z.map deadG) := by
  refine ⟨Array.size_map, Nat.le_refl _, fun i x h hs => ⟨h, by rw [Array.getElem?_map, h]; rfl⟩, fun i hn => ?_, fun i hn k l c p fs cl h => ?_⟩
  · rw [Array.getElem?_map]
    cases e : z[i]? with
    | none => rfl
    | some x =>
      have := hn x e
      cases x with
      | suspended => cases this
      | _ => rfl
  · have := hn _ h
    cases this
section
variable {z g g2 : Array GenState}
theorem Asl.push (A : Asl z g g2) (c : Code) : Asl z (g.push (.fresh c)) (g2.push (.fresh c)) := by
  have lt : ∀ i x, z[i]? = some x → i < g.size := fun i x h => Nat.lt_of_lt_of_le (Array.getElem?_eq_some_iff.mp h).1 A.zs
  refine ⟨by rw [Array.size_push, Array.size_push, A.sz], by rw [Array.size_push]; exact Nat.le_succ_of_le A.zs, fun i x h hs => ?_, fun i hn => ?_, fun i hn k l c' p fs cl h => ?_⟩
  · have l := lt i x h
    obtain ⟨h1, h2⟩ := A.old i x h hs
    rw [Array.getElem?_push, Array.getElem?_push, if_neg (Nat.ne_of_lt l), if_neg (by rw [A.sz]; exact Nat.ne_of_lt l)]
    exact ⟨h1, h2⟩
  · rw [Array.getElem?_push, Array.getElem?_push, A.sz]
    split
    · rfl
    · exact A.new i hn
  · rw [Array.getElem?_push] at h
    split at h
    · cases h
    · exact A.fr i hn k l c' p fs cl h
theorem Asl.set {i : Nat} {x : GenState} (A : Asl z g g2) (hi : NewG z i) (hx : ∀ k l c p fs cl, x = .suspended k l c p fs cl → NoGen fs) : Asl z (g.setIfInBounds i x) (g2.setIfInBounds i x) := by
  refine ⟨by rw [Array.size_setIfInBounds, Array.size_setIfInBounds, A.sz], by rw [Array.size_setIfInBounds]; exact A.zs, fun j y h hs => ?_, fun j hn => ?_, fun j hn k l c p fs cl h => ?_⟩
  · have ne : i ≠ j := fun e => by
      subst e
      have := hi y h
      rw [hs] at this
      cases this
    rw [Array.getElem?_setIfInBounds_ne ne, Array.getElem?_setIfInBounds_ne ne]
    exact A.old j y h hs
  · rw [Array.getElem?_setIfInBounds, Array.getElem?_setIfInBounds, A.sz]
    split
    · rfl
    · exact A.new j hn
  · rw [Array.getElem?_setIfInBounds] at h
    split at h
    · split at h
      · exact hx _ _ _ _ _ _ (Option.some.inj h)
      · cases h
    · exact A.fr j hn k l c p fs cl h
theorem Asl.at (A : Asl z g g2) {i : Nat} {x : GenState} (h : g2[i]? = some x) : (NewG z i ∧ g[i]? = some x) ∨ ∃ y, z[i]? = some y ∧ sleepG y = true ∧ g[i]? = some y ∧ x = deadG y := by
  rcases newG_or z i with n | ⟨y, h1, h2⟩
  · exact .inl ⟨n, by rw [← A.new i n]; exact h⟩
  · obtain ⟨a, b⟩ := A.old i y h1 h2
    rw [h] at b
    exact .inr ⟨y, h1, h2, a, Option.some.inj b⟩
theorem Asl.bare (A : Asl z g g2) (h : AllBare g2) : AllBare g := fun y hy => by
  obtain ⟨i, hi, e⟩ := Array.mem_iff_getElem.mp hy
  have q : g[i]? = some y := by rw [Array.getElem?_eq_getElem hi, e]
  rcases newG_or z i with n | ⟨x, h1, h2⟩
  · have := A.new i n
    rw [q] at this
    exact h y (Array.mem_of_getElem? this)
  · obtain ⟨a, b⟩ := A.old i x h1 h2
    rw [q] at a
    cases a
    rw [← deadG_bare y]
    exact h _ (Array.mem_of_getElem? b)
end
section
variable {M : Model} {z : Array GenState}
end
end L2

set_option Elab.async false
set_option linter.all false
set_option maxRecDepth 100000
set_option maxHeartbeats 2000000
namespace L2
open PySem PySem.Spec PyProof.Rows GenW
section
variable {X : Cx} {pins : List (Addr × Obj)} {σ : List (Option V)} {H : Hp} {s s2 : Shared}
end
section
variable {M : Model}
end
section
variable {P : Program} {w : World} {A : Around} {E : Value → Shared → Prop} {s : Shared}
end
end L2

set_option Elab.async false
set_option linter.all false
set_option maxRecDepth 100000
set_option maxHeartbeats 4000000
namespace Rg
open PySem PySem.Spec PyProof.Rows L2 GenW
section
variable {G : Gx} {X : Cx} {e : Expr} {es : List Expr} {pos pos' p apos : Pos} {pa : PEt} {pl : PAt}
end
end Rg

set_option Elab.async false
set_option linter.all false
set_option maxRecDepth 100000
set_option maxHeartbeats 4000000
namespace Rg
open PySem PySem.Spec PyProof.Rows L2 GenW
section
variable {G : Gx} {X : Cx} {a tg : Expr} {sts : List Stmt} {pos : Pos} {p : PSt}
end
end Rg

set_option Elab.async false
set_option linter.all false
set_option maxRecDepth 100000
set_option maxHeartbeats 4000000
namespace Rg
open PySem PySem.Spec PyProof.Rows L2 GenW
section
variable {P : Program} {w : World} {K : PySem.W.Frag} {mg : Str → Option Value} {base : Heap} {N : List Str} {qual : Str} {scope : Scope} {f : Addr} {cd : Value} {A : Around} {outer : List Env} {s : Shared} {H : Hp} {E : XK}
end
section
variable {P : Program} {w : World} {K : PySem.W.Frag} {mg : Str → Option Value} {base : Heap}
variable {x qual : Str} {params : Arguments} {body : List Stmt} {scope : Scope} {dvs : List V} {kws : List (Str × V)} {f : Addr} {fd : FuncData} {N ps : List Str} {k : Nat}
end
end Rg

set_option Elab.async false
set_option linter.all false
set_option maxRecDepth 100000
set_option maxHeartbeats 4000000
namespace Rg
open PySem PySem.Spec PyProof.Rows L2
section
variable {P : Program} {w : World} {K : PySem.W.Frag} {mg : Str → Option Value} {base : Heap} {CX : CXT} {k : Nat} {Fn : PFn}
end
structure EndsF (G : Gx) (Ep : PEnds) (E : Ends) : Prop where
  rt : ∀ D H a us es n, StepT G.K (Wn G.pn) G.D0 G.H0 D H → G.H0 a = none → H a = some (.lst us) → D a = none → RvA G.K D us es → PenOk G.K D H G.pn n → Ep.rt (.lst es) n → E.rt (.ref a) H
def lSF (G : Gx) (p : PSt) : TS := fun E σ H => ∃ (D : Hp) (ρ : Ps) (Ep : PEnds), Rel G [] D σ H ρ ∧ p Ep ρ ∧ EndsF G Ep E ∧ ExOk G Ep.rs
structure DSF (G : Gx) (X : Cx) (st : List Stmt) (p : PSt) : Prop where
  run : PSs X st (lSF G p)
section
variable {G : Gx} {X : Cx} {e : Expr} {es : List Expr} {st : Stmt} {sts : List Stmt} {pos pos2 apos : Pos} {p q : PSt} {pf pl : PAt} {pa : PEt}
theorem DSF.nox (h : DSF G X.nox sts p) : DSF G X sts p := ⟨h.run.nox⟩
end
section
variable {P : Program} {w : World} {K : PySem.W.Frag} {mg : Str → Option Value} {base : Heap}
variable {CX : CXT} {x qual : Str} {params : Arguments} {body : List Stmt} {scope : Scope} {dvs : List V} {kws : List (Str × V)} {f : Addr} {fd : FuncData} {N ps : List Str} {k : Nat} {Fn : PFn}
end
section
variable {G : Gx} {X : Cx} {e fe o : Expr} {es : List Expr} {pos pos' apos p0 : Pos} {pl : PAt} {pa : PEt} {Fn : PFn}
end
section
variable {K : PySem.W.Frag} {pn : Option Addr} {D0 H0 : Hp} {E : XK} {fr : List (Addr × HO)} {X : Cx} {a e fe : Expr} {es : List Expr} {pa : PEt} {pl : PAt} {CX : CXT} {k j : Nat} {Fn : PFn} {C m x : Str} {pos : Pos}
end
end Rg

set_option Elab.async false
set_option linter.all false
set_option maxRecDepth 100000
set_option maxHeartbeats 4000000
namespace Rg
open PySem PySem.Spec PyProof.Rows L2
section
variable {κ : Type} {K : PySem.W.Frag} {D0 H0 : Hp} {sz : Nat} {ok : Nat → Shared → PLeg κ → Prop} {Y : List DV → Prop} {GC : GCx} {c : Expr} {sts : List Stmt} {pos : Pos} {pt : PTt} {p : PGn}
end
end Rg

set_option Elab.async false
set_option linter.all false
set_option maxRecDepth 100000
set_option maxHeartbeats 4000000
namespace L2
open PySem PySem.Spec PyProof.Rows ClX
structure SupC (P : Program) : Prop where
  file : ((P.main.file : Str) == Rg.supFile) = true
  top : (P.main.scope.names.lookup ("super" : Str)).isSome = false
/-- what stands behind the top for a def at f that closes over the class at D -/
structure SupAt (K : PySem.W.Frag) (f cda cc D : Addr) (params : Arguments) : Prop where
  fn : ∃ (oc : Value) (od : Option Addr) (fd : FuncData) (osl : Array (Option Value)), K.lookup f = some ⟨oc, od, .func fd, osl⟩ ∧ fd.params = params
  code : ∃ (ccl : Value) (cdd : Option Addr) (vs : Array Value) (ccs : Array (Option Value)) (tf : Tok), K.lookup cda = some ⟨ccl, cdd, .fields vs, ccs⟩ ∧ vs[2]? = some (.str Rg.supFile tf)
  cell : ∃ (cl : Value) (cld : Option Addr) (csl : Array (Option Value)), K.lookup cc = some ⟨cl, cld, .cell (some (.ref D)), csl⟩
structure FunS (K : PySem.W.Frag) (x qual : Str) (params : Arguments) (body : List Stmt) (scope : Scope) (dvs : List V) (kws : List (Str × V)) (f : Addr) (fd : FuncData) (D : Addr) : Prop where
  ex : ∃ (cc cda : Addr) (oc : Value) (od : Option Addr) (dV kV doc pm : Value) (an : Option Addr) (ct : Value) (osl : Array (Option Value)),
    fd = PySem.W.ksFn x qual params body scope dV kV doc pm an (.ref cda) ct cc ∧ K.lookup f = some ⟨oc, od, .func fd, osl⟩ ∧ PySem.W.codeIn K (.ref cda) qual = true ∧ DflV K dV dvs ∧ KwdV K kV kws ∧ SupAt K f cda cc D params
  kp : PySem.W.keepIn K (.ref f) = true
theorem funS_of {K : PySem.W.Frag} {d : He5.DefA} {D : Addr} (e : He.fnS K (d.at_ K) = d.val) (c : d.ok K = true) (b : Rg.supB K (d.at_ K) D = true) : ∃ fd, FunS K d.name d.qual d.params d.body d.scope (d.dvs K) (d.kws K) (d.at_ K) fd D := by
  obtain ⟨kp, c2⟩ := Bool.and_eq_true_iff.mp c
  unfold He.fnS at e
  unfold Rg.supB at b
  cases q : K.lookup (d.at_ K) with
  | none =>
    rw [q] at c2
    cases c2
  | some o =>
    obtain ⟨oc, od, dt, osl⟩ := o
    rw [q] at c2 e b
    cases dt with
    | func fd =>
      obtain ⟨n1, n2, n3, n4, n5, n6, n7, n8, n9, n10, n11, n12, n13, n14, n15⟩ := fd
      have e2 : (some (n1, n2, n3, n4, n5, n6, [], n15) : He5.FnW) = some (d.name, d.qual, d.params, .stmts d.body, d.scope, mainGlobals, [], builtinsNs) := e
      simp only [Option.some.injEq, Prod.mk.injEq] at e2
      obtain ⟨h1, h2, h3, h4, h5, h6, _, h8⟩ := e2
      subst h1 h2 h3 h4 h5 h6 h8
      have c3 : (PySem.W.codeIn K n13 d.qual && (He.dflB K n8 (d.dvs K) && He.kwdB K n9 (d.kws K))) = true := c2
      obtain ⟨k1, k2⟩ := Bool.and_eq_true_iff.mp c3
      obtain ⟨k3, k4⟩ := Bool.and_eq_true_iff.mp k2
      dsimp only at b
      obtain ⟨b1, b2⟩ := Bool.and_eq_true_iff.mp b
      split at b1
      · next n cc =>
        obtain ⟨b3, b4⟩ := Bool.and_eq_true_iff.mp b1
        obtain rfl : n = "__class__" := of_decide_eq_true b3
        split at b4
        · next cl cld dd csl lc =>
          obtain rfl : dd = D := of_decide_eq_true b4
          split at b2
          · next cda =>
            split at b2
            · next ccl cdd vs ccs lk =>
              split at b2
              · next file tf hv =>
                obtain rfl : file = Rg.supFile := of_decide_eq_true b2
                exact ⟨_, ⟨cc, cda, oc, od, n8, n9, n10, n11, n12, n14, osl, rfl, q, k1, He.dflB_ok k3, He.kwdB_ok k4, ⟨oc, od, _, osl, q, rfl⟩, ⟨ccl, cdd, vs, ccs, tf, lk, hv⟩, ⟨cl, cld, csl, lc⟩⟩, kp⟩
              · cases b2
            · cases b2
          · cases b2
        · cases b4
      · cases b1
    | _ => cases c2
theorem saysS_def {ss : List He5.DefA} {K : PySem.W.Frag} {D : Addr} (c : He.SaysS ss K) (i : Nat) {d : He5.DefA} (b : Rg.supB K (d.at_ K) D = true) (h : ss[i]? = some d := by rfl) : ∃ fd, FunS K d.name d.qual d.params d.body d.scope (d.dvs K) (d.kws K) (d.at_ K) fd D := by
  have e2 : (ss.map fun d => He.fnS K (d.at_ K))[i]? = (ss.map He5.DefA.val)[i]? := by rw [c.2]
  rw [List.getElem?_map, List.getElem?_map, h] at e2
  exact funS_of (Option.some.inj e2) (List.all_eq_true.mp c.1 d (List.mem_of_getElem? h)) b
structure SScope (N P : List Str) (sc : Scope) : Prop where
  kind : sc.kind = .function
  co : sc.isCoroutine = false
  gen : sc.isGenerator = false
  nd : N.Nodup
  pre : N.take P.length = P
  par : ∀ x ∈ P, sc.names.lookup x = some .local
  nocell : ∀ y ∈ sc.names, y.2 ≠ .cell
  free : ∀ y ∈ sc.names, y.2 = .free → y.1 = "__class__"
  sup : sc.names.lookup ("super" : Str) = some .globalImplicit
  cls : sc.names.lookup ("__class__" : Str) = some .free
def cxS (CX : CXT) (P : Program) (w : World) (K : PySem.W.Frag) (mg : Str → Option Value) (base : Heap) (N : List Str) (qual : Str) (scope : Scope) (f cda cc : Addr) (A : Around) (outer : List Env) (s : Shared) (H : Hp) (E : XK) : Cx where
  prog := P
  w := w
  K := K
  mg := mg
  base := base
  A := A.deeper (PySem.W.ksEnv qual scope s.heap.objs.size f (.ref cda) cc)
  N := N
  s_0 := s
  H_0 := H
  env := PySem.W.ksEnv qual scope s.heap.objs.size f (.ref cda) cc
  outer := outer
  stack := PySem.W.ksEnv qual scope s.heap.objs.size f (.ref cda) cc :: outer
  ex := []
  calm := true
  fn := fun _ => false
  pn := []
  xe := fun e s' => wpAny (model P w) (A.deeper (PySem.W.ksEnv qual scope s.heap.objs.size f (.ref cda) cc)) (leaving (PySem.W.ksEnv qual scope s.heap.objs.size f (.ref cda) cc) e) (fun _ s'' => CX outer H s E e s'') (fun e' s'' => CX outer H s E e' s'') s'
theorem lookup_nd {α : Type} : ∀ {l : List (Str × α)} {x : Str} {v : α}, (x, v) ∈ l → (∀ u, (x, u) ∈ l → u = v) → l.lookup x = some v
  | [], _, _, h, _ => nomatch h
  | (y, u) :: r, x, v, h, hu => by
    by_cases q : x = y
    · subst q
      rw [List.lookup_cons_self, hu u List.mem_cons_self]
    · rw [List.lookup_cons, show (x == y) = false from beq_eq_false_iff_ne.mpr q]
      refine lookup_nd ?_ fun u hm => hu u (List.mem_cons_of_mem _ hm)
      rcases List.mem_cons.mp h with e | h
      · cases e
        exact absurd rfl q
      · exact h
theorem zip_uniq {α : Type} : ∀ {ps : List Str} {us : List α} {x : Str} {u v : α}, ps.Nodup → (x, u) ∈ ps.zip us → (x, v) ∈ ps.zip us → u = v
  | [], _, _, _, _, _, h, _ => nomatch h
  | _ :: _, [], _, _, _, _, h, _ => nomatch h
  | p :: ps, a :: us, x, u, v, nd, h1, h2 => by
    obtain ⟨n1, n2⟩ := List.nodup_cons.mp nd
    rcases List.mem_cons.mp (show (x, u) ∈ (p, a) :: ps.zip us from h1) with e1 | h1
    · rcases List.mem_cons.mp (show (x, v) ∈ (p, a) :: ps.zip us from h2) with e2 | h2
      · cases e1
        cases e2
        rfl
      · cases e1
        exact absurd (List.of_mem_zip h2).1 n1
    · rcases List.mem_cons.mp (show (x, v) ∈ (p, a) :: ps.zip us from h2) with e2 | h2
      · cases e2
        exact absurd (List.of_mem_zip h1).1 n1
      · exact zip_uniq n2 h1 h2
theorem zip_at {α : Type} : ∀ {ps : List Str} {us : List α} {i : Nat} {x : Str} {u : α}, ps[i]? = some x → us[i]? = some u → (x, u) ∈ ps.zip us
  | [], _, _, _, _, h, _ => by simp at h
  | _ :: _, [], _, _, _, _, h => by simp at h
  | p :: ps, a :: us, 0, x, u, h1, h2 => by
    simp at h1 h2
    subst h1 h2
    exact List.mem_cons_self
  | p :: ps, a :: us, i + 1, x, u, h1, h2 => List.mem_cons_of_mem _ (zip_at (i := i) (by simpa using h1) (by simpa using h2))
section
variable {CX : CXT} {P : Program} {w : World} {K : PySem.W.Frag} {mg : Str → Option Value} {base : Heap} {N ps : List Str} {x qual : Str} {params : Arguments} {body : List Stmt} {scope : Scope} {dvs : List V} {kws : List (Str × V)} {f cda cc D : Addr} {fd : FuncData} {A : Around} {outer : List Env} {s : Shared} {H : Hp} {E : XK} {us : List Value} {vs : List V} {k : Nat}
theorem inv_startS {h₀ : Heap} {tk : Nat} (S : SScope N ps scope) (hd : A.handled = none) (e0 : Env0 P w K mg base A outer s H) (hl : vs.length = ps.length) (r : Vals vs us) (hc : ∃ (cl : Value) (cld : Option Addr) (csl : Array (Option Value)), K.lookup cc = some ⟨cl, cld, .cell (some (.ref D)), csl⟩)
    (hns : h₀.Ns s.heap.objs.size (fun x => (ps.zip us).reverse.lookup x)) (hk : ∀ b o, s.heap.get? b = some o → h₀.get? b = some o) : Inv (cxS CX P w K mg base N qual scope f cda cc A outer s H E) [] (start N vs) H { s with heap := h₀, toks := tk } := by
  have hpl : ps.length ≤ N.length := by have := congrArg List.length S.pre; rw [List.length_take] at this; omega
  have noA : ∀ b : Addr, b ∉ (cxS CX P w K mg base N qual scope f cda cc A outer s H E).ex := fun b z => absurd (show b ∈ ([] : List Addr) from z) (by simp)
  obtain ⟨cl, cld, csl, lc⟩ := hc
  have bc := e0.mod.kin _ _ lc
  have cells : ∀ {y : Str} {c : Addr}, (cxS CX P w K mg base N qual scope f cda cc A outer s H E).env.cells.lookup y = some c → y = "__class__" ∧ c = cc := fun {y c} h => by
    have h : ([("__class__", cc)] : List (Str × Addr)).lookup y = some c := h
    by_cases q : y = "__class__"
    · subst q
      rw [List.lookup_cons_self] at h
      cases h
      exact ⟨rfl, rfl⟩
    · rw [List.lookup_cons, show (y == ("__class__" : Str)) = false from beq_eq_false_iff_ne.mpr q] at h
      cases h
  refine ⟨⟨e0.mod, S.kind, rfl, rfl, Nat.le_refl _, fun y z c h1 h2 => ?_, fun y hy => ?_, fun y c hf h => ?_, fun _ => hd, Around.frames_deeper e0.frames, .inr ⟨rfl, rfl⟩, fun b z => absurd z (noA b), e0.bs, e0.bsz, fun b _ _ => noA b, fun b z => absurd z (noA b), e0.funs, e0.frf⟩,
    rfl, e0.bare, Un.kept hk, ⟨_, hns, fun i y v h1 h2 h3 => ?_⟩, fun y c h => ?_, e0.hok.fresh (Nat.le_refl _), fun y c h => ?_, fun p hp => absurd (show p ∈ ([] : List (Addr × Obj)) from hp) (by simp), e0.hok.kept hk, ?_⟩
  · exact (cells h1).1.trans (cells h2).1.symm
  · have hy : scope.names.lookup y = some .cell ∨ scope.names.lookup y = some .free := hy
    rcases hy with hy | hy
    · exact absurd rfl (S.nocell _ (PySem.mem_of_lookup hy))
    · obtain rfl : y = "__class__" := S.free _ (PySem.mem_of_lookup hy) rfl
      exact ⟨cc, rfl⟩
  · exact absurd (show false = true from hf) (by simp)
  · have hi : i < vs.length := by
      unfold start at h2
      by_cases hi : i < vs.length
      · exact hi
      · rw [List.getElem?_append_right (by simpa using hi)] at h2
        rw [List.getElem?_replicate] at h2
        split at h2 <;> cases h2
    have ha : vs[i]? = some v := by
      unfold start at h2
      rw [List.getElem?_append_left (by simpa using hi), List.getElem?_map] at h2
      cases e : vs[i]? with
      | none => rw [e] at h2; cases h2
      | some a => rw [e] at h2; cases h2; rfl
    obtain ⟨u, hu, rv⟩ := r.get ha
    have hp : ps[i]? = some y := by
      rw [← S.pre, List.getElem?_take_of_lt (by omega)]; exact h1
    have ndP : ps.Nodup := by rw [← S.pre]; exact S.nd.sublist (List.take_sublist _ _)
    have hm := zip_at hp hu
    exact ⟨u, rv, .inl ⟨S.par y (List.mem_of_getElem? hp), lookup_nd (List.mem_reverse.mpr hm) fun u2 h2 => zip_uniq ndP (List.mem_reverse.mp h2) hm⟩⟩
  · obtain ⟨rfl, rfl⟩ := cells h
    exact ⟨some (.ref D), _, hk _ _ (e0.bs _ _ bc).1, rfl⟩
  · obtain ⟨rfl, rfl⟩ := cells h
    exact (e0.bs _ _ bc).2
  · unfold start
    show _ = N.length
    rw [List.length_append, List.length_map, List.length_replicate]
    omega
/-- a body, read where the code that runs is known -/
structure BSs (X : Cx) (whole body : List Stmt) (t : TS) : Prop where
  run : ∀ (pins : List (Addr × Obj)) (s : Shared) (σ : St) (H : Hp) (E : Ends), Inv X pins σ H s → t E σ H → _root_.PySem.wpAt (model X.prog X.w) X.A (.func whole X.env) (execs body X.env) (SP X pins E) X.xe s
theorem FunS.ok {sp : Sp} (F : FunS K x qual params body scope dvs kws f fd D) (S : SScope N ps scope) (len : ∀ vs H Q E, sp vs H Q E → vs.length = ps.length)
    (hbody : ∀ (cda cc : Addr) (A : Around) (outer : List Env) (s : Shared) (H : Hp) (vs : List V) (Q : VK) (E : XK), SupAt K f cda cc D params → Room k (A.deeper (PySem.W.ksEnv qual scope s.heap.objs.size f (.ref cda) cc)) → sp vs H Q E →
      ∃ t, BSs (cxS CX P w K mg base N qual scope f cda cc A outer s H E) body body t ∧ t { nx := fun _ H' => Q .non H', rt := Q } (start N vs) H) : FnOk P w K mg base CX (k + 1) f fd ps sp := by
  obtain ⟨cc, cda, oc, od, dV, kV, doc, pm, an, ct, osl, rfl, lk, hcd, _, _, sa⟩ := F.ex
  refine ⟨len, fun A outer s H args us vs Q E hr e0 hb r hsp => ?_⟩
  have hl := len _ _ _ _ hsp
  have KX : K.In s.heap := e0.mod.kin.keeps fun b o e => (e0.bs b o e).1
  have lim : s.heap.NoLimit := e0.mod.nolimit.keeps fun b o e => (e0.bs b o e).1
  refine PySem.ks_codeAny_call_defAt (body := body) (binds := ps.zip us) hr.depth (KX _ _ lk) rfl lim (PySem.W.codeRec_of KX hcd) rfl hb S.nocell (fun y hy => S.par y.1 (List.of_mem_zip hy).1) (fun h₀ hns hk => ?_) S.co S.gen S.kind
  obtain ⟨t, ht, hq⟩ := hbody cda cc A outer s H vs Q E sa (hr.deeper _) hsp
  have I : Inv (cxS CX P w K mg base N qual scope f cda cc A outer s H E) [] (start N vs) H { s with heap := h₀, toks := s.toks + (ps.zip us).length } := inv_startS S hr.hd e0 hl r sa.cell hns hk
  refine PySem.ks_wpAt_mono (ht.run [] _ (start N vs) H _ I hq) (fun fl s' hs => ?_) fun e s' hs => hs
  have fin : ∀ {σ' : St} {H' : Hp} {v : V} {u : Value}, Inv (cxS CX P w K mg base N qual scope f cda cc A outer s H E) [] σ' H' s' → RelV v u → Q v H' → CE outer P w H s Q u s' :=
    fun {σ' H' v u} J rv q => ⟨v, H', J.os, J.bare, J.base, J.hok, rv, q⟩
  cases fl with
  | ret u =>
    obtain ⟨v, σ', H', J, rv, q⟩ := hs
    exact fin J rv q
  | next =>
    obtain ⟨σ', H', J, q⟩ := hs
    exact fin (v := V.non) (u := Value.none) J rfl q
  | brk =>
    obtain ⟨_, _, _, q⟩ := hs
    exact False.elim q
  | cont =>
    obtain ⟨_, _, _, q⟩ := hs
    exact False.elim q
end
section
variable {X : Cx} {st : Stmt} {sts whole : List Stmt} {t u : TS}
theorem bs_cons (h : PS X st t) (h2 : BSs X whole sts u) : BSs X whole (st :: sts) (tSeq t u) := by
  refine ⟨fun pins s σ H E I ht => PySem.ks_wpAt_execs_cons (wpAt_of_wpAny (thn (h.run pins s σ H { E with nx := u E } I ht) fun fl s' hs => ?_))⟩
  cases fl with
  | next =>
    obtain ⟨σ', H', I', q⟩ := hs
    exact h2.run pins s' σ' H' E I' q
  | brk => exact hs
  | cont => exact hs
  | ret v => exact hs
/-- what super().__init__ wants of the text -/
structure SupIn (K : PySem.W.Frag) (C D g : Addr) : Prop where
  mro : PySem.W.mroIn K C (.ref D) = some true
  sup : PySem.W.ks_superIn K C D "__init__" = some (some (.ref g))
  ty : PySem.W.typeIn K (.ref g) = some (.type "function")
  fi : PySem.W.fnIn K g = true
  cls : (PySem.W.clsIn K D).isSome = true
  opq : PySem.W.nsIn K cStatics "thirdparty.any" = some none
theorem supC_ok {K : PySem.W.Frag} {C D g : Addr} (h : Rg.supC K C D g = true) : SupIn K C D g := by
  obtain ⟨h1, h⟩ := Bool.and_eq_true_iff.mp h
  obtain ⟨h2, h⟩ := Bool.and_eq_true_iff.mp h
  obtain ⟨h3, h⟩ := Bool.and_eq_true_iff.mp h
  obtain ⟨h4, h⟩ := Bool.and_eq_true_iff.mp h
  obtain ⟨h5, h6⟩ := Bool.and_eq_true_iff.mp h
  exact ⟨of_decide_eq_true h1, He.eqO_ok h2, of_decide_eq_true h3, h4, h5, He.eqO_ok h6⟩
/-- super().__init__(e, ..): x the object, which is the first parameter -/
def tSup (K : PySem.W.Frag) (D g : Addr) (sp : Sp) (Ex : XK) (ta : TA) : TS := fun E σ H => ∃ x C dx fs, σ[0]? = some (some (.ref x)) ∧ H x = some (.ins C dx fs) ∧ SupIn K C D g ∧ ta σ H fun vs H1 => sp (.ref x :: vs) H1 (fun _ H2 => E.nx σ H2) Ex
theorem bs_super (hP : SupC X.prog) {CX : CXT} {k : Nat} {q : Str} {scope : Scope} {L f cda cc D g : Addr} {params : Arguments} {ar : Arg} {sp : Sp} {Ex : XK} {ta : TA} {e : Expr} {es : List Expr} {p0 p1 ap pos pos2 : Pos} (sa : SupAt X.K f cda cc D params) (henv : X.env = PySem.W.ksEnv q scope L f (.ref cda) cc)
    (hks : scope.names.lookup ("super" : Str) = some .globalImplicit) (hkc : scope.names.lookup ("__class__" : Str) = some .free) (hk : scope.kind = .function) (hp : (params.posonlyargs ++ params.args).head? = some ar) (hN : X.N[0]? = some ar.arg) (hka : scope.names.lookup ar.arg = some .local) (hm : X.mg "super" = none)
    (F : FnR X.prog X.w X.K X.mg X.base CX k g sp) (hr : Room k X.A) (hx : Passes CX X Ex) (ha : PA X (e :: es) ta)
    (hi : interactive X.env = false := by rfl) (hs : swapsWith (.Call (.Attribute (.Call (.Name "super" p0) [] [] p1) "__init__" ap) (e :: es) [] pos) none pos2.line X.env = pure false := by rfl)
    (hst : starEach (e :: es) X.env = (false, eval e X.env) :: starEach es X.env := by rfl) (hpl : (backTo pos (starEach es X.env)).any (·.1) = false := by rfl)
    (he : eval (.Call (.Attribute (.Call (.Name "super" p0) [] [] p1) "__init__" ap) (e :: es) [] pos) X.env = (do
      let ov ← attributeBase (.Call (.Name "super" p0) [] [] p1) "__init__" X.env (eval (.Call (.Name "super" p0) [] [] p1) X.env)
      standAt ap.atName
      let (f, first) ← holding [ov] (getMethod ov "__init__" (pure false))
      callWith pos f first (backTo pos (starEach (e :: es) X.env)) []) := by rfl) :
    BSs X (whole) [.Expr (.Call (.Attribute (.Call (.Name "super" p0) [] [] p1) "__init__" ap) (e :: es) [] pos) pos2] (tSup X.K D g sp Ex ta) := by
  refine ⟨fun pins s σ H E I ⟨x, C, dx, fs, hx0, hox, si, hta⟩ => ?_⟩
  obtain ⟨oc, od, fd, osl, lf, rfl⟩ := sa.fn
  obtain ⟨ccl, cdd, vs, ccs, tf, lcd, hvs⟩ := sa.code
  obtain ⟨cl, cld, csl, lcc⟩ := sa.cell
  have KI := I.kIn
  obtain ⟨m, hn, hloc⟩ := I.loc
  have hkind : X.env.scope.kind = .function := I.ok.kind
  have kS : X.env.kindOf "super" = some .globalImplicit := by rw [henv]; exact hks
  have kC : X.env.kindOf "__class__" = some .free := by rw [henv]; exact hkc
  have kA : X.env.kindOf ar.arg = some .local := by rw [henv]; exact hka
  obtain ⟨u0, ru0, lk0⟩ := hloc 0 ar.arg (.ref x) hN hx0 (.inl (by rw [henv]; exact hka))
  obtain rfl : u0 = Value.ref x := ru0
  have mx : m ar.arg = some (.ref x) := by
    rcases lk0 with z | ⟨z, _⟩
    · exact z.2
    · rcases z with z | z
      · rw [kA] at z; cases z
      · rw [kA] at z; cases z
  obtain ⟨mA, O, _, _, _, _⟩ := ins_get I.hok hox
  obtain ⟨odx, J, _⟩ := O.look
  obtain ⟨cdD, hcd⟩ := Option.isSome_iff_exists.mp si.cls
  obtain ⟨oD, hD1, hD2⟩ : ∃ oD, s.heap.get? D = some oD ∧ oD.data = .cls cdD := by
    unfold PySem.W.clsIn at hcd
    split at hcd
    · rename_i c d cd' sl ho
      cases hcd
      exact ⟨_, KI _ _ ho, rfl⟩
    · cases hcd
  refine PySem.ks_wpAt_execs_cons (PySem.ks_wpAt_Expr_any (PySem.ks_wpAt_MethodCall (pl := pure false) ?_ he) hi hs)
  refine PySem.ks_wpAt_super_base (ar := ar) (vs := vs) (file := Rg.supFile) (tf := tf) kS kC (by decide) (by rw [henv]) (KI _ _ lf) rfl hp (by rw [henv]) (KI _ _ lcd) rfl hvs hP.file hP.top ?_
  obtain ⟨mb, h1, h2⟩ := I.mod.blt
  refine PySem.W.ks_loadName_global hkind kS (Calls.loadGlobal_builtin (by rw [I.ok.glob]; exact I.mod.glob.keeps I.bk) hm (by rw [I.ok.blt]; exact h1.keeps I.bk) ((h2 "super" (by decide)).trans (by decide +kernel : bootBuiltins "super" = some (.type "super"))) ⟨rfl, ?_⟩)
  refine wpAny_loadName_free hkind kC (c := cc) (by rw [henv]; rfl) ⟨_, KI _ _ lcc, rfl⟩ ?_
  refine wpAny_loadName_local hkind kA hn mx ?_
  obtain ⟨hh, gg, dd, tt, oo⟩ := s
  refine PySem.ks_wpAny_isType_cls hD1 hD2 ⟨rfl, ?_⟩
  refine PySem.ks_wpAny_call_super hD1 hD2 J.at_ J.cls (fun c e => ?_) (PySem.W.looks_mroIn KI si.mro) (fun h' eo kp => ?_)
  · have := J.no
    unfold PySem.W.notCls at this
    rw [e] at this
    exact Bool.noConfusion this
  have I1 : Inv X ((hh.objs.size, PySem.W.ks_superObj D x C) :: pins) σ H ⟨h', gg, dd, tt, oo⟩ := pin_new (s := ⟨hh, gg, dd, tt, oo⟩) I kp (Nat.le_refl _) eo (fun v z => nomatch z)
  cases hc : PySem.W.clsIn X.K C with
  | none =>
    have z := si.sup
    unfold PySem.W.ks_superIn at z
    rw [hc] at z
    cases z
  | some cdC =>
    have z := si.sup
    unfold PySem.W.ks_superIn at z
    rw [hc] at z
    have z : PySem.W.alongIn X.K "__init__" ((cdC.mro.dropWhile (· != .ref D)).drop 1) = some (some (.ref g)) := z
    obtain ⟨og, hog, hogc⟩ : ∃ og, h'.get? g = some og ∧ og.cls = .type "function" := by
      have ht' : (X.K.lookup g).map (·.cls) = some (.type "function") := si.ty
      cases y : X.K.lookup g with
      | none => rw [y] at ht'; cases ht'
      | some og => rw [y] at ht'; exact ⟨og, I1.kIn _ _ y, Option.some.inj ht'⟩
    refine PySem.ks_wpAny_getMethod_super (pin_at I1) (PySem.W.looks_opaque I1.kIn si.opq) (l₀ := cdC.mro) (fun A Q E s k q => wpAny_bind ((PySem.W.looks_clsIn I1.kIn hc) A _ E s k (wpAny_pure q))) rfl I1.kIn z hog hogc (PySem.W.ks_ne KI J hc) (by decide) ?_
    have I2 := met_new (g := g) (C := x) I1
    refine callwith_cm I2 (base_none I1 (Nat.le_refl _)) si.fi (thn (ha.run pos _ _ σ H _ I2 hta) fun us s3 ⟨vs2, H2, I3, rv, q2⟩ => ⟨⟨pin_at I3, I3.kIn⟩, ?_⟩) hst hpl
    refine thn (run_cm F hr hx I3 rv q2) fun v s4 hv => ?_
    obtain ⟨v4, H4, I4, _, q4⟩ := unpinE hv
    refine wpAt_of_wpAny (wpAny_execs_nil ?_)
    exact ⟨σ, H4, I4, q4⟩
end
end L2
namespace Rg
open PySem PySem.Spec PyProof.Rows L2
structure DSz (G : Gx) (X : Cx) (whole : List Stmt) (tl : TS) (sts : List Stmt) (p : PSt) : Prop where
  run : BSs X whole sts (fun E σ H => lS G p { E with nx := tl E } σ H)
section
variable {G : Gx} {X : Cx} {st : Stmt} {sts whole : List Stmt} {p q : PSt} {tl : TS}
theorem z_tail (h : BSs X whole sts tl) : DSz G X whole tl sts pNext := ⟨⟨fun pins s σ H E I ⟨D, ρ, Ep, rel, hp, ok, hx⟩ => h.run pins s σ H E I (ok.nx D σ H ρ (Same.refl D) rel hp)⟩⟩
theorem z_cons (h : DS G X st p) (h2 : DSz G X whole tl sts q) : DSz G X whole tl (st :: sts) (pSeq p q) := by
  refine ⟨⟨fun pins s σ H E I ⟨D, ρ, Ep, rel, hp, ok, hx⟩ => (bs_cons h.run h2.run).run pins s σ H E I ?_⟩⟩
  exact simS_l D σ H ρ { Ep with nx := q Ep } _ rel hp ⟨fun D σ H ρ sm rel h => simS_l D σ H ρ Ep _ rel h (ok.up sm) hx, ok.rt, ok.bk, ok.ct⟩ hx
end
/-- where the arguments are read for the __init__ above -/
def endsZ (x : Addr) (pl : PAt) (Fg : List DV → Nat → (List DV → Nat → Prop) → PR → Prop) (Qd : List DV → Nat → Prop) (R : PR) : PEnds :=
  { nx := fun ρ => ρ.sl[0]? = some (some (.val (.raw (.ref x)))) ∧ pl ρ (fun ds ρ1 => Fg ds ρ1.ink Qd fun _ _ => False) R, rt := fun _ _ => False, rs := R }
section
variable {P : Program} {w : World} {K : PySem.W.Frag} {mg : Str → Option Value} {base : Heap}
variable {CX : CXT} {x qual : Str} {params : Arguments} {body : List Stmt} {scope : Scope} {dvs : List V} {kws : List (Str × V)} {f Da g : Addr} {fd : FuncData} {N ps : List Str} {k : Nat}
theorem ok_newZ {C : Str} {fs : List Str} {Fn Fg : NFn} (F : FunS K x qual params body scope dvs kws f fd Da) (S : SScope N ps scope) (si : SupIn K (He.ga K C) Da g)
    (len : ∀ pn ds n Q R, Fn pn ds n Q R → ds.length + 1 = ps.length)
    (hbody : ∀ (cda cc : Addr) (A : Around) (outer : List Env) (s : Shared) (pn : Option Addr) (D H : Hp) (E : XK) (x : Addr) (ds : List DV) (n : Nat) (Qd : List DV → Nat → Prop) (R : PR), SupAt K f cda cc Da params → Room k (A.deeper (PySem.W.ksEnv qual scope s.heap.objs.size f (.ref cda) cc)) → Fn pn ds n Qd R →
      ∃ pp pl, DSz ⟨K, pn, D, H, E, []⟩ (cxS CX P w K mg base N qual scope f cda cc A outer s H E) body (tSup K Da g (spNew K C fs Fg) (fun _ _ _ => False) (lA ⟨K, pn, D, H, E, []⟩ pl)) body pp ∧ pp (endsZ x pl (Fg pn) Qd R) ⟨startP N (.raw (.ref x) :: ds), n⟩) : FnOk P w K mg base CX (k + 1) f fd ps (spNew K C fs Fn) := by
  refine F.ok S (fun vs H Q E h => ?_) (fun cda cc A outer s H vs Q E sa hr h => ?_)
  · obtain ⟨D, pn, x, dx, us, ds, n, Qd, R, rfl, _, _, _, _, rv, _, hf, _⟩ := h
    rw [List.length_cons, rvA_len rv]
    exact len _ _ _ _ _ hf
  · obtain ⟨D, pn, x, dx, us, ds, n, Qd, R, rfl, sd, ph, dx0, hx, rv, pen, hf, post, ex⟩ := h
    obtain ⟨pp, pl, dv, hp⟩ := hbody cda cc A outer s pn D H E x ds n Qd R sa hr hf
    refine ⟨_, dv.run, D, _, endsZ x pl (Fg pn) Qd R, rel_start sd (fun p e => (ph p e).1) (.cons (.raw _) rv) pen, hp, ⟨?_, fun _ _ _ _ _ _ _ _ z => z.elim, fun _ _ _ _ _ _ z => z.elim, fun _ _ _ _ _ _ z => z.elim⟩, ex.ex⟩
    rintro D' σ' H' ρ' sm rel ⟨g0, hq⟩
    have npx : ¬ Wn pn x := fun e => (ph x e).2 rfl
    have hx' : ∀ {D1 H1 : Hp}, StepT K (Wn pn) D H D1 H1 → H1 x = some (.ins (He.ga K C) dx []) := fun st => st.kq x _ npx True.intro hx
    have dx' : ∀ {D1 H1 : Hp}, StepT K (Wn pn) D H D1 H1 → D1 x = none := fun st => st.fr x (by rw [hx]; exact fun z => nomatch z) dx0
    obtain ⟨v0, e0, r0⟩ := rel.get g0
    rw [rv_raw r0] at e0
    refine ⟨x, He.ga K C, dx, [], e0, hx' rel.st, si, simA_l [] D' σ' H' ρ' _ R _ rel hq ex.ex fun ds1 ρ1 D1 vs1 H1 e1 r1 q1 hf1 => ?_⟩
    refine ⟨D1, pn, x, dx, vs1, ds1, ρ1.ink, Qd, fun _ _ => False, rfl, r1.same, fun p e => ⟨(r1.pen p e).there, (ph p e).2⟩, dx' r1.st, hx' r1.st, q1, r1.pen, hf1, ?_, exX_never⟩
    intro D2 H2 dxe zs es n' st2 d2 h2 hl rv2 pk hq2
    exact post D2 H2 dxe zs es n' ((r1.st.mono (W' := Wx pn x) fun b z => .inr z).trans st2) d2 h2 hl rv2 pk hq2
end
section
variable {G : Gx} {X : Cx} {e : Expr} {p q : PEt}
def pAlt (p q : PEt) : PEt := fun ρ Q R => p ρ Q R ∨ q ρ Q R
theorem d_alt (h : DE G X e p) (h2 : DE G X e q) : DE G X e (pAlt p q) := ⟨⟨fun pins s σ H Q I ⟨F, D, ρ, Qp, R, a, b, c, d⟩ => b.elim (fun b => h.run.run pins s σ H Q I ⟨F, D, ρ, Qp, R, a, b, c, d⟩) fun b => h2.run.run pins s σ H Q I ⟨F, D, ρ, Qp, R, a, b, c, d⟩⟩⟩
end
end Rg
namespace L2
open PySem PySem.Spec PyProof.Rows
section
variable {K : PySem.W.Frag} {x qual : Str} {params : Arguments} {body : List Stmt} {scope : Scope} {kws : List (Str × V)} {f D : Addr} {fd : FuncData} {ps : List Str}
theorem FunS.bindsN (F : FunS K x qual params body scope [] kws f fd D)
    (h : ∀ (kV doc pm : Value) (an : Option Addr) (cdv ct : Value) (cc : Addr) (us : List Value), us.length = ps.length → bindArgs (PySem.W.ksFn x qual params body scope .none kV doc pm an cdv ct cc) ⟨us, []⟩ = pure (ps.zip us)) : Binds K fd ps [] := by
  obtain ⟨cc, cda, oc, od, dV, kV, doc, pm, an, ct, osl, rfl, lk, hcd, hD, hK, _⟩ := F.ex
  rcases hD with ⟨_, rfl⟩ | ⟨e, _⟩
  · exact .all (h kV doc pm an (.ref cda) ct cc)
  · exact absurd rfl e
theorem FunS.kbinds0 (F : FunS K x qual params body scope [] kws f fd D) (n : Nat) (ks : List Str) (ms : List (Str × V)) (g : {α : Type} → List α → List α → List α → List α) (hk : kws ≠ []) (hms : ∀ q ∈ ms, q ∈ kws)
    (hrel : ∀ {vs mz zs : List V} {us mv ws : List Value}, Vals vs us → Vals mz mv → Vals zs ws → Vals (g vs mz zs) (g us mv ws))
    (h : ∀ (Da : Addr) (doc pm : Value) (an : Option Addr) (cdv ct : Value) (cc : Addr) (us mv ws : List Value), us.length = n → mv.length = ms.length → ws.length = ks.length →
      KwChain Da ((ms.map (·.1)).zip mv) (bindArgs (PySem.W.ksFn x qual params body scope .none (.ref Da) doc pm an cdv ct cc) ⟨us, ks.zip ws⟩) (ps.zip (g us mv ws))) :
    ∃ mv : List Value, KBn K fd ps n ks (fun us ws => g us mv ws) (fun vs zs => g vs (ms.map (·.2)) zs) := by
  obtain ⟨cc, cda, oc, od, dV, kV, doc, pm, an, ct, osl, rfl, lk, hcd, hD, hK, _⟩ := F.ex
  rcases hD with ⟨_, rfl⟩ | ⟨e, _⟩
  · rcases hK with e | ⟨Da, rfl, hq⟩
    · exact absurd e hk
    · obtain ⟨mv, hl, rk, hks⟩ := kwd_vals (ms := ms) fun q hm => hq q (hms q hm)
      exact ⟨mv, ⟨fun s us ws X l1 l2 => BindsTo.of_looks fun M => KwChain.looks X hks (h Da doc pm an (.ref cda) ct cc us mv ws l1 hl l2), fun r1 r2 => hrel r1 rk r2⟩⟩
  · exact absurd rfl e
end
end L2
namespace Rg
open PySem PySem.Spec PyProof.Rows L2
structure OwnTyF (K : PySem.W.Frag) (C : Str) (T : List (Str × Bool)) : Prop where
  ins : ∀ p ∈ T, InsTy K (He.ga K p.1)
  ans : ∀ p ∈ T, PySem.W.kitOne K (.ref (He.ga K p.1)) (.ref (He.ga K C)) = some p.2
  oth : (tyNames.all fun n => decide (PySem.W.kitOne K (.type n) (.ref (He.ga K C)) = some false)) = true
def oIsiF (K : PySem.W.Frag) (C : Str) (T : List (Str × Bool)) : ON := fun ds Q => match ds with
  | [d, .raw (.ref A)] => A = He.ga K C ∧ ((∃ p ∈ T, isC p.1 d = true ∧ Q (.bl p.2)) ∨ ((tyName d).isSome = true ∧ Q (.bl false)))
  | _ => False
section
variable {G : Gx} {X : Cx}
theorem c_isiF {C : Str} {T : List (Str × Bool)} (h : OwnTyF G.K C T) (hK : X.K = G.K := by rfl) : CallD G X (.builtin "isinstance") (oIsiF G.K C T) := by
  refine ⟨_, call_isY, fun F D σ H ρ vs ds Q k rel rv ho cont => ?_⟩
  unfold oIsiF at ho
  split at ho
  · next d A =>
    obtain ⟨rfl, ho⟩ := ho
    obtain ⟨y, cv, rfl, ra, rc⟩ := rvA2 rv
    cases rv_raw rc
    rw [hK]
    rcases ho with ⟨p, hp, hC, q⟩ | ⟨hT, q⟩
    · obtain ⟨fs, zs, rfl⟩ : ∃ fs zs, d = .node (.ins p.1 fs) zs := by
        unfold isC at hC
        split at hC
        · next C' fs zs =>
          obtain rfl : C' = p.1 := of_decide_eq_true hC
          exact ⟨fs, zs, rfl⟩
        · cases hC
      exact ⟨y, _, _, _, p.2, rfl, .own _, .base ((h.ins p hp).ty rel.same ra), h.ans p hp, cont _ _ D H (Same.refl D) rel (.bl _) q⟩
    · obtain ⟨t, e3⟩ := Option.isSome_iff_exists.mp hT
      exact ⟨y, _, _, _, false, rfl, .own _, .base (rv_ty ra rel.same e3), of_decide_eq_true (List.all_eq_true.mp h.oth _ (tyName_in e3)), cont _ _ D H (Same.refl D) rel (.bl _) q⟩
  · exact ho.elim
end
end Rg

set_option Elab.async false
set_option linter.all false
set_option maxRecDepth 100000
set_option maxHeartbeats 4000000
namespace Rg
open PySem PySem.Spec PyProof.Rows L2
def headN : List DV → Bool
  | .node .tup _ :: _ => true
  | _ => false
theorem headN_ref {K : PySem.W.Frag} {D : Hp} {vs : List V} {ds : List DV} (h : RvA K D vs ds) (hn : headN ds = true) : ∃ t r, vs = .ref t :: r := by
  unfold headN at hn
  split at hn
  · next xs r =>
    cases h with
    | cons a b =>
      obtain ⟨p, us, rfl, _⟩ := rv_tup a
      exact ⟨p, _, rfl⟩
  · cases hn
def pLendL (i : Nat) (pt : PTt) : PTt := fun ρ Q R => match ρ.sl[i]? with
  | some (some (.lst ds)) => headN ds = true ∧ (ρ.sl.set i none).all lendOk = true ∧ pt { ρ with sl := ρ.sl.set i (some (.val (.lst ds))) } (fun b ρ2 => ρ2.sl = ρ.sl.set i (some (.val (.lst ds))) ∧ Q b { ρ2 with sl := ρ.sl }) R
  | _ => False
theorem stepT_ersL {K : PySem.W.Frag} {W : Addr → Prop} {D0 H0 D H : Hp} {a : Addr} {vs : List V} (s : StepT K W D0 H0 D H) (h0 : D0 a = none) (ha : D a = some (.lst vs)) : StepT K W D0 H0 (ers D a) H := by
  have n0 : ∀ b o, D0 b = some o → b ≠ a := fun b o e z => by rw [z, h0] at e; cases e
  refine ⟨fun b o e => by rw [ers_ne (n0 b o e)]; exact s.dd b o e, fun b o e => ?_, s.kq, s.ns, fun b e d => ?_, fun b hw t => ?_⟩
  · by_cases q : b = a
    · rw [q, ers_at] at e; cases e
    · rw [ers_ne q] at e
      exact s.dh b o e
  · by_cases q : b = a
    · rw [q]; exact ers_at
    · rw [ers_ne q]; exact s.fr b e d
  · obtain ⟨g1, qs, h1, ht1, hc1⟩ := s.tb b hw t
    refine ⟨?_, qs, h1, ht1, fun pos cv z => ?_⟩
    · by_cases q : b = a
      · rw [q]; exact ers_at
      · rw [ers_ne q]; exact g1
    · obtain ⟨c, e1, e2⟩ := hc1 pos cv z
      have q2 : c ≠ a := fun y => by rw [y, ha] at e2; cases e2
      exact ⟨c, e1, by rw [ers_ne q2]; exact e2⟩
theorem sqL_ersL {K : PySem.W.Frag} {D : Hp} {a q : Addr} {ns : List Int} {t : Addr} {r : List V} (h : SqL K D q (ns.map V.int)) (ha : D a = some (.lst (.ref t :: r))) : SqL K (ers D a) q (ns.map V.int) := by
  rcases h with (h | ⟨o, h⟩) | h
  · have ne : q ≠ a := fun z => by
      rw [z, ha] at h
      have e := HO.lst.inj (Option.some.inj h)
      cases ns with
      | nil => cases e
      | cons n m =>
        have e2 := (List.cons.inj e).1
        cases e2
    exact .inl (.inl (by rw [ers_ne ne]; exact h))
  · exact .inl (.inr ⟨o, by rw [ers_ne (fun z => by rw [z, ha] at h; cases h)]; exact h⟩)
  · exact .inr h
section
variable {G : Gx} {X : Cx} {e : Expr}
theorem t_lendL {i : Nat} {pt : PTt} (he : DT G X e pt) : DT G X e (pLendL i pt) := by
  refine DT.of he.run fun F D σ H ρ Q R k rel hp hx cont => ?_
  unfold pLendL at hp
  split at hp
  · next ds e0 =>
    obtain ⟨hn, vo, hp⟩ := hp
    obtain ⟨as, r⟩ := rel.sl
    obtain ⟨a, h1, ⟨ps, h2, h3⟩, h4, h5, h6, h7, _, h8⟩ := r.own_at e0 (fun d z => nomatch z)
    obtain ⟨t0, r0, e0'⟩ := headN_ref h3 hn
    have sm : Same D (upd D a (.lst ps)) := same_new h4
    have rv : Rv G.K (upd D a (.lst ps)) (.ref a) (.lst ds) := .lst upd_same (rvA_mono sm h3)
    obtain ⟨as', _, _, r'⟩ := h8 _ _ sm (fun b hb => upd_ne hb) rv
    have rel1 : Rel G F (upd D a (.lst ps)) σ H { ρ with sl := ρ.sl.set i (some (.val (.lst ds))) } := by
      refine ⟨rel.st.settle h5 h2 h4, ⟨as', r'⟩, fun p hp => ?_, fun p e => ?_, rel.ph, rel.nt⟩
      · obtain ⟨f1, f2, f3⟩ := rel.fr p hp
        exact ⟨f1, by rw [upd_ne (fun e => h7 (List.mem_map.mpr ⟨p, hp, e⟩))]; exact f2, f3⟩
      · obtain ⟨o, q, ns, t, g, e1, e2, e3, e4⟩ := rel.pen p e
        have ne : p ≠ a := fun z => rel.ph p e (z ▸ h5)
        exact ⟨by rw [upd_ne ne]; exact o, q, ns, t, g, e1, sm.seq e2, e3, e4⟩
    refine ⟨F, _, _, _, R, rel1, hp, hx, fun d ρ2 D2 H2 e2 r2 ⟨esl, hq⟩ => ?_⟩
    have a2 : D2 a = some (.lst ps) := e2 _ _ upd_same
    have z0 : G.D0 a = none := by
      cases q : G.D0 a with
      | none => rfl
      | some o => rw [rel.st.dd _ _ q] at h4; cases h4
    have sd : Same D (ers D2 a) := fun b o e => by
      have ne : b ≠ a := fun z => by rw [z, h4] at e; cases e
      rw [ers_ne ne]
      exact e2 b o (by rw [upd_ne ne]; exact e)
    refine cont d { ρ2 with sl := ρ.sl } (ers D2 a) H2 sd ⟨stepT_ersL r2.st z0 a2, ⟨as, rs_lend sd r fun j b s g1 g2 nv => ?_⟩, fun p hp => ?_, fun p e => ?_, r2.ph, r2.nt⟩ hq
    · by_cases q : j = i
      · subst q
        rw [h1] at g1
        cases g1
        rw [e0] at g2
        cases g2
        exact ⟨⟨ps, r2.same _ _ a2, rvA_mono sd h3⟩, ers_at⟩
      · have ok := lendOk_at vo q g2
        have g3 : ρ2.sl[j]? = some (some s) := by rw [esl, List.getElem?_set_ne (Ne.symm q)]; exact g2
        obtain ⟨as2, s2⟩ := r2.sl
        obtain ⟨b2, k1, k2, k4, _⟩ := s2.own_at g3 nv
        rw [g1] at k1
        cases k1
        refine ⟨?_, ?_⟩
        · cases s with
          | dK kvs2 =>
            obtain ⟨ps2, m1, m2⟩ := k2
            exact ⟨ps2, m1, rvP_flat ok m2⟩
          | val d => exact absurd rfl (nv d)
          | _ => cases ok
        · by_cases z : b = a
          · rw [z]; exact ers_at
          · rw [ers_ne z]; exact k4
    · obtain ⟨f1, f2, f3⟩ := r2.fr p hp
      refine ⟨f1, ?_, f3⟩
      by_cases q : p.1 = a
      · rw [q]; exact ers_at
      · rw [ers_ne q]; exact f2
    · obtain ⟨o, q, ns, t, g, e1, e3, e4, e5⟩ := r2.pen p e
      refine ⟨?_, q, ns, t, g, e1, ?_, e4, e5⟩
      · by_cases z : p = a
        · rw [z]; exact ers_at
        · rw [ers_ne z]; exact o
      · rw [e0'] at a2
        exact sqL_ersL e3 a2
  · exact hp.elim
end
end Rg

set_option Elab.async false
set_option linter.all false
set_option maxRecDepth 100000
set_option maxHeartbeats 4000000
set_option pp.maxSteps 1500
set_option pp.deepTerms false
set_option pp.deepTerms.threshold 8
namespace Rg
open PySem PySem.Spec PyProof.Rows L2

theorem sc_draw : FnScope ["_law_pen_here", "_law_many", "_law_digit", "_law_spun", "_law_cell", "_law_great", "_law_mixed"] ["_law_pen_here", "_law_many"] (defScope s_draw) := ⟨rfl, rfl, rfl, by decide +kernel, rfl, by decide +kernel, by decide +kernel⟩
theorem sc_pen : FnScope ["_law_script"] ["_law_script"] (defScope s_pen) := ⟨rfl, rfl, rfl, by decide +kernel, rfl, by decide +kernel, by decide +kernel⟩
theorem sc_pick : FnScope ["_law_pen_here", "_law_some"] ["_law_pen_here", "_law_some"] (defScope s_pick) := ⟨rfl, rfl, rfl, by decide +kernel, rfl, by decide +kernel, by decide +kernel⟩
theorem sc_isInt : FnScope ["thing", "low", "high"] ["thing", "low", "high"] (defScope s_isInt) := ⟨rfl, rfl, rfl, by decide +kernel, rfl, by decide +kernel, by decide +kernel⟩
theorem sc_isLetter : FnScope ["thing"] ["thing"] (defScope s_isLetter) := ⟨rfl, rfl, rfl, by decide +kernel, rfl, by decide +kernel, by decide +kernel⟩
theorem sc_isRow : FnScope ["signs", "thing", "sign"] ["signs", "thing"] (defScope s_isRow) := ⟨rfl, rfl, rfl, by decide +kernel, rfl, by decide +kernel, by decide +kernel⟩
theorem sc_weightOf : FnScope ["weights", "row", "sign"] ["weights", "row"] (defScope s_weightOf) := ⟨rfl, rfl, rfl, by decide +kernel, rfl, by decide +kernel, by decide +kernel⟩
theorem sc_winit : FnScope ["self", "pairs", "at", "pair", "sign", "weight"] ["self", "pairs"] (defScope s_winit) := ⟨rfl, rfl, rfl, by decide +kernel, rfl, by decide +kernel, by decide +kernel⟩
theorem sc_wget : FnScope ["self", "sign"] ["self", "sign"] (defScope s_wget) := ⟨rfl, rfl, rfl, by decide +kernel, rfl, by decide +kernel, by decide +kernel⟩
theorem sc_weq : FnScope ["self", "other"] ["self", "other"] (defScope s_weq) := ⟨rfl, rfl, rfl, by decide +kernel, rfl, by decide +kernel, by decide +kernel⟩
theorem sc_req : FnScope ["self", "other", "mine"] ["self", "other"] (defScope s_req) := ⟨rfl, rfl, rfl, by decide +kernel, rfl, by decide +kernel, by decide +kernel⟩
theorem sc_lighter : FnScope ["weights", "rules", "at", "rule", "old", "new"] ["weights", "rules"] (defScope s_lighter) := ⟨rfl, rfl, rfl, by decide +kernel, rfl, by decide +kernel, by decide +kernel⟩
theorem sc_binit : FnScope ["self", "weights", "rules", "at", "rule", "other"] ["self", "weights", "rules"] (defScope s_binit) := ⟨rfl, rfl, rfl, by decide +kernel, rfl, by decide +kernel, by decide +kernel⟩
theorem sc_isWhole : FnScope ["thing", "least", "most"] ["thing", "least", "most"] (defScope s_isWhole) := ⟨rfl, rfl, rfl, by decide +kernel, rfl, by decide +kernel, by decide +kernel⟩
theorem sc_needSigns : FnScope ["signs", "sign"] ["signs"] (defScope s_needSigns) := ⟨rfl, rfl, rfl, by decide +kernel, rfl, by decide +kernel, by decide +kernel⟩
theorem sc_isStep : FnScope ["thing", "many", "states", "state"] ["thing", "many", "states"] (defScope s_isStep) := ⟨rfl, rfl, rfl, by decide +kernel, rfl, by decide +kernel, by decide +kernel⟩
theorem sc_init : FnScope ["self", "signs", "steps", "told", "step", "mark"] ["self", "signs", "steps", "told"] (defScope s_init) := ⟨rfl, rfl, rfl, by decide +kernel, rfl, by decide +kernel, by decide +kernel⟩
theorem sc_needBook : FnScope ["value", "part"] ["value", "part"] (defScope s_needBook) := ⟨rfl, rfl, rfl, by decide +kernel, rfl, by decide +kernel, by decide +kernel⟩
theorem sc_needLast : FnScope ["value"] ["value"] (defScope s_needLast) := ⟨rfl, rfl, rfl, by decide +kernel, rfl, by decide +kernel, by decide +kernel⟩
theorem sc_ginit : FnScope ["self", "books", "goal", "last"] ["self", "books", "goal", "last"] (defScope s_ginit) := ⟨rfl, rfl, rfl, by decide +kernel, rfl, by decide +kernel, by decide +kernel⟩
theorem sc_somer : FnScope ["self", "is_goal", "answers"] ["self", "is_goal", "answers"] (defScope s_somer) := ⟨rfl, rfl, rfl, by decide +kernel, rfl, by decide +kernel, by decide +kernel⟩
theorem sc_everyr : FnScope ["self", "is_goal", "answers"] ["self", "is_goal", "answers"] (defScope s_everyr) := ⟨rfl, rfl, rfl, by decide +kernel, rfl, by decide +kernel, by decide +kernel⟩
theorem sc_duelr : FnScope ["self", "is_goal", "answers"] ["self", "is_goal", "answers"] (defScope s_duelr) := ⟨rfl, rfl, rfl, by decide +kernel, rfl, by decide +kernel, by decide +kernel⟩
theorem sc_ground : FnScope ["_law_pen_here", "_law_letters", "_law_found", "_law_letter", "_law_pair"] ["_law_pen_here"] (defScope s_ground) := ⟨rfl, rfl, rfl, by decide +kernel, rfl, by decide +kernel, by decide +kernel⟩
theorem sc_reads : FnScope ["_law_plan", "_law_goal_so", "_law_answers"] ["_law_plan", "_law_goal_so", "_law_answers"] (defScope s_reads) := ⟨rfl, rfl, rfl, by decide +kernel, rfl, by decide +kernel, by decide +kernel⟩
theorem sc_lists : FnScope ["_law_top", "_law_found", "_law_ends", "_law_k", "_law_longer", "_law_row"] ["_law_top"] (defScope s_lists) := ⟨rfl, rfl, rfl, by decide +kernel, rfl, by decide +kernel, by decide +kernel⟩
theorem sc_made : FnScope ["_law_ground_here", "_law_kind", "_law_ends_won", "_law_signs", "_law_book", "_law_pair"] ["_law_ground_here", "_law_kind", "_law_ends_won"] (defScope s_made) := ⟨rfl, rfl, rfl, by decide +kernel, rfl, by decide +kernel, by decide +kernel⟩
theorem sc_law : FnScope ["_law_script", "_law_pen_here", "_law_kind", "_law_ends_won", "_law_ground_here", "_law_game", "_law_plan", "_law_far", "_law_same", "_law_answers", "_law_goal_so", "_law_shown", "_law_told", "_law_due", "_law_k"] ["_law_script"] (defScope s_law) := ⟨rfl, rfl, rfl, by decide +kernel, rfl, by decide +kernel, by decide +kernel⟩
theorem sc_xBadSigns : FnScope ["self", "part"] ["self", "part"] (defScope s_xBadSigns) := ⟨rfl, rfl, rfl, by decide +kernel, rfl, by decide +kernel, by decide +kernel⟩
theorem sc_xBadBook : FnScope ["self", "at"] ["self", "at"] (defScope s_xBadBook) := ⟨rfl, rfl, rfl, by decide +kernel, rfl, by decide +kernel, by decide +kernel⟩
theorem sc_xHeavier : FnScope ["self", "at"] ["self", "at"] (defScope s_xHeavier) := ⟨rfl, rfl, rfl, by decide +kernel, rfl, by decide +kernel, by decide +kernel⟩
theorem sc_xUnlessened : FnScope ["self", "old", "new"] ["self", "old", "new"] (defScope s_xUnlessened) := ⟨rfl, rfl, rfl, by decide +kernel, rfl, by decide +kernel, by decide +kernel⟩
theorem sc_xBadGame : FnScope ["self", "part"] ["self", "part"] (defScope s_xBadGame) := ⟨rfl, rfl, rfl, by decide +kernel, rfl, by decide +kernel, by decide +kernel⟩
theorem sc_xOtherSigns : FnScope ["self", "part"] ["self", "part"] (defScope s_xOtherSigns) := ⟨rfl, rfl, rfl, by decide +kernel, rfl, by decide +kernel, by decide +kernel⟩
theorem sc_wof : FnScope ["cls", "pairs"] ["cls", "pairs"] (defScope s_wof) := ⟨rfl, rfl, rfl, by decide +kernel, rfl, by decide +kernel, by decide +kernel⟩
theorem sc_bof : FnScope ["cls", "weights", "rules"] ["cls", "weights", "rules"] (defScope s_bof) := ⟨rfl, rfl, rfl, by decide +kernel, rfl, by decide +kernel, by decide +kernel⟩
theorem sc_mevery : FnScope ["cls", "signs", "sign"] ["cls", "signs"] (defScope s_mevery) := ⟨rfl, rfl, rfl, by decide +kernel, rfl, by decide +kernel, by decide +kernel⟩
theorem sc_mnone : FnScope ["cls", "signs", "sign"] ["cls", "signs"] (defScope s_mnone) := ⟨rfl, rfl, rfl, by decide +kernel, rfl, by decide +kernel, by decide +kernel⟩
theorem sc_ainit : SScope ["self", "book", "goal"] ["self", "book", "goal"] (defScope s_ainit) := ⟨rfl, rfl, rfl, by decide +kernel, rfl, by decide +kernel, by decide +kernel, by decide +kernel, by decide +kernel, by decide +kernel⟩
theorem sc_shinit : SScope ["self", "book", "last"] ["self", "book", "last"] (defScope s_shinit) := ⟨rfl, rfl, rfl, by decide +kernel, rfl, by decide +kernel, by decide +kernel, by decide +kernel, by decide +kernel, by decide +kernel⟩
theorem sc_siinit : SScope ["self", "left", "right", "last"] ["self", "left", "right", "last"] (defScope s_siinit) := ⟨rfl, rfl, rfl, by decide +kernel, rfl, by decide +kernel, by decide +kernel, by decide +kernel, by decide +kernel, by decide +kernel⟩
structure Tx (K : PySem.W.Frag) (mg : Str → Option Value) : Prop where
  f_len : mg "len" = none
  f_int : mg "int" = none
  f_abs : mg "abs" = none
  f_isinstance : mg "isinstance" = none
  f_str : mg "str" = none
  f_bool : mg "bool" = none
  f_list : mg "list" = none
  f_tuple : mg "tuple" = none
  f_all : mg "all" = none
  f_any : mg "any" = none
  f_range : mg "range" = none
  f_repr : mg "repr" = none
  f_enumerate : mg "enumerate" = none
  f_dict : mg "dict" = none
  f_sum : mg "sum" = none
  f_set : mg "set" = none
  f_super : mg "super" = none
  g_LETTERS : ∃ u, mg "LETTERS" = some u ∧ RelV (.str "abcdefghijklmnopqrstuvwxyz") u
  g_MOST_SIGNS : ∃ u, mg "MOST_SIGNS" = some u ∧ RelV (.int 4) u
  g_MOST_WEIGHT : ∃ u, mg "MOST_WEIGHT" = some u ∧ RelV (.int 9) u
  g_MOST_STRETCH : ∃ u, mg "MOST_STRETCH" = some u ∧ RelV (.int 4) u
  g_MOST_RULES : ∃ u, mg "MOST_RULES" = some u ∧ RelV (.int 8) u
  g_Weights : mg "Weights" = some (.ref (a_Weights K))
  cl_Weights : Cls K (a_Weights K)
  mk_Weights : Mk K (a_Weights K) (He.ma K (a_Weights K) "__init__")
  n_Weights_weight_by : NoAttr K (a_Weights K) "weight_by"
  n_Weights_pairs : NoAttr K (a_Weights K) "pairs"
  n_Weights_signs : NoAttr K (a_Weights K) "signs"
  g_Rule : mg "Rule" = some (.ref (a_Rule K))
  cl_Rule : Cls K (a_Rule K)
  mk_Rule : Mk K (a_Rule K) (He.ma K (a_Rule K) "__init__")
  n_Rule_old : NoAttr K (a_Rule K) "old"
  n_Rule_new : NoAttr K (a_Rule K) "new"
  n_Rule_left : NoAttr K (a_Rule K) "left"
  n_Rule_right : NoAttr K (a_Rule K) "right"
  g_Book : mg "Book" = some (.ref (a_Book K))
  cl_Book : Cls K (a_Book K)
  mk_Book : Mk K (a_Book K) (He.ma K (a_Book K) "__init__")
  n_Book_weights : NoAttr K (a_Book K) "weights"
  n_Book_rules : NoAttr K (a_Book K) "rules"
  g_Machine : mg "Machine" = some (.ref (a_Machine K))
  cl_Machine : Cls K (a_Machine K)
  mk_Machine : Mk K (a_Machine K) (He.ma K (a_Machine K) "__init__")
  n_Machine_signs : NoAttr K (a_Machine K) "signs"
  n_Machine_steps : NoAttr K (a_Machine K) "steps"
  n_Machine_told : NoAttr K (a_Machine K) "told"
  g_Game : mg "Game" = some (.ref (a_Game K))
  cl_Game : Cls K (a_Game K)
  g_Alone : mg "Alone" = some (.ref (a_Alone K))
  cl_Alone : Cls K (a_Alone K)
  g_Duel : mg "Duel" = some (.ref (a_Duel K))
  cl_Duel : Cls K (a_Duel K)
  g_Some : mg "Some" = some (.ref (a_Some K))
  cl_Some : Cls K (a_Some K)
  mk_Some : Mk K (a_Some K) (He.ma K (a_Some K) "__init__")
  n_Some_books : NoAttr K (a_Some K) "books"
  n_Some_weights : NoAttr K (a_Some K) "weights"
  n_Some_seats : NoAttr K (a_Some K) "seats"
  n_Some_goal : NoAttr K (a_Some K) "goal"
  n_Some_last : NoAttr K (a_Some K) "last"
  g_Every : mg "Every" = some (.ref (a_Every K))
  cl_Every : Cls K (a_Every K)
  mk_Every : Mk K (a_Every K) (He.ma K (a_Every K) "__init__")
  n_Every_books : NoAttr K (a_Every K) "books"
  n_Every_weights : NoAttr K (a_Every K) "weights"
  n_Every_seats : NoAttr K (a_Every K) "seats"
  n_Every_goal : NoAttr K (a_Every K) "goal"
  n_Every_last : NoAttr K (a_Every K) "last"
  g_Shared : mg "Shared" = some (.ref (a_Shared K))
  cl_Shared : Cls K (a_Shared K)
  mk_Shared : Mk K (a_Shared K) (He.ma K (a_Shared K) "__init__")
  n_Shared_books : NoAttr K (a_Shared K) "books"
  n_Shared_weights : NoAttr K (a_Shared K) "weights"
  n_Shared_seats : NoAttr K (a_Shared K) "seats"
  n_Shared_goal : NoAttr K (a_Shared K) "goal"
  n_Shared_last : NoAttr K (a_Shared K) "last"
  g_Sides : mg "Sides" = some (.ref (a_Sides K))
  cl_Sides : Cls K (a_Sides K)
  mk_Sides : Mk K (a_Sides K) (He.ma K (a_Sides K) "__init__")
  n_Sides_books : NoAttr K (a_Sides K) "books"
  n_Sides_weights : NoAttr K (a_Sides K) "weights"
  n_Sides_seats : NoAttr K (a_Sides K) "seats"
  n_Sides_goal : NoAttr K (a_Sides K) "goal"
  n_Sides_last : NoAttr K (a_Sides K) "last"
  g_GameError : mg "GameError" = some (.ref (a_GameError K))
  g_BadInput : mg "BadInput" = some (.ref (a_BadInput K))
  g_NoAnswer : mg "NoAnswer" = some (.ref (a_NoAnswer K))
  g_BadSigns : mg "BadSigns" = some (.ref (a_BadSigns K))
  g_BadRow : mg "BadRow" = some (.ref (a_BadRow K))
  g_BadRule : mg "BadRule" = some (.ref (a_BadRule K))
  g_BadBook : mg "BadBook" = some (.ref (a_BadBook K))
  g_Heavier : mg "Heavier" = some (.ref (a_Heavier K))
  g_Unlessened : mg "Unlessened" = some (.ref (a_Unlessened K))
  g_BadMove : mg "BadMove" = some (.ref (a_BadMove K))
  g_BadMachine : mg "BadMachine" = some (.ref (a_BadMachine K))
  g_BadGame : mg "BadGame" = some (.ref (a_BadGame K))
  g_OtherSigns : mg "OtherSigns" = some (.ref (a_OtherSigns K))
  g_BadNumber : mg "BadNumber" = some (.ref (a_BadNumber K))
  g_BadText : mg "BadText" = some (.ref (a_BadText K))
  g_TooMany : mg "TooMany" = some (.ref (a_TooMany K))
  g_draw : mg "_law_draw" = some (.ref (He.ga K "_law_draw"))
  d_draw : ∃ fd, FunD K "_law_draw" "_law_draw" (defArgs s_draw) (defBody s_draw) (defScope s_draw) [] [] (He.ga K "_law_draw") fd
  g_pen : mg "_law_pen" = some (.ref (He.ga K "_law_pen"))
  d_pen : ∃ fd, FunD K "_law_pen" "_law_pen" (defArgs s_pen) (defBody s_pen) (defScope s_pen) [] [] (He.ga K "_law_pen") fd
  g_pick : mg "_law_pick" = some (.ref (He.ga K "_law_pick"))
  d_pick : ∃ fd, FunD K "_law_pick" "_law_pick" (defArgs s_pick) (defBody s_pick) (defScope s_pick) [] [] (He.ga K "_law_pick") fd
  g_isInt : mg "is_integer" = some (.ref (He.ga K "is_integer"))
  d_isInt : ∃ fd, FunD K "is_integer" "is_integer" (defArgs s_isInt) (defBody s_isInt) (defScope s_isInt) [] [] (He.ga K "is_integer") fd
  g_isLetter : mg "is_letter" = some (.ref (He.ga K "is_letter"))
  d_isLetter : ∃ fd, FunD K "is_letter" "is_letter" (defArgs s_isLetter) (defBody s_isLetter) (defScope s_isLetter) [] [] (He.ga K "is_letter") fd
  g_isRow : mg "is_row" = some (.ref (He.ga K "is_row"))
  d_isRow : ∃ fd, FunD K "is_row" "is_row" (defArgs s_isRow) (defBody s_isRow) (defScope s_isRow) [] [] (He.ga K "is_row") fd
  g_needRow : mg "need_row" = some (.ref (He.ga K "need_row"))
  d_needRow : ∃ fd, FunD K "need_row" "need_row" (defArgs s_needRow) (defBody s_needRow) (defScope s_needRow) [] [] (He.ga K "need_row") fd
  g_weightOf : mg "weight_of" = some (.ref (He.ga K "weight_of"))
  d_weightOf : ∃ fd, FunD K "weight_of" "weight_of" (defArgs s_weightOf) (defBody s_weightOf) (defScope s_weightOf) [] [] (He.ga K "weight_of") fd
  g_isStretch : mg "is_stretch" = some (.ref (He.ga K "is_stretch"))
  d_isStretch : ∃ fd, FunD K "is_stretch" "is_stretch" (defArgs s_isStretch) (defBody s_isStretch) (defScope s_isStretch) [] [] (He.ga K "is_stretch") fd
  m_bget : Meth K (a_Book K) "__getitem__" (He.ma K (a_Book K) "__getitem__")
  d_bget : ∃ fd, FunD K "__getitem__" "Book.__getitem__" (defArgs s_bget) (defBody s_bget) (defScope s_bget) [] [] (He.ma K (a_Book K) "__getitem__") fd
  d_winit : ∃ fd, FunD K "__init__" "Weights.__init__" (defArgs s_winit) (defBody s_winit) (defScope s_winit) [] [] (He.ma K (a_Weights K) "__init__") fd
  m_wlen : Meth K (a_Weights K) "__len__" (He.ma K (a_Weights K) "__len__")
  d_wlen : ∃ fd, FunD K "__len__" "Weights.__len__" (defArgs s_wlen) (defBody s_wlen) (defScope s_wlen) [] [] (He.ma K (a_Weights K) "__len__") fd
  m_wget : Meth K (a_Weights K) "__getitem__" (He.ma K (a_Weights K) "__getitem__")
  d_wget : ∃ fd, FunD K "__getitem__" "Weights.__getitem__" (defArgs s_wget) (defBody s_wget) (defScope s_wget) [] [] (He.ma K (a_Weights K) "__getitem__") fd
  m_weq : Meth K (a_Weights K) "__eq__" (He.ma K (a_Weights K) "__eq__")
  d_weq : ∃ fd, FunD K "__eq__" "Weights.__eq__" (defArgs s_weq) (defBody s_weq) (defScope s_weq) [] [] (He.ma K (a_Weights K) "__eq__") fd
  d_rinit : ∃ fd, FunD K "__init__" "Rule.__init__" (defArgs s_rinit) (defBody s_rinit) (defScope s_rinit) [] [("left", .bl false), ("right", .bl false)] (He.ma K (a_Rule K) "__init__") fd
  m_req : Meth K (a_Rule K) "__eq__" (He.ma K (a_Rule K) "__eq__")
  d_req : ∃ fd, FunD K "__eq__" "Rule.__eq__" (defArgs s_req) (defBody s_req) (defScope s_req) [] [] (He.ma K (a_Rule K) "__eq__") fd
  g_lighter : mg "need_lighter" = some (.ref (He.ga K "need_lighter"))
  d_lighter : ∃ fd, FunD K "need_lighter" "need_lighter" (defArgs s_lighter) (defBody s_lighter) (defScope s_lighter) [] [] (He.ga K "need_lighter") fd
  d_binit : ∃ fd, FunD K "__init__" "Book.__init__" (defArgs s_binit) (defBody s_binit) (defScope s_binit) [] [] (He.ma K (a_Book K) "__init__") fd
  g_isWhole : mg "is_whole" = some (.ref (He.ga K "is_whole"))
  d_isWhole : ∃ fd, FunD K "is_whole" "is_whole" (defArgs s_isWhole) (defBody s_isWhole) (defScope s_isWhole) [.non] [] (He.ga K "is_whole") fd
  g_needSigns : mg "need_signs" = some (.ref (He.ga K "need_signs"))
  d_needSigns : ∃ fd, FunD K "need_signs" "need_signs" (defArgs s_needSigns) (defBody s_needSigns) (defScope s_needSigns) [] [] (He.ga K "need_signs") fd
  g_isStep : mg "is_step" = some (.ref (He.ga K "is_step"))
  d_isStep : ∃ fd, FunD K "is_step" "is_step" (defArgs s_isStep) (defBody s_isStep) (defScope s_isStep) [] [] (He.ga K "is_step") fd
  d_init : ∃ fd, FunD K "__init__" "Machine.__init__" (defArgs s_init) (defBody s_init) (defScope s_init) [] [] (He.ma K (a_Machine K) "__init__") fd
  g_needBook : mg "need_book" = some (.ref (He.ga K "need_book"))
  d_needBook : ∃ fd, FunD K "need_book" "need_book" (defArgs s_needBook) (defBody s_needBook) (defScope s_needBook) [] [] (He.ga K "need_book") fd
  g_needLast : mg "need_last" = some (.ref (He.ga K "need_last"))
  d_needLast : ∃ fd, FunD K "need_last" "need_last" (defArgs s_needLast) (defBody s_needLast) (defScope s_needLast) [] [] (He.ga K "need_last") fd
  d_ginit : ∃ fd, FunD K "__init__" "Game.__init__" (defArgs s_ginit) (defBody s_ginit) (defScope s_ginit) [] [] (He.ma K (a_Game K) "__init__") fd
  m_somer : Meth K (a_Some K) "reads" (He.ma K (a_Some K) "reads")
  d_somer : ∃ fd, FunD K "reads" "Some.reads" (defArgs s_somer) (defBody s_somer) (defScope s_somer) [] [] (He.ma K (a_Some K) "reads") fd
  m_everyr : Meth K (a_Every K) "reads" (He.ma K (a_Every K) "reads")
  d_everyr : ∃ fd, FunD K "reads" "Every.reads" (defArgs s_everyr) (defBody s_everyr) (defScope s_everyr) [] [] (He.ma K (a_Every K) "reads") fd
  m_duelr : Meth K (a_Duel K) "reads" (He.ma K (a_Duel K) "reads")
  d_duelr : ∃ fd, FunD K "reads" "Duel.reads" (defArgs s_duelr) (defBody s_duelr) (defScope s_duelr) [] [] (He.ma K (a_Duel K) "reads") fd
  g_ground : mg "_law_ground" = some (.ref (He.ga K "_law_ground"))
  d_ground : ∃ fd, FunD K "_law_ground" "_law_ground" (defArgs s_ground) (defBody s_ground) (defScope s_ground) [] [] (He.ga K "_law_ground") fd
  g_reads : mg "_law_reads" = some (.ref (He.ga K "_law_reads"))
  d_reads : ∃ fd, FunD K "_law_reads" "_law_reads" (defArgs s_reads) (defBody s_reads) (defScope s_reads) [] [] (He.ga K "_law_reads") fd
  g_lists : mg "_law_lists" = some (.ref (He.ga K "_law_lists"))
  d_lists : ∃ fd, FunD K "_law_lists" "_law_lists" (defArgs s_lists) (defBody s_lists) (defScope s_lists) [] [] (He.ga K "_law_lists") fd
  g_made : mg "_law_made" = some (.ref (He.ga K "_law_made"))
  d_made : ∃ fd, FunD K "_law_made" "_law_made" (defArgs s_made) (defBody s_made) (defScope s_made) [] [] (He.ga K "_law_made") fd
  g_law : mg "law" = some (.ref (He.ga K "law"))
  d_law : ∃ fd, FunD K "law" "law" (defArgs s_law) (defBody s_law) (defScope s_law) [] [] (He.ga K "law") fd
  d_xBadSigns : ∃ fd, FunD K "__init__" "BadSigns.__init__" (defArgs s_xBadSigns) (defBody s_xBadSigns) (defScope s_xBadSigns) [] [] (He.ma K (a_BadSigns K) "__init__") fd
  d_xBadRule : ∃ fd, FunD K "__init__" "BadRule.__init__" (defArgs s_xBadRule) (defBody s_xBadRule) (defScope s_xBadRule) [] [] (He.ma K (a_BadRule K) "__init__") fd
  d_xBadBook : ∃ fd, FunD K "__init__" "BadBook.__init__" (defArgs s_xBadBook) (defBody s_xBadBook) (defScope s_xBadBook) [] [] (He.ma K (a_BadBook K) "__init__") fd
  d_xHeavier : ∃ fd, FunD K "__init__" "Heavier.__init__" (defArgs s_xHeavier) (defBody s_xHeavier) (defScope s_xHeavier) [] [] (He.ma K (a_Heavier K) "__init__") fd
  d_xUnlessened : ∃ fd, FunD K "__init__" "Unlessened.__init__" (defArgs s_xUnlessened) (defBody s_xUnlessened) (defScope s_xUnlessened) [] [] (He.ma K (a_Unlessened K) "__init__") fd
  d_xBadMachine : ∃ fd, FunD K "__init__" "BadMachine.__init__" (defArgs s_xBadMachine) (defBody s_xBadMachine) (defScope s_xBadMachine) [] [] (He.ma K (a_BadMachine K) "__init__") fd
  d_xBadGame : ∃ fd, FunD K "__init__" "BadGame.__init__" (defArgs s_xBadGame) (defBody s_xBadGame) (defScope s_xBadGame) [] [] (He.ma K (a_BadGame K) "__init__") fd
  d_xOtherSigns : ∃ fd, FunD K "__init__" "OtherSigns.__init__" (defArgs s_xOtherSigns) (defBody s_xOtherSigns) (defScope s_xOtherSigns) [] [] (He.ma K (a_OtherSigns K) "__init__") fd
  d_wof : ∃ fd, FunD K "of" "Weights.of" (defArgs s_wof) (defBody s_wof) (defScope s_wof) [] [] (He5.wf K (a_Weights K) "classmethod" "of") fd
  d_bof : ∃ fd, FunD K "of" "Book.of" (defArgs s_bof) (defBody s_bof) (defScope s_bof) [] [] (He5.wf K (a_Book K) "classmethod" "of") fd
  d_mevery : ∃ fd, FunD K "every" "Machine.every" (defArgs s_mevery) (defBody s_mevery) (defScope s_mevery) [] [] (He5.wf K (a_Machine K) "classmethod" "every") fd
  d_mnone : ∃ fd, FunD K "none" "Machine.none" (defArgs s_mnone) (defBody s_mnone) (defScope s_mnone) [] [] (He5.wf K (a_Machine K) "classmethod" "none") fd
  d_ainit : ∃ fd, FunS K "__init__" "Alone.__init__" (defArgs s_ainit) (defBody s_ainit) (defScope s_ainit) [] [] (He.ma K (a_Alone K) "__init__") fd (a_Alone K)
  d_shinit : ∃ fd, FunS K "__init__" "Shared.__init__" (defArgs s_shinit) (defBody s_shinit) (defScope s_shinit) [] [("last", .bl true)] (He.ma K (a_Shared K) "__init__") fd (a_Shared K)
  d_siinit : ∃ fd, FunS K "__init__" "Sides.__init__" (defArgs s_siinit) (defBody s_siinit) (defScope s_siinit) [] [("last", .bl true)] (He.ma K (a_Sides K) "__init__") fd (a_Sides K)
  getIn_Book : PySem.W.fnIn K (He.ma K (a_Book K) "__getitem__") = true
  getIn_Weights : PySem.W.fnIn K (He.ma K (a_Weights K) "__getitem__") = true
  sysB : sysB K = true
  first_Book : PySem.W.selfFirst K (a_Book K) = true
  cnB : He.eqO (PySem.W.specialIn K (.builtin "object.__class__") "__get__") (some (some (.builtin "getset_descriptor.__get__"))) = true
  ctB : decide (PySem.W.takesIn K (.builtin "object.__class__") = some true) = true
  ob_Weights : decide (PySem.W.mroIn K (a_Weights K) (.type "object") = some true) = true
  ca_Weights : He.eqO (PySem.W.findIn K (.ref (a_Weights K)) "__class__") (some (some (.builtin "object.__class__"))) = true
  ki_Weights : decide (PySem.W.kitOne K (.ref (a_Weights K)) (.ref (a_Weights K)) = some true) = true
  kn_Weights : (tyNames.all fun n => decide (PySem.W.kitOne K (.type n) (.ref (a_Weights K)) = some false)) = true
  nf_Weights : PySem.W.notFirst K (a_Weights K) (.ref (a_Weights K)) = true
  nn_Weights : (tyNames.all fun n => PySem.W.notFirst K (a_Weights K) (.type n)) = true
  ob_Rule : decide (PySem.W.mroIn K (a_Rule K) (.type "object") = some true) = true
  ca_Rule : He.eqO (PySem.W.findIn K (.ref (a_Rule K)) "__class__") (some (some (.builtin "object.__class__"))) = true
  ki_Rule : decide (PySem.W.kitOne K (.ref (a_Rule K)) (.ref (a_Rule K)) = some true) = true
  kn_Rule : (tyNames.all fun n => decide (PySem.W.kitOne K (.type n) (.ref (a_Rule K)) = some false)) = true
  nf_Rule : PySem.W.notFirst K (a_Rule K) (.ref (a_Rule K)) = true
  nn_Rule : (tyNames.all fun n => PySem.W.notFirst K (a_Rule K) (.type n)) = true
  ob_Book : decide (PySem.W.mroIn K (a_Book K) (.type "object") = some true) = true
  ca_Book : He.eqO (PySem.W.findIn K (.ref (a_Book K)) "__class__") (some (some (.builtin "object.__class__"))) = true
  ki_Book : decide (PySem.W.kitOne K (.ref (a_Book K)) (.ref (a_Book K)) = some true) = true
  kn_Book : (tyNames.all fun n => decide (PySem.W.kitOne K (.type n) (.ref (a_Book K)) = some false)) = true
  nf_Book : PySem.W.notFirst K (a_Book K) (.ref (a_Book K)) = true
  nn_Book : (tyNames.all fun n => PySem.W.notFirst K (a_Book K) (.type n)) = true
  ob_Machine : decide (PySem.W.mroIn K (a_Machine K) (.type "object") = some true) = true
  ca_Machine : He.eqO (PySem.W.findIn K (.ref (a_Machine K)) "__class__") (some (some (.builtin "object.__class__"))) = true
  ki_Machine : decide (PySem.W.kitOne K (.ref (a_Machine K)) (.ref (a_Machine K)) = some true) = true
  kn_Machine : (tyNames.all fun n => decide (PySem.W.kitOne K (.type n) (.ref (a_Machine K)) = some false)) = true
  nf_Machine : PySem.W.notFirst K (a_Machine K) (.ref (a_Machine K)) = true
  nn_Machine : (tyNames.all fun n => PySem.W.notFirst K (a_Machine K) (.type n)) = true
  ob_Some : decide (PySem.W.mroIn K (a_Some K) (.type "object") = some true) = true
  ca_Some : He.eqO (PySem.W.findIn K (.ref (a_Some K)) "__class__") (some (some (.builtin "object.__class__"))) = true
  kg_Some : decide (PySem.W.kitOne K (.ref (a_Some K)) (.ref (a_Game K)) = some true) = true
  ob_Every : decide (PySem.W.mroIn K (a_Every K) (.type "object") = some true) = true
  ca_Every : He.eqO (PySem.W.findIn K (.ref (a_Every K)) "__class__") (some (some (.builtin "object.__class__"))) = true
  kg_Every : decide (PySem.W.kitOne K (.ref (a_Every K)) (.ref (a_Game K)) = some true) = true
  ob_Shared : decide (PySem.W.mroIn K (a_Shared K) (.type "object") = some true) = true
  ca_Shared : He.eqO (PySem.W.findIn K (.ref (a_Shared K)) "__class__") (some (some (.builtin "object.__class__"))) = true
  kg_Shared : decide (PySem.W.kitOne K (.ref (a_Shared K)) (.ref (a_Game K)) = some true) = true
  ob_Sides : decide (PySem.W.mroIn K (a_Sides K) (.type "object") = some true) = true
  ca_Sides : He.eqO (PySem.W.findIn K (.ref (a_Sides K)) "__class__") (some (some (.builtin "object.__class__"))) = true
  kg_Sides : decide (PySem.W.kitOne K (.ref (a_Sides K)) (.ref (a_Game K)) = some true) = true
  su_Some : supC K (a_Some K) (a_Alone K) (He.ma K (a_Game K) "__init__") = true
  in_Some : decide (He.ma K (a_Some K) "__init__" = He.ma K (a_Alone K) "__init__") = true
  su_Every : supC K (a_Every K) (a_Alone K) (He.ma K (a_Game K) "__init__") = true
  in_Every : decide (He.ma K (a_Every K) "__init__" = He.ma K (a_Alone K) "__init__") = true
  su_Shared : supC K (a_Shared K) (a_Shared K) (He.ma K (a_Game K) "__init__") = true
  su_Sides : supC K (a_Sides K) (a_Sides K) (He.ma K (a_Game K) "__init__") = true
  rd_Shared : He.eqO (PySem.W.findIn K (.ref (a_Shared K)) "reads") (PySem.W.findIn K (.ref (a_Duel K)) "reads") = true
  rd_Sides : He.eqO (PySem.W.findIn K (.ref (a_Sides K)) "reads") (PySem.W.findIn K (.ref (a_Duel K)) "reads") = true
  kn_Game : (tyNames.all fun n => decide (PySem.W.kitOne K (.type n) (.ref (a_Game K)) = some false)) = true
  cm_wof : cmB K (a_Weights K) "of" = true
  cm_bof : cmB K (a_Book K) "of" = true
  cm_mevery : cmB K (a_Machine K) "every" = true
  cm_mnone : cmB K (a_Machine K) "none" = true
  sp_ainit : supB K (He.ma K (a_Alone K) "__init__") (a_Alone K) = true
  sp_shinit : supB K (He.ma K (a_Shared K) "__init__") (a_Shared K) = true
  sp_siinit : supB K (He.ma K (a_Sides K) "__init__") (a_Sides K) = true
  xM : exmB K exT = true
  xK : kitXB K exT = true
  xE : excsB K exT = true
  xo_BadSigns : oexB K (a_BadSigns K) = true
  xi_BadSigns : (He.eqO (PySem.W.findIn K (.ref (a_BadSigns K)) "__init__") (some (some (.ref (He.ma K (a_BadSigns K) "__init__")))) && decide (PySem.W.typeIn K (.ref (He.ma K (a_BadSigns K) "__init__")) = some (.type "function"))) = true
  xo_BadRule : oexB K (a_BadRule K) = true
  xi_BadRule : (He.eqO (PySem.W.findIn K (.ref (a_BadRule K)) "__init__") (some (some (.ref (He.ma K (a_BadRule K) "__init__")))) && decide (PySem.W.typeIn K (.ref (He.ma K (a_BadRule K) "__init__")) = some (.type "function"))) = true
  xo_BadBook : oexB K (a_BadBook K) = true
  xi_BadBook : (He.eqO (PySem.W.findIn K (.ref (a_BadBook K)) "__init__") (some (some (.ref (He.ma K (a_BadBook K) "__init__")))) && decide (PySem.W.typeIn K (.ref (He.ma K (a_BadBook K) "__init__")) = some (.type "function"))) = true
  xo_Heavier : oexB K (a_Heavier K) = true
  xi_Heavier : (He.eqO (PySem.W.findIn K (.ref (a_Heavier K)) "__init__") (some (some (.ref (He.ma K (a_Heavier K) "__init__")))) && decide (PySem.W.typeIn K (.ref (He.ma K (a_Heavier K) "__init__")) = some (.type "function"))) = true
  xo_Unlessened : oexB K (a_Unlessened K) = true
  xi_Unlessened : (He.eqO (PySem.W.findIn K (.ref (a_Unlessened K)) "__init__") (some (some (.ref (He.ma K (a_Unlessened K) "__init__")))) && decide (PySem.W.typeIn K (.ref (He.ma K (a_Unlessened K) "__init__")) = some (.type "function"))) = true
  xo_BadMachine : oexB K (a_BadMachine K) = true
  xi_BadMachine : (He.eqO (PySem.W.findIn K (.ref (a_BadMachine K)) "__init__") (some (some (.ref (He.ma K (a_BadMachine K) "__init__")))) && decide (PySem.W.typeIn K (.ref (He.ma K (a_BadMachine K) "__init__")) = some (.type "function"))) = true
  xo_BadGame : oexB K (a_BadGame K) = true
  xi_BadGame : (He.eqO (PySem.W.findIn K (.ref (a_BadGame K)) "__init__") (some (some (.ref (He.ma K (a_BadGame K) "__init__")))) && decide (PySem.W.typeIn K (.ref (He.ma K (a_BadGame K) "__init__")) = some (.type "function"))) = true
  xo_OtherSigns : oexB K (a_OtherSigns K) = true
  xi_OtherSigns : (He.eqO (PySem.W.findIn K (.ref (a_OtherSigns K)) "__init__") (some (some (.ref (He.ma K (a_OtherSigns K) "__init__")))) && decide (PySem.W.typeIn K (.ref (He.ma K (a_OtherSigns K) "__init__")) = some (.type "function"))) = true
  xf_at : fldXB K "at" ["BadRow", "BadBook", "Heavier"] = true
  xf_new : fldXB K "new" ["Unlessened"] = true
  xf_old : fldXB K "old" ["Unlessened"] = true
  xf_part : fldXB K "part" ["BadSigns", "BadRule", "BadMove", "BadMachine", "BadGame", "OtherSigns", "BadNumber"] = true
section
variable {P : Program} {w : World} {K : PySem.W.Frag} {mg : Str → Option Value} {base : Heap}
theorem c_draw {CX : CXT} {k : Nat} {sp : Sp} (T : Tx K mg) (h : ∀ fd, FunD K "_law_draw" "_law_draw" (defArgs s_draw) (defBody s_draw) (defScope s_draw) [] [] (He.ga K "_law_draw") fd → FnOk P w K mg base CX k (He.ga K "_law_draw") fd ["_law_pen_here", "_law_many"] sp) : CalX P w K mg base CX k "_law_draw" sp := by
  obtain ⟨fd, F⟩ := T.d_draw
  exact ⟨_, fd, _, h fd F, T.g_draw, F.kp, F.bindsN fun _ _ _ _ _ _ us hl => match us, hl with | [_, _], _ => rfl⟩
theorem c_pen {CX : CXT} {k : Nat} {sp : Sp} (T : Tx K mg) (h : ∀ fd, FunD K "_law_pen" "_law_pen" (defArgs s_pen) (defBody s_pen) (defScope s_pen) [] [] (He.ga K "_law_pen") fd → FnOk P w K mg base CX k (He.ga K "_law_pen") fd ["_law_script"] sp) : CalX P w K mg base CX k "_law_pen" sp := by
  obtain ⟨fd, F⟩ := T.d_pen
  exact ⟨_, fd, _, h fd F, T.g_pen, F.kp, F.bindsN fun _ _ _ _ _ _ us hl => match us, hl with | [_], _ => rfl⟩
theorem c_pick {CX : CXT} {k : Nat} {sp : Sp} (T : Tx K mg) (h : ∀ fd, FunD K "_law_pick" "_law_pick" (defArgs s_pick) (defBody s_pick) (defScope s_pick) [] [] (He.ga K "_law_pick") fd → FnOk P w K mg base CX k (He.ga K "_law_pick") fd ["_law_pen_here", "_law_some"] sp) : CalX P w K mg base CX k "_law_pick" sp := by
  obtain ⟨fd, F⟩ := T.d_pick
  exact ⟨_, fd, _, h fd F, T.g_pick, F.kp, F.bindsN fun _ _ _ _ _ _ us hl => match us, hl with | [_, _], _ => rfl⟩
theorem c_isInt {CX : CXT} {k : Nat} {sp : Sp} (T : Tx K mg) (h : ∀ fd, FunD K "is_integer" "is_integer" (defArgs s_isInt) (defBody s_isInt) (defScope s_isInt) [] [] (He.ga K "is_integer") fd → FnOk P w K mg base CX k (He.ga K "is_integer") fd ["thing", "low", "high"] sp) : CalX P w K mg base CX k "is_integer" sp := by
  obtain ⟨fd, F⟩ := T.d_isInt
  exact ⟨_, fd, _, h fd F, T.g_isInt, F.kp, F.bindsN fun _ _ _ _ _ _ us hl => match us, hl with | [_, _, _], _ => rfl⟩
theorem c_isLetter {CX : CXT} {k : Nat} {sp : Sp} (T : Tx K mg) (h : ∀ fd, FunD K "is_letter" "is_letter" (defArgs s_isLetter) (defBody s_isLetter) (defScope s_isLetter) [] [] (He.ga K "is_letter") fd → FnOk P w K mg base CX k (He.ga K "is_letter") fd ["thing"] sp) : CalX P w K mg base CX k "is_letter" sp := by
  obtain ⟨fd, F⟩ := T.d_isLetter
  exact ⟨_, fd, _, h fd F, T.g_isLetter, F.kp, F.bindsN fun _ _ _ _ _ _ us hl => match us, hl with | [_], _ => rfl⟩
theorem c_isRow {CX : CXT} {k : Nat} {sp : Sp} (T : Tx K mg) (h : ∀ fd, FunD K "is_row" "is_row" (defArgs s_isRow) (defBody s_isRow) (defScope s_isRow) [] [] (He.ga K "is_row") fd → FnOk P w K mg base CX k (He.ga K "is_row") fd ["signs", "thing"] sp) : CalX P w K mg base CX k "is_row" sp := by
  obtain ⟨fd, F⟩ := T.d_isRow
  exact ⟨_, fd, _, h fd F, T.g_isRow, F.kp, F.bindsN fun _ _ _ _ _ _ us hl => match us, hl with | [_, _], _ => rfl⟩
theorem c_weightOf {CX : CXT} {k : Nat} {sp : Sp} (T : Tx K mg) (h : ∀ fd, FunD K "weight_of" "weight_of" (defArgs s_weightOf) (defBody s_weightOf) (defScope s_weightOf) [] [] (He.ga K "weight_of") fd → FnOk P w K mg base CX k (He.ga K "weight_of") fd ["weights", "row"] sp) : CalX P w K mg base CX k "weight_of" sp := by
  obtain ⟨fd, F⟩ := T.d_weightOf
  exact ⟨_, fd, _, h fd F, T.g_weightOf, F.kp, F.bindsN fun _ _ _ _ _ _ us hl => match us, hl with | [_, _], _ => rfl⟩
theorem c_wget {CX : CXT} {k : Nat} {sp : Sp} (T : Tx K mg) (h : ∀ fd, FunD K "__getitem__" "Weights.__getitem__" (defArgs s_wget) (defBody s_wget) (defScope s_wget) [] [] (He.ma K (a_Weights K) "__getitem__") fd → FnOk P w K mg base CX k (He.ma K (a_Weights K) "__getitem__") fd ["self", "sign"] sp) : MetX P w K mg base CX k (a_Weights K) "__getitem__" sp := by
  obtain ⟨fd, F⟩ := T.d_wget
  exact ⟨_, fd, _, T.m_wget, h fd F, F.bindsN fun _ _ _ _ _ _ us hl => match us, hl with | [_, _], _ => rfl⟩
theorem c_weq {CX : CXT} {k : Nat} {sp : Sp} (T : Tx K mg) (h : ∀ fd, FunD K "__eq__" "Weights.__eq__" (defArgs s_weq) (defBody s_weq) (defScope s_weq) [] [] (He.ma K (a_Weights K) "__eq__") fd → FnOk P w K mg base CX k (He.ma K (a_Weights K) "__eq__") fd ["self", "other"] sp) : MetX P w K mg base CX k (a_Weights K) "__eq__" sp := by
  obtain ⟨fd, F⟩ := T.d_weq
  exact ⟨_, fd, _, T.m_weq, h fd F, F.bindsN fun _ _ _ _ _ _ us hl => match us, hl with | [_, _], _ => rfl⟩
theorem c_req {CX : CXT} {k : Nat} {sp : Sp} (T : Tx K mg) (h : ∀ fd, FunD K "__eq__" "Rule.__eq__" (defArgs s_req) (defBody s_req) (defScope s_req) [] [] (He.ma K (a_Rule K) "__eq__") fd → FnOk P w K mg base CX k (He.ma K (a_Rule K) "__eq__") fd ["self", "other"] sp) : MetX P w K mg base CX k (a_Rule K) "__eq__" sp := by
  obtain ⟨fd, F⟩ := T.d_req
  exact ⟨_, fd, _, T.m_req, h fd F, F.bindsN fun _ _ _ _ _ _ us hl => match us, hl with | [_, _], _ => rfl⟩
theorem c_lighter {CX : CXT} {k : Nat} {sp : Sp} (T : Tx K mg) (h : ∀ fd, FunD K "need_lighter" "need_lighter" (defArgs s_lighter) (defBody s_lighter) (defScope s_lighter) [] [] (He.ga K "need_lighter") fd → FnOk P w K mg base CX k (He.ga K "need_lighter") fd ["weights", "rules"] sp) : CalX P w K mg base CX k "need_lighter" sp := by
  obtain ⟨fd, F⟩ := T.d_lighter
  exact ⟨_, fd, _, h fd F, T.g_lighter, F.kp, F.bindsN fun _ _ _ _ _ _ us hl => match us, hl with | [_, _], _ => rfl⟩
theorem c_needSigns {CX : CXT} {k : Nat} {sp : Sp} (T : Tx K mg) (h : ∀ fd, FunD K "need_signs" "need_signs" (defArgs s_needSigns) (defBody s_needSigns) (defScope s_needSigns) [] [] (He.ga K "need_signs") fd → FnOk P w K mg base CX k (He.ga K "need_signs") fd ["signs"] sp) : CalX P w K mg base CX k "need_signs" sp := by
  obtain ⟨fd, F⟩ := T.d_needSigns
  exact ⟨_, fd, _, h fd F, T.g_needSigns, F.kp, F.bindsN fun _ _ _ _ _ _ us hl => match us, hl with | [_], _ => rfl⟩
theorem c_isStep {CX : CXT} {k : Nat} {sp : Sp} (T : Tx K mg) (h : ∀ fd, FunD K "is_step" "is_step" (defArgs s_isStep) (defBody s_isStep) (defScope s_isStep) [] [] (He.ga K "is_step") fd → FnOk P w K mg base CX k (He.ga K "is_step") fd ["thing", "many", "states"] sp) : CalX P w K mg base CX k "is_step" sp := by
  obtain ⟨fd, F⟩ := T.d_isStep
  exact ⟨_, fd, _, h fd F, T.g_isStep, F.kp, F.bindsN fun _ _ _ _ _ _ us hl => match us, hl with | [_, _, _], _ => rfl⟩
theorem b_init (T : Tx K mg) {fd : FuncData} (F : FunD K "__init__" "Machine.__init__" (defArgs s_init) (defBody s_init) (defScope s_init) [] [] (He.ma K (a_Machine K) "__init__") fd) : Binds K fd ["self", "signs", "steps", "told"] [] := F.bindsN fun _ _ _ _ _ _ us hl => match us, hl with | [_, _, _, _], _ => rfl
theorem c_needBook {CX : CXT} {k : Nat} {sp : Sp} (T : Tx K mg) (h : ∀ fd, FunD K "need_book" "need_book" (defArgs s_needBook) (defBody s_needBook) (defScope s_needBook) [] [] (He.ga K "need_book") fd → FnOk P w K mg base CX k (He.ga K "need_book") fd ["value", "part"] sp) : CalX P w K mg base CX k "need_book" sp := by
  obtain ⟨fd, F⟩ := T.d_needBook
  exact ⟨_, fd, _, h fd F, T.g_needBook, F.kp, F.bindsN fun _ _ _ _ _ _ us hl => match us, hl with | [_, _], _ => rfl⟩
theorem c_needLast {CX : CXT} {k : Nat} {sp : Sp} (T : Tx K mg) (h : ∀ fd, FunD K "need_last" "need_last" (defArgs s_needLast) (defBody s_needLast) (defScope s_needLast) [] [] (He.ga K "need_last") fd → FnOk P w K mg base CX k (He.ga K "need_last") fd ["value"] sp) : CalX P w K mg base CX k "need_last" sp := by
  obtain ⟨fd, F⟩ := T.d_needLast
  exact ⟨_, fd, _, h fd F, T.g_needLast, F.kp, F.bindsN fun _ _ _ _ _ _ us hl => match us, hl with | [_], _ => rfl⟩
theorem b_ginit (T : Tx K mg) {fd : FuncData} (F : FunD K "__init__" "Game.__init__" (defArgs s_ginit) (defBody s_ginit) (defScope s_ginit) [] [] (He.ma K (a_Game K) "__init__") fd) : Binds K fd ["self", "books", "goal", "last"] [] := F.bindsN fun _ _ _ _ _ _ us hl => match us, hl with | [_, _, _, _], _ => rfl
theorem c_somer {CX : CXT} {k : Nat} {sp : Sp} (T : Tx K mg) (h : ∀ fd, FunD K "reads" "Some.reads" (defArgs s_somer) (defBody s_somer) (defScope s_somer) [] [] (He.ma K (a_Some K) "reads") fd → FnOk P w K mg base CX k (He.ma K (a_Some K) "reads") fd ["self", "is_goal", "answers"] sp) : MetX P w K mg base CX k (a_Some K) "reads" sp := by
  obtain ⟨fd, F⟩ := T.d_somer
  exact ⟨_, fd, _, T.m_somer, h fd F, F.bindsN fun _ _ _ _ _ _ us hl => match us, hl with | [_, _, _], _ => rfl⟩
theorem c_everyr {CX : CXT} {k : Nat} {sp : Sp} (T : Tx K mg) (h : ∀ fd, FunD K "reads" "Every.reads" (defArgs s_everyr) (defBody s_everyr) (defScope s_everyr) [] [] (He.ma K (a_Every K) "reads") fd → FnOk P w K mg base CX k (He.ma K (a_Every K) "reads") fd ["self", "is_goal", "answers"] sp) : MetX P w K mg base CX k (a_Every K) "reads" sp := by
  obtain ⟨fd, F⟩ := T.d_everyr
  exact ⟨_, fd, _, T.m_everyr, h fd F, F.bindsN fun _ _ _ _ _ _ us hl => match us, hl with | [_, _, _], _ => rfl⟩
theorem c_duelr {CX : CXT} {k : Nat} {sp : Sp} (T : Tx K mg) (h : ∀ fd, FunD K "reads" "Duel.reads" (defArgs s_duelr) (defBody s_duelr) (defScope s_duelr) [] [] (He.ma K (a_Duel K) "reads") fd → FnOk P w K mg base CX k (He.ma K (a_Duel K) "reads") fd ["self", "is_goal", "answers"] sp) : MetX P w K mg base CX k (a_Duel K) "reads" sp := by
  obtain ⟨fd, F⟩ := T.d_duelr
  exact ⟨_, fd, _, T.m_duelr, h fd F, F.bindsN fun _ _ _ _ _ _ us hl => match us, hl with | [_, _, _], _ => rfl⟩
theorem c_ground {CX : CXT} {k : Nat} {sp : Sp} (T : Tx K mg) (h : ∀ fd, FunD K "_law_ground" "_law_ground" (defArgs s_ground) (defBody s_ground) (defScope s_ground) [] [] (He.ga K "_law_ground") fd → FnOk P w K mg base CX k (He.ga K "_law_ground") fd ["_law_pen_here"] sp) : CalX P w K mg base CX k "_law_ground" sp := by
  obtain ⟨fd, F⟩ := T.d_ground
  exact ⟨_, fd, _, h fd F, T.g_ground, F.kp, F.bindsN fun _ _ _ _ _ _ us hl => match us, hl with | [_], _ => rfl⟩
theorem c_reads {CX : CXT} {k : Nat} {sp : Sp} (T : Tx K mg) (h : ∀ fd, FunD K "_law_reads" "_law_reads" (defArgs s_reads) (defBody s_reads) (defScope s_reads) [] [] (He.ga K "_law_reads") fd → FnOk P w K mg base CX k (He.ga K "_law_reads") fd ["_law_plan", "_law_goal_so", "_law_answers"] sp) : CalX P w K mg base CX k "_law_reads" sp := by
  obtain ⟨fd, F⟩ := T.d_reads
  exact ⟨_, fd, _, h fd F, T.g_reads, F.kp, F.bindsN fun _ _ _ _ _ _ us hl => match us, hl with | [_, _, _], _ => rfl⟩
theorem c_lists {CX : CXT} {k : Nat} {sp : Sp} (T : Tx K mg) (h : ∀ fd, FunD K "_law_lists" "_law_lists" (defArgs s_lists) (defBody s_lists) (defScope s_lists) [] [] (He.ga K "_law_lists") fd → FnOk P w K mg base CX k (He.ga K "_law_lists") fd ["_law_top"] sp) : CalX P w K mg base CX k "_law_lists" sp := by
  obtain ⟨fd, F⟩ := T.d_lists
  exact ⟨_, fd, _, h fd F, T.g_lists, F.kp, F.bindsN fun _ _ _ _ _ _ us hl => match us, hl with | [_], _ => rfl⟩
theorem c_made {CX : CXT} {k : Nat} {sp : Sp} (T : Tx K mg) (h : ∀ fd, FunD K "_law_made" "_law_made" (defArgs s_made) (defBody s_made) (defScope s_made) [] [] (He.ga K "_law_made") fd → FnOk P w K mg base CX k (He.ga K "_law_made") fd ["_law_ground_here", "_law_kind", "_law_ends_won"] sp) : CalX P w K mg base CX k "_law_made" sp := by
  obtain ⟨fd, F⟩ := T.d_made
  exact ⟨_, fd, _, h fd F, T.g_made, F.kp, F.bindsN fun _ _ _ _ _ _ us hl => match us, hl with | [_, _, _], _ => rfl⟩
theorem b_xBadSigns (T : Tx K mg) {fd : FuncData} (F : FunD K "__init__" "BadSigns.__init__" (defArgs s_xBadSigns) (defBody s_xBadSigns) (defScope s_xBadSigns) [] [] (He.ma K (a_BadSigns K) "__init__") fd) : Binds K fd ["self", "part"] [] := F.bindsN fun _ _ _ _ _ _ us hl => match us, hl with | [_, _], _ => rfl
theorem b_xBadBook (T : Tx K mg) {fd : FuncData} (F : FunD K "__init__" "BadBook.__init__" (defArgs s_xBadBook) (defBody s_xBadBook) (defScope s_xBadBook) [] [] (He.ma K (a_BadBook K) "__init__") fd) : Binds K fd ["self", "at"] [] := F.bindsN fun _ _ _ _ _ _ us hl => match us, hl with | [_, _], _ => rfl
theorem b_xHeavier (T : Tx K mg) {fd : FuncData} (F : FunD K "__init__" "Heavier.__init__" (defArgs s_xHeavier) (defBody s_xHeavier) (defScope s_xHeavier) [] [] (He.ma K (a_Heavier K) "__init__") fd) : Binds K fd ["self", "at"] [] := F.bindsN fun _ _ _ _ _ _ us hl => match us, hl with | [_, _], _ => rfl
theorem b_xUnlessened (T : Tx K mg) {fd : FuncData} (F : FunD K "__init__" "Unlessened.__init__" (defArgs s_xUnlessened) (defBody s_xUnlessened) (defScope s_xUnlessened) [] [] (He.ma K (a_Unlessened K) "__init__") fd) : Binds K fd ["self", "old", "new"] [] := F.bindsN fun _ _ _ _ _ _ us hl => match us, hl with | [_, _, _], _ => rfl
theorem b_xBadGame (T : Tx K mg) {fd : FuncData} (F : FunD K "__init__" "BadGame.__init__" (defArgs s_xBadGame) (defBody s_xBadGame) (defScope s_xBadGame) [] [] (He.ma K (a_BadGame K) "__init__") fd) : Binds K fd ["self", "part"] [] := F.bindsN fun _ _ _ _ _ _ us hl => match us, hl with | [_, _], _ => rfl
theorem b_xOtherSigns (T : Tx K mg) {fd : FuncData} (F : FunD K "__init__" "OtherSigns.__init__" (defArgs s_xOtherSigns) (defBody s_xOtherSigns) (defScope s_xOtherSigns) [] [] (He.ma K (a_OtherSigns K) "__init__") fd) : Binds K fd ["self", "part"] [] := F.bindsN fun _ _ _ _ _ _ us hl => match us, hl with | [_, _], _ => rfl
theorem c_wof {CX : CXT} {k : Nat} {sp : Sp} (T : Tx K mg) (h : ∀ fd, FunD K "of" "Weights.of" (defArgs s_wof) (defBody s_wof) (defScope s_wof) [] [] (He5.wf K (a_Weights K) "classmethod" "of") fd → FnOk P w K mg base CX k (He5.wf K (a_Weights K) "classmethod" "of") fd ["cls", "pairs"] sp) : CmX P w K mg base CX k (a_Weights K) "of" sp := by
  obtain ⟨fd, F⟩ := T.d_wof
  exact cmX_of T.cm_wof (h fd F) (F.bindsN fun _ _ _ _ _ _ us hl => match us, hl with | [_, _], _ => rfl)
theorem c_bof {CX : CXT} {k : Nat} {sp : Sp} (T : Tx K mg) (h : ∀ fd, FunD K "of" "Book.of" (defArgs s_bof) (defBody s_bof) (defScope s_bof) [] [] (He5.wf K (a_Book K) "classmethod" "of") fd → FnOk P w K mg base CX k (He5.wf K (a_Book K) "classmethod" "of") fd ["cls", "weights", "rules"] sp) : CmX P w K mg base CX k (a_Book K) "of" sp := by
  obtain ⟨fd, F⟩ := T.d_bof
  exact cmX_of T.cm_bof (h fd F) (F.bindsN fun _ _ _ _ _ _ us hl => match us, hl with | [_, _, _], _ => rfl)
theorem c_mevery {CX : CXT} {k : Nat} {sp : Sp} (T : Tx K mg) (h : ∀ fd, FunD K "every" "Machine.every" (defArgs s_mevery) (defBody s_mevery) (defScope s_mevery) [] [] (He5.wf K (a_Machine K) "classmethod" "every") fd → FnOk P w K mg base CX k (He5.wf K (a_Machine K) "classmethod" "every") fd ["cls", "signs"] sp) : CmX P w K mg base CX k (a_Machine K) "every" sp := by
  obtain ⟨fd, F⟩ := T.d_mevery
  exact cmX_of T.cm_mevery (h fd F) (F.bindsN fun _ _ _ _ _ _ us hl => match us, hl with | [_, _], _ => rfl)
theorem c_mnone {CX : CXT} {k : Nat} {sp : Sp} (T : Tx K mg) (h : ∀ fd, FunD K "none" "Machine.none" (defArgs s_mnone) (defBody s_mnone) (defScope s_mnone) [] [] (He5.wf K (a_Machine K) "classmethod" "none") fd → FnOk P w K mg base CX k (He5.wf K (a_Machine K) "classmethod" "none") fd ["cls", "signs"] sp) : CmX P w K mg base CX k (a_Machine K) "none" sp := by
  obtain ⟨fd, F⟩ := T.d_mnone
  exact cmX_of T.cm_mnone (h fd F) (F.bindsN fun _ _ _ _ _ _ us hl => match us, hl with | [_, _], _ => rfl)
end
section
variable {P : Program} {w : World} {K : PySem.W.Frag} {mg : Str → Option Value} {base : Heap}
theorem ok_xBadSigns {f : Addr} {fd : FuncData} (F : FunD K "__init__" "BadSigns.__init__" (defArgs s_xBadSigns) (defBody s_xBadSigns) (defScope s_xBadSigns) [] [] f fd) (T : Tx K mg) : FnOk P w K mg base CX0 1 f fd ["self", "part"] (spXI (a_BadSigns K) ["part"]) := by
  refine F.ok sc_xBadSigns (fun vs H Q E h => ?_) (fun cdv A outer s H vs Q E hr h => ?_)
  · obtain ⟨a, ys, rfl, l, _⟩ := h
    exact congrArg Nat.succ l
  · obtain ⟨a, ys, rfl, l, ha, k⟩ := h
    match ys, l, k with
    | [y], _, k =>
      refine ⟨_, PSs.nox (pss_one (ps_ost (pv 0) (pv 1))), ?_⟩
      refine ⟨y, rfl, _, rfl, a, a_BadSigns K, rfl, oexB_ok T.xo_BadSigns, (fldXB_ok T.xf_part "BadSigns" (by decide)).2, .inl ⟨ha, fun dx hdx ne => ?_⟩⟩
      exact k dx _ hdx ne upd_same (by rw [upd_ne ne, upd_same]; rfl) fun b h1 h2 => by rw [upd_ne h1, upd_ne h2]
theorem xc_BadSigns (T : Tx K mg) : XcX P w K mg base 1 "BadSigns" (a_BadSigns K) ["part"] := by
  obtain ⟨fd, F⟩ := T.d_xBadSigns
  obtain ⟨h1, h2⟩ := Bool.and_eq_true_iff.mp T.xi_BadSigns
  exact ⟨_, fd, _, oexB_ok T.xo_BadSigns, He.eqO_ok h1, of_decide_eq_true h2, ok_xBadSigns F T, b_xBadSigns T F, T.g_BadSigns⟩
theorem ok_xBadBook {f : Addr} {fd : FuncData} (F : FunD K "__init__" "BadBook.__init__" (defArgs s_xBadBook) (defBody s_xBadBook) (defScope s_xBadBook) [] [] f fd) (T : Tx K mg) : FnOk P w K mg base CX0 1 f fd ["self", "at"] (spXI (a_BadBook K) ["at"]) := by
  refine F.ok sc_xBadBook (fun vs H Q E h => ?_) (fun cdv A outer s H vs Q E hr h => ?_)
  · obtain ⟨a, ys, rfl, l, _⟩ := h
    exact congrArg Nat.succ l
  · obtain ⟨a, ys, rfl, l, ha, k⟩ := h
    match ys, l, k with
    | [y], _, k =>
      refine ⟨_, PSs.nox (pss_one (ps_ost (pv 0) (pv 1))), ?_⟩
      refine ⟨y, rfl, _, rfl, a, a_BadBook K, rfl, oexB_ok T.xo_BadBook, (fldXB_ok T.xf_at "BadBook" (by decide)).2, .inl ⟨ha, fun dx hdx ne => ?_⟩⟩
      exact k dx _ hdx ne upd_same (by rw [upd_ne ne, upd_same]; rfl) fun b h1 h2 => by rw [upd_ne h1, upd_ne h2]
theorem xc_BadBook (T : Tx K mg) : XcX P w K mg base 1 "BadBook" (a_BadBook K) ["at"] := by
  obtain ⟨fd, F⟩ := T.d_xBadBook
  obtain ⟨h1, h2⟩ := Bool.and_eq_true_iff.mp T.xi_BadBook
  exact ⟨_, fd, _, oexB_ok T.xo_BadBook, He.eqO_ok h1, of_decide_eq_true h2, ok_xBadBook F T, b_xBadBook T F, T.g_BadBook⟩
theorem ok_xHeavier {f : Addr} {fd : FuncData} (F : FunD K "__init__" "Heavier.__init__" (defArgs s_xHeavier) (defBody s_xHeavier) (defScope s_xHeavier) [] [] f fd) (T : Tx K mg) : FnOk P w K mg base CX0 1 f fd ["self", "at"] (spXI (a_Heavier K) ["at"]) := by
  refine F.ok sc_xHeavier (fun vs H Q E h => ?_) (fun cdv A outer s H vs Q E hr h => ?_)
  · obtain ⟨a, ys, rfl, l, _⟩ := h
    exact congrArg Nat.succ l
  · obtain ⟨a, ys, rfl, l, ha, k⟩ := h
    match ys, l, k with
    | [y], _, k =>
      refine ⟨_, PSs.nox (pss_one (ps_ost (pv 0) (pv 1))), ?_⟩
      refine ⟨y, rfl, _, rfl, a, a_Heavier K, rfl, oexB_ok T.xo_Heavier, (fldXB_ok T.xf_at "Heavier" (by decide)).2, .inl ⟨ha, fun dx hdx ne => ?_⟩⟩
      exact k dx _ hdx ne upd_same (by rw [upd_ne ne, upd_same]; rfl) fun b h1 h2 => by rw [upd_ne h1, upd_ne h2]
theorem xc_Heavier (T : Tx K mg) : XcX P w K mg base 1 "Heavier" (a_Heavier K) ["at"] := by
  obtain ⟨fd, F⟩ := T.d_xHeavier
  obtain ⟨h1, h2⟩ := Bool.and_eq_true_iff.mp T.xi_Heavier
  exact ⟨_, fd, _, oexB_ok T.xo_Heavier, He.eqO_ok h1, of_decide_eq_true h2, ok_xHeavier F T, b_xHeavier T F, T.g_Heavier⟩
theorem ok_xUnlessened {f : Addr} {fd : FuncData} (F : FunD K "__init__" "Unlessened.__init__" (defArgs s_xUnlessened) (defBody s_xUnlessened) (defScope s_xUnlessened) [] [] f fd) (T : Tx K mg) : FnOk P w K mg base CX0 1 f fd ["self", "old", "new"] (spXI (a_Unlessened K) ["old", "new"]) := by
  refine F.ok sc_xUnlessened (fun vs H Q E h => ?_) (fun cdv A outer s H vs Q E hr h => ?_)
  · obtain ⟨a, ys, rfl, l, _⟩ := h
    exact congrArg Nat.succ l
  · obtain ⟨a, ys, rfl, l, ha, k⟩ := h
    match ys, l, k with
    | [y, y2], _, k =>
      refine ⟨_, PSs.nox (pss_cons (ps_ost (pv 0) (pv 1)) (pss_one (ps_ost (pv 0) (pv 2)))), ?_⟩
      refine ⟨y, rfl, _, rfl, a, a_Unlessened K, rfl, oexB_ok T.xo_Unlessened, (fldXB_ok T.xf_old "Unlessened" (by decide)).2, .inl ⟨ha, fun dx hdx ne => ?_⟩⟩
      refine ⟨y2, rfl, _, rfl, a, a_Unlessened K, rfl, oexB_ok T.xo_Unlessened, (fldXB_ok T.xf_new "Unlessened" (by decide)).2, .inr ⟨dx, _, upd_same, by rw [upd_ne ne, upd_same], (by show 1 ≤ 900; decide), ?_⟩⟩
      exact k dx _ hdx ne (by rw [upd_ne (Ne.symm ne), upd_same]) upd_same fun b h1 h2 => by rw [upd_ne h2, upd_ne h1, upd_ne h2]
theorem xc_Unlessened (T : Tx K mg) : XcX P w K mg base 1 "Unlessened" (a_Unlessened K) ["old", "new"] := by
  obtain ⟨fd, F⟩ := T.d_xUnlessened
  obtain ⟨h1, h2⟩ := Bool.and_eq_true_iff.mp T.xi_Unlessened
  exact ⟨_, fd, _, oexB_ok T.xo_Unlessened, He.eqO_ok h1, of_decide_eq_true h2, ok_xUnlessened F T, b_xUnlessened T F, T.g_Unlessened⟩
theorem ok_xBadGame {f : Addr} {fd : FuncData} (F : FunD K "__init__" "BadGame.__init__" (defArgs s_xBadGame) (defBody s_xBadGame) (defScope s_xBadGame) [] [] f fd) (T : Tx K mg) : FnOk P w K mg base CX0 1 f fd ["self", "part"] (spXI (a_BadGame K) ["part"]) := by
  refine F.ok sc_xBadGame (fun vs H Q E h => ?_) (fun cdv A outer s H vs Q E hr h => ?_)
  · obtain ⟨a, ys, rfl, l, _⟩ := h
    exact congrArg Nat.succ l
  · obtain ⟨a, ys, rfl, l, ha, k⟩ := h
    match ys, l, k with
    | [y], _, k =>
      refine ⟨_, PSs.nox (pss_one (ps_ost (pv 0) (pv 1))), ?_⟩
      refine ⟨y, rfl, _, rfl, a, a_BadGame K, rfl, oexB_ok T.xo_BadGame, (fldXB_ok T.xf_part "BadGame" (by decide)).2, .inl ⟨ha, fun dx hdx ne => ?_⟩⟩
      exact k dx _ hdx ne upd_same (by rw [upd_ne ne, upd_same]; rfl) fun b h1 h2 => by rw [upd_ne h1, upd_ne h2]
theorem xc_BadGame (T : Tx K mg) : XcX P w K mg base 1 "BadGame" (a_BadGame K) ["part"] := by
  obtain ⟨fd, F⟩ := T.d_xBadGame
  obtain ⟨h1, h2⟩ := Bool.and_eq_true_iff.mp T.xi_BadGame
  exact ⟨_, fd, _, oexB_ok T.xo_BadGame, He.eqO_ok h1, of_decide_eq_true h2, ok_xBadGame F T, b_xBadGame T F, T.g_BadGame⟩
theorem ok_xOtherSigns {f : Addr} {fd : FuncData} (F : FunD K "__init__" "OtherSigns.__init__" (defArgs s_xOtherSigns) (defBody s_xOtherSigns) (defScope s_xOtherSigns) [] [] f fd) (T : Tx K mg) : FnOk P w K mg base CX0 1 f fd ["self", "part"] (spXI (a_OtherSigns K) ["part"]) := by
  refine F.ok sc_xOtherSigns (fun vs H Q E h => ?_) (fun cdv A outer s H vs Q E hr h => ?_)
  · obtain ⟨a, ys, rfl, l, _⟩ := h
    exact congrArg Nat.succ l
  · obtain ⟨a, ys, rfl, l, ha, k⟩ := h
    match ys, l, k with
    | [y], _, k =>
      refine ⟨_, PSs.nox (pss_one (ps_ost (pv 0) (pv 1))), ?_⟩
      refine ⟨y, rfl, _, rfl, a, a_OtherSigns K, rfl, oexB_ok T.xo_OtherSigns, (fldXB_ok T.xf_part "OtherSigns" (by decide)).2, .inl ⟨ha, fun dx hdx ne => ?_⟩⟩
      exact k dx _ hdx ne upd_same (by rw [upd_ne ne, upd_same]; rfl) fun b h1 h2 => by rw [upd_ne h1, upd_ne h2]
theorem xc_OtherSigns (T : Tx K mg) : XcX P w K mg base 1 "OtherSigns" (a_OtherSigns K) ["part"] := by
  obtain ⟨fd, F⟩ := T.d_xOtherSigns
  obtain ⟨h1, h2⟩ := Bool.and_eq_true_iff.mp T.xi_OtherSigns
  exact ⟨_, fd, _, oexB_ok T.xo_OtherSigns, He.eqO_ok h1, of_decide_eq_true h2, ok_xOtherSigns F T, b_xOtherSigns T F, T.g_OtherSigns⟩
end

end Rg
namespace Rg
open PySem PySem.Spec PyProof.Rows L2
section
variable {P : Program} {w : World} {K : PySem.W.Frag} {mg : Str → Option Value} {base : Heap}
theorem canLay_ints : ∀ ns : List Int, PyData.canLayAll0 (ns.map PyData.int) = true
  | [] => rfl
  | n :: r => by
    show (true && PyData.canLayAll0 (r.map PyData.int)) = true
    rw [canLay_ints r] <;> rfl
theorem depth_ints : ∀ ns : List Int, PyData.depthAll (ns.map PyData.int) = 0
  | [] => rfl
  | n :: r => by
    show max 0 (PyData.depthAll (r.map PyData.int)) = 0
    rw [depth_ints r] <;> rfl
theorem shaped_ints (ns : List Int) : SeqAt.shaped (.list (ns.map PyData.int)) = true := by
  unfold SeqAt.shaped
  rw [Bool.and_eq_true]
  refine ⟨canLay_ints ns, decide_eq_true ?_⟩
  show PyData.depthAll (ns.map PyData.int) + 1 ≤ 64
  rw [depth_ints]
  decide
theorem mul_bd {a b A B : Int} (a0 : 0 ≤ a) (aA : a ≤ A) (b0 : 0 ≤ b) (bB : b ≤ B) : 0 ≤ a * b ∧ a * b ≤ A * B :=
  ⟨Int.mul_nonneg a0 b0, Int.le_trans (Int.mul_le_mul_of_nonneg_right aA b0) (Int.mul_le_mul_of_nonneg_left bB (Int.le_trans a0 aA))⟩
theorem ok_draw {f : Addr} {fd : FuncData} (F : FunD K "_law_draw" "_law_draw" (defArgs s_draw) (defBody s_draw) (defScope s_draw) [] [] f fd) (T : Tx K mg) : FnOk P w K mg base CX0 1 f fd ["_law_pen_here", "_law_many"] (spDraw K) := by
  refine F.ok sc_draw (fun vs H Q E h => ?_) (fun cdv A outer s H vs Q E hr h => ?_)
  · obtain ⟨D, p, m, n, rfl, _⟩ := h
    rfl
  · obtain ⟨D, p, m, n, rfl, sd, pn, hm1, hm2, k⟩ := h
    obtain ⟨out, q, ns, t, g, hp, hq, t0, tn⟩ := id pn
    refine ⟨_, PSs.nox (pss_cons (ps_if (pt_cmpR op_gt (pe_ix (ix_listK K) (pv 0) pe_int (fun _ _ => rfl)) pe_int (nomark _))
      (pss_cons (ps_set (i := 2) sc_draw.nd rfl (Or.inl rfl) (pe_op op_mod (pe_callTy call_int1 (by rfl) T.f_int (by decide +kernel) (pa_cons (pe_ix (ix_listK K) (pv 0) pe_int (fun _ _ => rfl)) pa_nil)) (pv 1)))
      (pss_cons (ps_asg (pe_op op_fdiv (pe_ix (ix_listK K) (pv 0) pe_int (fun _ _ => rfl)) (pv 1)) (pg_sub (pv 0) pe_int set_list))
      (pss_one (ps_ret (pv 2))))) pss_nil)
      (pss_cons (ps_set (i := 3) sc_draw.nd rfl (Or.inl rfl) (pe_ix (ix_listK K) (pv 0) pe_int (fun _ _ => rfl)))
      (pss_cons (ps_asg (pe_op op_add (pv 3) pe_int) (pg_sub (pv 0) pe_int set_list))
      (pss_cons (ps_set (i := 4) sc_draw.nd rfl (Or.inl rfl) (pe_op op_add (pe_op op_mul pe_int (pv 3)) pe_int))
      (C8.pss_cut (ps_if (pt_cmpR (op_neDK K hr.units) (pe_ix (ix_listK K) (pv 0) pe_int (fun _ _ => rfl)) (pe_lst pa_nil) (nomark _))
      (pss_one (ps_set (i := 4) sc_draw.nd rfl (Or.inl rfl) (pe_ix (ix_listK K) (pe_ix (ix_listK K) (pv 0) pe_int (fun _ _ => rfl)) (pe_op op_mod (pe_callTy call_int1 (by rfl) T.f_int (by decide +kernel) (pa_cons (pv 3) pa_nil)) (pe_callB (call_len_seqK K) (by rfl) T.f_len (by decide +kernel) (pa_cons (pe_ix (ix_listK K) (pv 0) pe_int (fun _ _ => rfl)) pa_nil))) (fun _ _ => rfl)))) pss_nil)
      (C8.pss_cut (ps_if (PW.pt (pw_and (pt_cmpR op_lt (pv 3) (pe_callB (call_len_seqK K) (by rfl) T.f_len (by decide +kernel) (pa_cons (pe_ix (ix_listK K) (pv 0) pe_int (fun _ _ => rfl)) pa_nil)) (nomark _)) (pw_and1 (pt_cmpR op_ge (pe_callB call_abs (by rfl) T.f_abs (by decide +kernel) (pa_cons (pv 4) pa_nil)) (pe_op op_pow pe_int pe_int) (nomark _)))))
      (pss_cons (ps_set (i := 5) sc_draw.nd rfl (Or.inl rfl) (pe_op op_add (pe_op op_mul pe_int (pe_op op_sub (pe_callB call_abs (by rfl) T.f_abs (by decide +kernel) (pa_cons (pv 4) pa_nil)) (pe_op op_pow pe_int pe_int))) (pe_callTy call_int1 (by rfl) T.f_int (by decide +kernel) (pa_cons (pe_cmpR op_lt (pv 4) pe_int (nomark _)) pa_nil))))
      (pss_cons (ps_asg (pe_op op_fdiv (pv 5) (pv 1)) (pg_sub (pv 0) pe_int set_list))
      (pss_one (ps_ret (pe_op op_mod (pe_callTy call_int1 (by rfl) T.f_int (by decide +kernel) (pa_cons (pv 5) pa_nil)) (pv 1)))))) pss_nil)
      (pss_cons (ps_set (i := 6) sc_draw.nd rfl (Or.inl rfl) (pe_op op_mod (pe_callTy call_int1 (by rfl) T.f_int (by decide +kernel) (pa_cons (pe_op op_pow (pe_op op_add (pe_op op_add (pe_op op_mod (pe_callTy call_int1 (by rfl) T.f_int (by decide +kernel) (pa_cons (pv 4) pa_nil)) pe_int) (pe_op op_mul pe_int (pv 3))) pe_int) pe_int) pa_nil)) pe_int))
      (pss_cons (ps_set (i := 6) sc_draw.nd rfl (Or.inl rfl) (pe_op op_mod (pe_callTy call_int1 (by rfl) T.f_int (by decide +kernel) (pa_cons (pe_op op_pow (pe_op op_add (pe_op op_add (pe_op op_mul (pv 6) (pe_op op_add (pe_op op_mul pe_int (pv 3)) pe_int)) (pe_op op_mul (pe_op op_mul pe_int (pv 3)) (pv 3))) pe_int) pe_int) pa_nil)) pe_int))
      (pss_one (ps_ret (pe_op op_mod (pe_callTy call_int1 (by rfl) T.f_int (by decide +kernel) (pa_cons (pe_op op_fdiv (pv 6) pe_int) pa_nil)) (pv 1)))))))))))), ?_⟩
    -- if pen[2] > 0
    refine ⟨_, rfl, p, _, _, _, rfl, rfl, SqL.of hp, rfl, _, _, rfl, rfl, _, rfl, ?_⟩
    refine ite2 (fun hg => ?_) (fun hg => ?_)
    · refine ⟨_, rfl, p, _, _, _, rfl, rfl, SqL.of hp, rfl, Or.inl ⟨_, rfl, _, rfl, _, _, rfl, rfl, (show (0 : Int) < m by omega), ?_⟩⟩
      refine ⟨_, rfl, p, _, _, _, rfl, rfl, SqL.of hp, rfl, _, rfl, _, _, rfl, rfl, ⟨(show (0 : Int) < m by omega), (show m < 1073741824 by omega)⟩, _, rfl, p, _, _, _, rfl, rfl, hp, rfl, _, rfl, ?_⟩
      refine k _ _ ((Step.refl sd).write (.inl rfl) out) ⟨out, q, ns, t, _, upd_same, hq, t0, by omega⟩ (Int.emod_nonneg _ (by omega)) (Int.emod_lt_of_pos _ (by omega))
    · -- at = pen[1]; pen[1] = at + 1; cell = ..
      refine ⟨_, rfl, p, _, _, _, rfl, rfl, SqL.of hp, rfl, ?_⟩
      refine ⟨_, rfl, _, _, rfl, rfl, _, rfl, p, _, _, _, rfl, rfl, hp, rfl, ?_⟩
      have hp1 : (upd H p (.lst [.ref q, .int (t + 1), .int g])) p = some (.lst [.ref q, .int (t + 1), .int g]) := upd_same
      have st1 : Step (· = p) D H D (upd H p (.lst [.ref q, .int (t + 1), .int g])) := (Step.refl sd).write (.inl rfl) out
      have hq1 : SqL K (upd H p (.lst [.ref q, .int (t + 1), .int g])) q (ns.map V.int) := st1.dh.seq hq
      refine ⟨_, rfl, _, _, rfl, rfl, Or.inl ⟨by decide, by decide⟩, _, _, rfl, rfl, ?_⟩
      refine ⟨fun σ' H' => ∃ (c : Int), σ' = [some (.ref p), some (.int m), none, some (.int t), some (.int c), none, none] ∧ Step (· = p) D H D H' ∧ H' p = some (.lst [.ref q, .int (t + 1), .int g]), ?_, ?_⟩
      · -- if pen[0] != []
        refine ⟨_, rfl, p, _, _, _, rfl, rfl, SqL.of hp1, rfl, (by decide), fun l hl => ?_⟩
        have st2 : Step (· = p) D H D (upd (upd H p (.lst [.ref q, .int (t + 1), .int g])) l (.lst [])) := st1.trans (Step.tmp st1.dh hl)
        have npl : p ≠ l := ne_of_none hp1 hl
        have hp2 : (upd (upd H p (.lst [.ref q, .int (t + 1), .int g])) l (.lst [])) p = some (.lst [.ref q, .int (t + 1), .int g]) := by rw [upd_ne npl]; exact hp1
        have hq2 := st2.dh.seq hq
        refine ⟨.list (ns.map PyData.int), .list [], .lst hq2 (dpAll_ints ns), .lst (SqL.of upd_same) .nil, shaped_ints ns, rfl, _, rfl, ?_⟩
        cases ns with
        | nil =>
          refine iteF ?_
          exact ⟨_, rfl, st2, hp2⟩
        | cons n0 nr =>
          refine iteT ?_
          have hlen : (0 : Int) < (((n0 :: nr).map V.int).length : Int) := by simp
          have hmod := Int.emod_nonneg t (show (((n0 :: nr).map V.int).length : Int) ≠ 0 by omega)
          have hlt := Int.emod_lt_of_pos t hlen
          obtain ⟨c, hc⟩ : ∃ c : Int, ((n0 :: nr).map V.int)[(t % (((n0 :: nr).map V.int).length : Int)).toNat]? = some (.int c) := by
            have hb : (t % (((n0 :: nr).map V.int).length : Int)).toNat < (n0 :: nr).length := by
              rw [List.length_map] at hmod hlt ⊢
              omega
            exact ⟨_, by rw [List.getElem?_map, List.getElem?_eq_getElem hb] <;> rfl⟩
          refine ⟨_, rfl, p, _, _, _, rfl, rfl, SqL.of hp2, rfl, _, rfl, Or.inl ⟨_, rfl, _, rfl, p, _, _, _, rfl, rfl, SqL.of hp2, rfl, q, _, rfl, .inl hq2, _, _, rfl, rfl, hlen, q, _, _, .int c, rfl, rfl, hq2, ?_, ?_⟩⟩
          · have e := atI_nat hc
            rw [Int.toNat_of_nonneg hmod] at e
            exact e
          · exact ⟨c, rfl, st2, hp2⟩
      · rintro σ' H' ⟨c, rfl, st, hpp⟩
        have hqq := st.dh.seq hq
        have pen' : ∀ (H2 : Hp) (g' : Int), Step (· = p) D H D H2 → H2 p = some (.lst [.ref q, .int (t + 1), .int g']) → PenAt K D H2 p n := fun H2 g' _ e => ⟨out, q, ns, t + 1, g', e, hq, by omega, by omega⟩
        -- if at < len(pen[0]) and abs(cell) >= 10 ** 18
        refine ⟨fun σ' H2 => σ' = [some (.ref p), some (.int m), none, some (.int t), some (.int c), none, none] ∧ H2 = H', ?_, ?_⟩
        · refine ⟨_, rfl, _, rfl, p, _, _, _, rfl, rfl, SqL.of hpp, rfl, q, _, rfl, .inl hqq, _, _, rfl, rfl, _, rfl, ?_⟩
          refine ite2 (fun h1 => ?_) (fun h1 => iteF ⟨rfl, rfl⟩)
          refine ⟨_, rfl, _, rfl, _, _, rfl, rfl, ⟨by decide, by decide, by decide⟩, _, _, rfl, rfl, _, rfl, ?_⟩
          refine ite2 (fun h2 => ?_) (fun h2 => ⟨rfl, rfl⟩)
          refine ⟨_, rfl, _, rfl, _, _, rfl, rfl, ⟨by decide, by decide, by decide⟩, _, _, rfl, rfl, _, _, rfl, rfl, Or.inl ⟨by decide, by decide⟩, _, rfl, _, _, rfl, rfl, Or.inr ⟨_, rfl, _, _, rfl, rfl, ?_⟩⟩
          refine ⟨_, rfl, _, rfl, _, _, rfl, rfl, ⟨(show (0 : Int) < m by omega), (show m < 1073741824 by omega)⟩, _, rfl, p, _, _, _, rfl, rfl, hpp, rfl, ?_⟩
          refine ⟨_, rfl, Or.inl ⟨_, rfl, _, rfl, _, _, rfl, rfl, (show (0 : Int) < m by omega), ?_⟩⟩
          have st3 := st.write (o := .lst [.ref q, .int (t + 1), .int ((2 * ((if c < 0 then -c else c) - 10 ^ 18) + if decide (c < 0) = true then 1 else 0) / m)]) (.inl rfl) out
          exact k _ _ st3 (pen' _ _ st3 upd_same) (Int.emod_nonneg _ (by omega)) (Int.emod_lt_of_pos _ (by omega))
        · rintro σ' H2 ⟨rfl, rfl⟩
          -- mixed = int((int(cell) % .. + .. * at + ..) ** 5) % ..
          refine ⟨_, rfl, Or.inl ⟨_, rfl, _, _, rfl, rfl, (by show (0 : Int) < _; decide), _, rfl, _, _, rfl, rfl, Or.inl ⟨by decide, by decide⟩, _, _, rfl, rfl, _, _, rfl, rfl, _, _, rfl, rfl, ⟨by decide, by decide, by omega⟩, Or.inl ⟨_, rfl, _, _, rfl, rfl, (by show (0 : Int) < _; decide), ?_⟩⟩⟩
          obtain ⟨x, hx⟩ : ∃ x : Int, x = (c % 2147483563 + 52021 * t + 67) ^ 3 % 2147483647 := ⟨_, rfl⟩
          have hx0 : 0 ≤ x := by rw [hx]; exact Int.emod_nonneg _ (by decide)
          have hx1 : x < 4294967296 := by rw [hx]; exact Int.lt_of_lt_of_le (Int.emod_lt_of_pos _ (by decide)) (by decide)
          have hy := mul_bd hx0 (Int.le_of_lt hx1) (show (0 : Int) ≤ 2 * t + 35 by omega) (show 2 * t + 35 ≤ 4000000 by omega)
          have hz := mul_bd (show (0 : Int) ≤ 51031 * t by omega) (show 51031 * t ≤ 100000 * 1000000 by omega) t0 (show t ≤ 1000000 by omega)
          refine ⟨_, rfl, _, rfl, _, _, rfl, rfl, Or.inl ⟨by decide, by decide⟩, _, _, rfl, rfl, _, _, rfl, rfl, Or.inr ⟨by omega, by omega⟩, _, rfl, _, _, rfl, rfl, Or.inl ⟨by decide, by decide⟩, _, rfl, _, _, rfl, rfl, Or.inr ⟨by omega, by omega⟩, _, _, rfl, rfl, _, _, rfl, rfl, _, _, rfl, rfl, ⟨by decide, by decide, ?_⟩, Or.inl ⟨_, rfl, _, _, rfl, rfl, (by show (0 : Int) < _; decide), ?_⟩⟩
          · show ((c % 2147483563 + 52021 * t + 67) ^ 3 % 2147483647 * (2 * t + 35) + 51031 * t * t + 8831).natAbs < 2 ^ 64
            rw [← hx]
            omega
          refine ⟨_, rfl, _, _, rfl, rfl, ⟨by decide, by decide⟩, Or.inl ⟨_, rfl, _, rfl, _, _, rfl, rfl, (show (0 : Int) < m by omega), ?_⟩⟩
          exact k _ _ st (pen' _ _ st hpp) (Int.emod_nonneg _ (by omega)) (Int.emod_lt_of_pos _ (by omega))
end
end Rg
namespace Rg
open PySem PySem.Spec PyProof.Rows L2
section
variable {P : Program} {w : World} {K : PySem.W.Frag} {mg : Str → Option Value} {base : Heap}
theorem cut_ints (ns : List Int) (lo hi : Option Int) : ∃ ms : List Int, cutV (ns.map V.int) lo hi = ms.map V.int := by
  unfold cutV
  rw [← List.map_drop, ← List.map_take]
  exact ⟨_, rfl⟩
def spPenT (K : PySem.W.Frag) : Sp := fun vs H Q _ => ∃ (a : Addr) (ns : List Int) (D : Hp), vs = [.ref a] ∧ SqL K H a (ns.map V.int) ∧ Same D H ∧ ∀ (D' H' : Hp) (p : Addr), Step NoW D H D' H' → PenAt K D' H' p 900000 → Q (.ref p) H'
theorem ok_penT {f : Addr} {fd : FuncData} (F : FunD K "_law_pen" "_law_pen" (defArgs s_pen) (defBody s_pen) (defScope s_pen) [] [] f fd) (T : Tx K mg) : FnOk P w K mg base CX0 1 f fd ["_law_script"] (spPenT K) := by
  refine F.ok sc_pen (fun vs H Q E h => ?_) (fun cdv A outer s H vs Q E hr h => ?_)
  · obtain ⟨a, ns, D, rfl, _⟩ := h
    rfl
  · obtain ⟨a, ns, D, rfl, hS, sd, k⟩ := h
    refine ⟨_, PSs.nox (pss_one (ps_ret (pe_lst (pa_cons (pe_callTy (call_list_ofK K) (by rfl) T.f_list (by decide +kernel) (pa_cons (pe_slice (sl_listK K) (pv 0) po_none (po_some pe_int)) pa_nil)) (pa_cons pe_int (pa_cons pe_int pa_nil)))))), ?_⟩
    obtain ⟨ms, em⟩ := cut_ints ns none (some 63)
    refine ⟨_, rfl, _, rfl, a, _, rfl, hS, fun p1 h1 => ⟨p1, _, rfl, .inl (SqL.of upd_same), fun p2 h2 => ⟨(by show 3 ≤ sizeLine; decide), fun p3 h3 => ?_⟩⟩⟩
    rw [em] at h2 h3 ⊢
    have st1 : Step NoW D H D (upd H p1 (.lst (ms.map V.int))) := Step.tmp sd h1
    have st2 := st1.trans (Step.new (o := .lst (ms.map V.int)) st1.dh h2)
    have st3 := st2.trans (Step.tmp (o := .lst [.ref p2, .int 0, .int 0]) st2.dh h3)
    exact k _ _ p3 st3 ⟨st2.dh.free h3, p2, ms, 0, 0, upd_same, SqL.of upd_same, Int.le_refl 0, by decide⟩
theorem cPenT (T : Tx K mg) : CalX P w K mg base CX0 1 "_law_pen" (spPenT K) := c_pen T fun _ F => ok_penT F T
theorem atI_of {α : Type} {xs : List α} {i : Int} {v : α} (h0 : 0 ≤ i) (h : xs[i.toNat]? = some v) : atI xs i = some v := by
  have e := atI_nat h
  rw [Int.toNat_of_nonneg h0] at e
  exact e
theorem at_mem {α : Type} {xs : List α} {r : Int} (h0 : 0 ≤ r) (h1 : r < xs.length) : ∃ v, v ∈ xs ∧ atI xs r = some v := by
  have hl : r.toNat < xs.length := by omega
  exact ⟨xs[r.toNat], List.getElem_mem hl, atI_of h0 (List.getElem?_eq_getElem hl)⟩
theorem texts_sgn : ∀ cs : List Nat, textsOf (cs.map fun c => DV.str (sgn c)) = some (cs.map sgn)
  | [] => rfl
  | c :: cs => by
    show (textsOf (cs.map fun c => DV.str (sgn c))).map (sgn c :: ·) = _
    rw [texts_sgn cs]
    rfl
theorem cDrawD (T : Tx K mg) : CalX P w K mg base CX0 1 "_law_draw" (spP K fnDraw) := c_draw T fun _ F => (ok_draw F T).imp imp_draw
def fnPick : PFn := fun pn ds n Q _ => ∃ (p : Addr) (xs : List DV), pn = some p ∧ ds = [.raw (.ref p), .lst xs] ∧ 1 ≤ n ∧ 1 ≤ xs.length ∧ xs.length < 1000000 ∧ ∀ x ∈ xs, Q x (n - 1)
theorem ok_pickD {f : Addr} {fd : FuncData} (F : FunD K "_law_pick" "_law_pick" (defArgs s_pick) (defBody s_pick) (defScope s_pick) [] [] f fd) (T : Tx K mg) : FnOk P w K mg base CX0 2 f fd ["_law_pen_here", "_law_some"] (spP K fnPick) := by
  refine ok_p F sc_pick (fun pn ds n Q R h => ?_) fun cdv A outer s pn D H E ds n Qd R hr h => ?_
  · obtain ⟨p, xs, rfl, rfl, _⟩ := h
    rfl
  obtain ⟨p, xs, rfl, rfl, n1, l1, l2, hq⟩ := h
  refine ⟨_, DSs.nox (s_one (s_ret (d_ixV (pv 1) (d_call (cDrawD T) hr (by decide) (by rfl) pass0 (a_cons (d_var (pv 0)) (a_cons (d_lenV (by rfl) T.f_len (pv 1)) a_nil)))))), ?_⟩
  refine ⟨p, _, rfl, rfl, n1, by omega, by omega, fun r r0 r1 => ?_⟩
  obtain ⟨v, hv, ha⟩ := at_mem r0 r1
  show (match atI xs r with | some a => Qd a (n - 1) | none => False)
  rw [ha]
  exact hq v hv
theorem cPickD (T : Tx K mg) : CalX P w K mg base CX0 2 "_law_pick" (spP K fnPick) := c_pick T fun _ F => ok_pickD F T
theorem ex_map {α : Type} (f : α → DV) : ∀ (P : Nat → α → Prop) (ys : List DV), (∀ i y, ys[i]? = some y → ∃ x, y = f x ∧ P i x) → ∃ xs : List α, ys = xs.map f ∧ ∀ i x, xs[i]? = some x → P i x
  | _, [], _ => ⟨[], rfl, fun i x h => by simp at h⟩
  | P, y :: ys, h => by
    obtain ⟨x, e, hx⟩ := h 0 y rfl
    obtain ⟨xs, e2, hxs⟩ := ex_map f (fun i x => P (i + 1) x) ys fun i z hz => h (i + 1) z (by simpa using hz)
    refine ⟨x :: xs, by rw [e, e2]; rfl, fun i z hz => ?_⟩
    cases i with
    | zero =>
      have : x = z := by simpa using hz
      rw [← this]
      exact hx
    | succ i => exact hxs i z (by simpa using hz)
end
end Rg
namespace Rg
open PySem PySem.Spec PyProof.Rows L2
section
variable {P : Program} {w : World} {K : PySem.W.Frag} {mg : Str → Option Value} {base : Heap}
theorem own_Weights (T : Tx K mg) : OwnTy K "Weights" := ⟨⟨T.cl_Weights, He.eqO_ok T.ca_Weights, He.eqO_ok T.cnB, of_decide_eq_true T.ctB, of_decide_eq_true T.ob_Weights⟩, of_decide_eq_true T.ki_Weights, T.kn_Weights⟩
theorem own_Rule (T : Tx K mg) : OwnTy K "Rule" := ⟨⟨T.cl_Rule, He.eqO_ok T.ca_Rule, He.eqO_ok T.cnB, of_decide_eq_true T.ctB, of_decide_eq_true T.ob_Rule⟩, of_decide_eq_true T.ki_Rule, T.kn_Rule⟩
theorem own_Book (T : Tx K mg) : OwnTy K "Book" := ⟨⟨T.cl_Book, He.eqO_ok T.ca_Book, He.eqO_ok T.cnB, of_decide_eq_true T.ctB, of_decide_eq_true T.ob_Book⟩, of_decide_eq_true T.ki_Book, T.kn_Book⟩
def okC (C : Str) (d : DV) : Bool := isC C d || (tyName d).isSome
theorem oth_C {C : Str} (c : Cls K (He.ga K C)) (ca : He.eqO (PySem.W.findIn K (.ref (He.ga K C)) "__class__") (some (some (.builtin "object.__class__"))) = true) (cn : He.eqO (PySem.W.specialIn K (.builtin "object.__class__") "__get__") (some (some (.builtin "getset_descriptor.__get__"))) = true) (ct : decide (PySem.W.takesIn K (.builtin "object.__class__") = some true) = true) (ob : decide (PySem.W.mroIn K (He.ga K C) (.type "object") = some true) = true)
    (nf : PySem.W.notFirst K (He.ga K C) (.ref (He.ga K C)) = true) (nn : (tyNames.all fun n => PySem.W.notFirst K (He.ga K C) (.type n)) = true) : OthD K (He.ga K C) (okC C) := ⟨fun {D H v d} sd r h => by
  unfold okC at h
  cases e : isC C d with
  | true =>
    obtain ⟨a, dx, fs, rfl, h1⟩ := rv_isC0 r e
    exact ⟨_, .base (.ins (sd _ _ h1) c (He.eqO_ok ca) (He.eqO_ok cn) (of_decide_eq_true ct) (of_decide_eq_true ob)), nf⟩
  | false =>
    rw [e, Bool.false_or] at h
    obtain ⟨t, e1⟩ := Option.isSome_iff_exists.mp h
    exact ⟨.type t, rv_ty r sd e1, List.all_eq_true.mp nn t (tyName_in e1)⟩⟩
theorem oth_Weights (T : Tx K mg) : OthD K (a_Weights K) (okC "Weights") := oth_C T.cl_Weights T.ca_Weights T.cnB T.ctB T.ob_Weights T.nf_Weights T.nn_Weights
theorem oth_Rule (T : Tx K mg) : OthD K (a_Rule K) (okC "Rule") := oth_C T.cl_Rule T.ca_Rule T.cnB T.ctB T.ob_Rule T.nf_Rule T.nn_Rule
theorem getIn_W (T : Tx K mg) : ∀ f, Meth K (a_Weights K) "__getitem__" f → PySem.W.fnIn K f = true := fun f h => by
  have e := h.at_
  rw [T.m_wget.at_] at e
  cases e
  exact T.getIn_Weights
theorem me_W : (("Weights" : Str) ∈ (["Weights"] : List Str)) := List.mem_singleton.mpr rfl
theorem me_R : (("Rule" : Str) ∈ (["Rule"] : List Str)) := List.mem_singleton.mpr rfl
theorem me_B : (("Book" : Str) ∈ (["Book"] : List Str)) := List.mem_singleton.mpr rfl
def pairD (p : Nat × Nat) : DV := .tup [.str (sgn p.1), .int (p.2 : Nat)]
structure GoodPairs (ps : List (Nat × Nat)) : Prop where
  pos : 1 ≤ ps.length
  few : ps.length ≤ 4
  let_ : ∀ p ∈ ps, p.1 ∈ letters
  wt : ∀ p ∈ ps, p.2 ≤ 9
  nd : (ps.map (·.1)).Nodup
def keyP (p : Nat × Nat) : Key × DV := (Sum.inr (sgn p.1), .int (p.2 : Nat))
def wtsD (ps : List (Nat × Nat)) : List DV := [.node (.dct (ps.map fun p => Sum.inr (sgn p.1))) (ps.map fun p => DV.int (p.2 : Nat)), .tup (ps.map pairD), .str (SX.S (ps.map (·.1)))]
def fnIsLetter : PFn := fun _ ds n Q _ => ∃ c : Nat, ds = [.str (sgn c)] ∧ Q (.bl (decide (c ∈ letters))) n
theorem ok_isLetterD {f : Addr} {fd : FuncData} (F : FunD K "is_letter" "is_letter" (defArgs s_isLetter) (defBody s_isLetter) (defScope s_isLetter) [] [] f fd) (T : Tx K mg) : FnOk P w K mg base CX0 1 f fd ["thing"] (spP K fnIsLetter) := by
  refine ok_p F sc_isLetter (fun pn ds n Q R h => ?_) fun cdv A outer s pn D H E ds n Qd R hr h => ?_
  · obtain ⟨c, rfl, _⟩ := h
    rfl
  obtain ⟨c, rfl, hq⟩ := h
  refine ⟨_, DSs.nox (s_one (s_ret (d_and (d_callB (c_isi T.xE T.xK) (by rfl) T.f_isinstance (by decide +kernel) (a_cons (d_var (pv 0)) (a_cons (d_fast (d := .raw (.ty "str")) (pe_bltn (v := .ty "str") (by rfl) T.f_str (by decide +kernel) rfl) (fun _ _ => .raw _)) a_nil))) (d_and (d_cmp (b_eq hr.units) (d_lenV (by rfl) T.f_len (pv 0)) d_int (nomark _)) (d_one (d_cmp (b_in (hu65 hr)) (d_var (pv 0)) (d_fast (C8.pe_gc (by rfl) T.g_LETTERS) (fun _ _ => .str _)) (by rfl))))))), ?_⟩
  refine ⟨true, ⟨"str", rfl, by decide +kernel⟩, (show 1 ≤ sizeLine by decide), c, rfl, ?_⟩
  rw [xor_f]
  exact hq
theorem cIsLetter (T : Tx K mg) : CalX P w K mg base CX0 1 "is_letter" (spP K fnIsLetter) := c_isLetter T fun _ F => ok_isLetterD F T
def fnIsInt : PFn := fun _ ds n Q _ => ∃ i lo hi : Int, ds = [.int i, .int lo, .int hi] ∧ Q (.bl (decide (lo ≤ i) && decide (i ≤ hi))) n
theorem ok_isInt {f : Addr} {fd : FuncData} (F : FunD K "is_integer" "is_integer" (defArgs s_isInt) (defBody s_isInt) (defScope s_isInt) [] [] f fd) (T : Tx K mg) : FnOk P w K mg base CX0 1 f fd ["thing", "low", "high"] (spP K fnIsInt) := by
  refine ok_p F sc_isInt (fun pn ds n Q R h => ?_) fun cdv A outer s pn D H E ds n Qd R hr h => ?_
  · obtain ⟨i, lo, hi, rfl, _⟩ := h
    rfl
  obtain ⟨i, lo, hi, rfl, hq⟩ := h
  refine ⟨_, DSs.nox (s_one (s_ret (d_and (d_callB (c_isi T.xE T.xK) (by rfl) T.f_isinstance (by decide +kernel) (a_cons (d_var (pv 0)) (a_cons (d_fast (d := .raw (.ty "int")) (pe_bltn (v := .ty "int") (by rfl) T.f_int (by decide +kernel) rfl) (fun _ _ => .raw _)) a_nil))) (d_and (d_not (d_callB (c_isi T.xE T.xK) (by rfl) T.f_isinstance (by decide +kernel) (a_cons (d_var (pv 0)) (a_cons (d_fast (d := .raw (.ty "bool")) (pe_bltn (v := .ty "bool") (by rfl) T.f_bool (by decide +kernel) rfl) (fun _ _ => .raw _)) a_nil)))) (d_one (d_chain b_le b_le (d_var (pv 1)) (d_var (pv 0)) (d_var (pv 2)))))))), ?_⟩
  refine ⟨true, ⟨"int", rfl, by decide +kernel⟩, false, ⟨"int", rfl, by decide +kernel⟩, ?_⟩
  show (match (DV.bl (decide (lo ≤ i))) with | DV.bl true => _ | DV.bl false => _ | _ => False)
  by_cases h1 : lo ≤ i
  · rw [decide_eq_true h1] at hq ⊢
    exact hq
  · rw [decide_eq_false h1] at hq ⊢
    exact hq
theorem cIsInt (T : Tx K mg) : CalX P w K mg base CX0 1 "is_integer" (spP K fnIsInt) := c_isInt T fun _ F => ok_isInt F T
def fsW : List Str := ["weight_by", "pairs", "signs"]
def fnWts : NFn := fun _ ds n Q _ => ∃ ps : List (Nat × Nat), ds = ps.map pairD ∧ GoodPairs ps ∧ Q (wtsD ps) n
theorem dput_new {k : Key} {d : DV} : ∀ {kvs : List (Key × DV)}, k ∉ kvs.map (·.1) → dput kvs k d = kvs ++ [(k, d)] := fun {kvs} h => by
  unfold dput
  rw [if_neg]
  intro z
  obtain ⟨x, hx, e⟩ := List.any_eq_true.mp z
  exact h (List.mem_map.mpr ⟨x, hx, of_decide_eq_true e⟩)
theorem ok_winit {f : Addr} {fd : FuncData} (F : FunD K "__init__" "Weights.__init__" (defArgs s_winit) (defBody s_winit) (defScope s_winit) [] [] f fd) (T : Tx K mg) : FnR P w K mg base (L2.CX P w) 4 f (spNew K "Weights" fsW fnWts) := by
  refine ok_newV F sc_winit StX.cxUp (fun kV doc pm an cdv ct us rest hl => match us, hl, rest with | [_], _, [] => rfl | [_], _, _ :: _ => rfl) (fun pn ds n Q R h => ?_) fun cdv A outer s pn D H E x dx ds n Qd R hr d0 h0 np h => ?_
  · obtain ⟨ps, rfl, g, _⟩ := h
    rw [List.length_map]
    exact Nat.le_trans g.few (by decide)
  obtain ⟨ps, rfl, g, hq⟩ := h
  refine ⟨_, (b_cons (s_if (t_not (t_chain b_le b_le d_int (d_lenV (by rfl) T.f_len (pv 1)) (d_fast (C8.pe_gc (by rfl) T.g_MOST_SIGNS) (fun _ _ => .int _))))
      (s_one (s_raise (xc_BadSigns T) (takes_of rfl rfl rfl rfl) hr (by decide) (by rfl) (a_cons d_str a_nil))) s_nil)
      (b_dict (G := ⟨K, pn, D, H, E, []⟩) (X := cxOf (L2.CX P w) P w K mg base ["self", "pairs", "at", "pair", "sign", "weight"] "Weights.__init__" (defScope s_winit) f cdv A outer s H E) rfl h0 d0 np T.cl_Weights T.n_Weights_weight_by (pv 0)
      (si_cons (si_for (G := ⟨K, pn, D, H, E, []⟩) (X := cxOf (L2.CX P w) P w K mg base ["self", "pairs", "at", "pair", "sign", "weight"] "Weights.__init__" (defScope s_winit) f cdv A outer s H E) (passes_of rfl) rfl (fun _ => (i_enum (by rfl) T.f_enumerate (d_var (pv 1)))) (fun _ => (g_tup (n := 2) rfl (gs_cons (g_name (pg_name (i := 2) sc_winit.nd rfl (Or.inl rfl))) (gs_cons (g_name (pg_name (i := 3) sc_winit.nd rfl (Or.inl rfl))) gs_nil)) (glN (glN gl0))))
      (si_cons (si_plain (G := ⟨K, pn, D, H, E, []⟩) (X := cxOf (L2.CX P w) P w K mg base ["self", "pairs", "at", "pair", "sign", "weight"] "Weights.__init__" (defScope s_winit) f cdv A outer s H E) fun W dx a ps qs lk hk => (s_if (DW.t (w_or (t_not (t_tru (d_callB (c_isi T.xE T.xK) (by rfl) T.f_isinstance (by decide +kernel) (a_cons (d_var (pv 3)) (a_cons (d_fast (d := .raw (.ty "tuple")) (pe_bltn (v := .ty "tuple") (by rfl) T.f_tuple (by decide +kernel) rfl) (fun _ _ => .raw _)) a_nil))))) (w_or (t_cmp (b_ne hr.units) (d_lenV (by rfl) T.f_len (pv 3)) d_int (nomark _)) (w_or1 (t_not (t_tru (d_call (cIsLetter T) hr (by decide) (by rfl) pass0 (a_cons (d_ixV (pv 3) d_int) a_nil))))))))
      (s_one (s_raise (xc_BadSigns T) (takes_of rfl rfl rfl rfl) hr (by decide) (by rfl) (a_cons (d_var (pv 2)) a_nil))) s_nil))
      (si_cons (si_plain (G := ⟨K, pn, D, H, E, []⟩) (X := cxOf (L2.CX P w) P w K mg base ["self", "pairs", "at", "pair", "sign", "weight"] "Weights.__init__" (defScope s_winit) f cdv A outer s H E) fun W dx a ps qs lk hk => (s_if (DW.t (w_or (t_not (t_tru (d_call (cIsInt T) hr (by decide) (by rfl) pass0 (a_cons (d_ixV (pv 3) d_int) (a_cons d_int (a_cons (d_fast (C8.pe_gc (by rfl) T.g_MOST_WEIGHT) (fun _ _ => .int _)) a_nil)))))) (w_or1 (t_inF (hu1 hr.units) T.cl_Weights T.n_Weights_weight_by lk hk (pv 0) (d_ixV (pv 3) d_int)))))
      (s_one (s_raise (xc_BadSigns T) (takes_of rfl rfl rfl rfl) hr (by decide) (by rfl) (a_cons (d_var (pv 2)) a_nil))) s_nil))
      (si_cons (si_put (G := ⟨K, pn, D, H, E, []⟩) (X := cxOf (L2.CX P w) P w K mg base ["self", "pairs", "at", "pair", "sign", "weight"] "Weights.__init__" (defScope s_winit) f cdv A outer s H E) (hu1 hr.units) T.cl_Weights T.n_Weights_weight_by (pv 0) (fun _ => (d_ixV (pv 3) d_int)) (fun _ => (d_ixV (pv 3) d_int)))
      si_nil))))
      (si_cons (si_store (G := ⟨K, pn, D, H, E, []⟩) (X := cxOf (L2.CX P w) P w K mg base ["self", "pairs", "at", "pair", "sign", "weight"] "Weights.__init__" (defScope s_winit) f cdv A outer s H E) T.cl_Weights T.n_Weights_pairs (pv 0) (fun _ => (d_var (pv 1))))
      (si_cons (si_store (G := ⟨K, pn, D, H, E, []⟩) (X := cxOf (L2.CX P w) P w K mg base ["self", "pairs", "at", "pair", "sign", "weight"] "Weights.__init__" (defScope s_winit) f cdv A outer s H E) T.cl_Weights T.n_Weights_signs (pv 0) (fun _ => (d_join d_str (DF.de (f_lc (own := [("sign", 4), ("weight", 5)]) (by rfl) sc_winit.nd (i_any (d_var (pv 1))) (blkOk_by (by kernel_rfl)) (fun _ _ _ _ _ => (g_tup (n := 2) rfl (gs_cons (g_name (pg_name (i := 4) sc_winit.nd rfl (Or.inl rfl))) (gs_cons (g_name (pg_name (i := 5) sc_winit.nd rfl (Or.inl rfl))) gs_nil)) (glN (glN gl0)))) (by decide) (fun _ _ _ _ _ => pts_nil) simT_yes (fun _ _ _ _ _ => (d_var (pv 4))))))))
      si_nil))))), ?_⟩
  have g1 := g.pos
  have g2 := g.few
  have ll : (ps.map pairD).length = ps.length := List.length_map _
  show (match (DV.bl (decide ((1 : Int) ≤ (((ps.map pairD).length : Nat) : Int)))) with | DV.bl true => _ | DV.bl false => _ | _ => False)
  rw [decide_eq_true (show (1 : Int) ≤ (((ps.map pairD).length : Nat) : Int) by omega)]
  show (if (!(decide ((((ps.map pairD).length : Nat) : Int) ≤ 4))) = true then _ else _)
  rw [decide_eq_true (show (((ps.map pairD).length : Nat) : Int) ≤ 4 by omega)]
  refine ite_F rfl ?_
  refine ⟨rfl, fun fr0 => ?_⟩
  refine ⟨fun i ρ W => ∃ (v2 v3 : Option SV), ρ = ⟨[some (.val (.raw (.ref x))), some (.val (.tup (ps.map pairD))), v2, v3, none, none], n⟩ ∧ W = ⟨[("weight_by", none)], (ps.take i).map keyP⟩, ⟨none, none, rfl, rfl⟩, ?_, ?_⟩
  · rintro i d ρ2 W2 hd ⟨v2, v3, rfl, rfl⟩ fr
    have hi := (List.getElem?_eq_some_iff.mp hd).1
    rw [enumD_len, ll] at hi
    have hp : (ps.map pairD)[i]? = some (pairD ps[i]) := by rw [List.getElem?_map, List.getElem?_eq_getElem hi]; rfl
    rw [enumD_at hp] at hd
    cases hd
    have hm := List.getElem_mem hi
    have hl := g.let_ _ hm
    have hw := g.wt _ hm
    obtain ⟨⟨c, q⟩, hcq⟩ : ∃ p, p = ps[i] := ⟨_, rfl⟩
    have ec : ps[i].1 = c := by rw [← hcq]
    have eq : ps[i].2 = q := by rw [← hcq]
    rw [ec] at hl
    rw [eq] at hw
    rw [← hcq]
    have nk : Sum.inr (sgn c) ∉ (((ps.take i).map keyP).map (·.1)) := fun z => by
      rw [List.map_map] at z
      obtain ⟨y, hy, e⟩ := List.mem_map.mp z
      have e' : sgn y.1 = sgn c := Sum.inr.inj e
      have e2 : y.1 = c := by have := congrArg (fun x : Str => x.cps.toList) e'; simpa [sgn] using this
      obtain ⟨j, hj⟩ := List.mem_iff_getElem?.mp hy
      have hj2 := (List.getElem?_eq_some_iff.mp hj).1
      rw [List.length_take] at hj2
      rw [List.getElem?_take_of_lt (by omega)] at hj
      have hji : j < ps.length := by omega
      have := (List.getElem_inj (i := j) (j := i) (h₀ := by rw [List.length_map]; exact hji) (h₁ := by rw [List.length_map]; exact hi) g.nd).mp (by
        rw [List.getElem_map, List.getElem_map, ec, ← e2]
        rw [List.getElem?_eq_getElem hji] at hj
        rw [Option.some.inj hj])
      omega
    have hk : hasKey (((ps.take i).map keyP).map (·.1)) (Sum.inr (sgn c)) = false := by
      unfold hasKey
      rw [List.any_eq_false]
      intro y hy z
      exact nk (of_decide_eq_true z ▸ hy)
    intro dx1 a1 ps1 qs1
    refine ⟨true, ⟨"tuple", rfl, by decide +kernel⟩, ?_⟩
    refine ite_F rfl ?_
    refine ⟨c, rfl, ?_⟩
    rw [decide_eq_true hl]
    refine ite_F rfl ?_
    intro dx2 a2 ps2 qs2
    refine ⟨((q : Nat) : Int), 0, 9, rfl, ?_⟩
    rw [decide_eq_true (show (0 : Int) ≤ ((q : Nat) : Int) by omega), decide_eq_true (show ((q : Nat) : Int) ≤ 9 by omega)]
    refine ⟨rfl, rfl, ?_⟩
    show (if hasKey (((ps.take i).map keyP).map (·.1)) (Sum.inr (sgn c)) = true then _ else _)
    rw [hk]
    refine ite_F rfl ?_
    intro fr4
    refine ⟨rfl, rfl, ?_⟩
    have tl : ((ps.take i).map keyP).length < sizeLine := by
      rw [List.length_map, List.length_take]
      exact Nat.lt_of_le_of_lt (Nat.le_trans (Nat.min_le_right _ _) g2) (by decide)
    refine ⟨tl, ?_⟩
    have e : dput ((ps.take i).map keyP) (Sum.inr (sgn c)) (.int ((q : Nat) : Int)) = (ps.take (i + 1)).map keyP := by
      rw [dput_new nk, take_more (List.getElem?_eq_getElem hi), List.map_append, ← hcq]
      rfl
    refine ⟨_, n, (by repeat' first | exact .nil | refine .eq ?_ | refine .no ?_), Nat.le_refl _, _, _, rfl, ?_⟩
    exact congrArg (WS.mk _) e
  · rintro ρ2 W2 ⟨v2, v3, rfl, rfl⟩
    rw [enumD_len, ll, List.take_length]
    intro fr2
    refine ⟨rfl, (show ("pairs" : Str) ∉ [("weight_by" : Str)] by decide), (show 1 < 900 by decide), ?_⟩
    intro fr3
    show LcIn _ _ _ _ _ (ps.map pairD) ⟨[some (.val (.raw (.ref x))), some (.val (.tup (ps.map pairD))), v2, v3, none, none], n⟩
    refine lc_xs ps pairD (fun p => DV.str (sgn p.1)) (by omega) rfl (fun y k hy hk => ?_) ?_
    · exact hk _ (by repeat' first | exact .nil | refine .eq ?_ | refine .no ?_)
    have te : textsOf (ps.map fun p => DV.str (sgn p.1)) = some ((ps.map (·.1)).map sgn) := by
      have := texts_sgn (ps.map (·.1))
      rw [List.map_map] at this
      exact this
    refine ⟨(ps.map (·.1)).map sgn, te, ?_, ?_⟩
    · rw [sum_sgn, List.length_map, List.length_map]
      show ps.length + ps.length * 0 ≤ _
      omega
    rw [join_sgn]
    refine ⟨rfl, (show ("signs" : Str) ∉ [("weight_by" : Str), "pairs"] by decide), (show 2 < 900 by decide), ?_⟩
    refine ⟨rfl, ?_⟩
    have ed : finV ⟨[("weight_by", none), ("pairs", some (.tup (ps.map pairD))), ("signs", some (.str (SX.S (ps.map (·.1)))))], ps.map keyP⟩ = wtsD ps := by
      show [DV.node (.dct ((ps.map keyP).map (·.1))) ((ps.map keyP).map (·.2)), _, _] = _
      rw [List.map_map, List.map_map]
      rfl
    rw [← ed] at hq
    exact hq
theorem mWeights (T : Tx K mg) : MkS P w K mg base (L2.CX P w) 4 "Weights" (a_Weights K) (spNew K "Weights" fsW fnWts) := by
  obtain ⟨fd, F⟩ := T.d_winit
  exact ⟨⟨_, T.mk_Weights, ok_winit F T, T.g_Weights⟩⟩
def fnWOf (K : PySem.W.Frag) : PFn := fun _ ds n Q _ => ∃ (ps : List (Nat × Nat)) (d : DV), ds = [.raw (.ref (a_Weights K)), d] ∧ (d = .tup (ps.map pairD) ∨ d = .lst (ps.map pairD)) ∧ GoodPairs ps ∧ Q (.node (.ins "Weights" fsW) (wtsD ps)) n
theorem ok_wof {f : Addr} {fd : FuncData} (F : FunD K "of" "Weights.of" (defArgs s_wof) (defBody s_wof) (defScope s_wof) [] [] f fd) (T : Tx K mg) : FnOk P w K mg base (L2.CX P w) 6 f fd ["cls", "pairs"] (spP K (fnWOf K)) := by
  refine ok_p F sc_wof (fun pn ds n Q R h => ?_) fun cdv A outer s pn D H E ds n Qd R hr h => ?_
  · obtain ⟨ps, d, rfl, _⟩ := h
    rfl
  obtain ⟨ps, d, rfl, hd, g, hq⟩ := h
  refine ⟨_, (s_one (s_ret (d_makeSt (i := 0) (mWeights T) hr (by decide) (pe_var rfl (Or.inl rfl)) (passes_call (takes_of rfl rfl rfl rfl) (fun _ _ _ _ h => h)) (d_var (pv 1))))), ?_⟩
  rcases hd with rfl | rfl
  · refine ⟨rfl, ?_⟩
    exact ⟨ps, rfl, g, hq⟩
  · refine ⟨rfl, ?_⟩
    exact ⟨ps, rfl, g, hq⟩
theorem cWOf (T : Tx K mg) : CmX P w K mg base (L2.CX P w) 6 (a_Weights K) "of" (spP K (fnWOf K)) := c_wof T fun _ F => ok_wof F T
theorem fl_weight_by (T : Tx K mg) : FldIn K "weight_by" ["Weights"] := fun C hC => by
  rw [List.mem_singleton.mp hC]
  exact ⟨T.cl_Weights, T.n_Weights_weight_by⟩
theorem fl_pairs (T : Tx K mg) : FldIn K "pairs" ["Weights"] := fun C hC => by
  rw [List.mem_singleton.mp hC]
  exact ⟨T.cl_Weights, T.n_Weights_pairs⟩
theorem fl_signs (T : Tx K mg) : FldIn K "signs" ["Weights"] := fun C hC => by
  rw [List.mem_singleton.mp hC]
  exact ⟨T.cl_Weights, T.n_Weights_signs⟩
def wtsO (ps : List (Nat × Nat)) : DV := .node (.ins "Weights" fsW) (wtsD ps)
def fnWGet : PFn := fun _ ds n Q _ => ∃ (ps : List (Nat × Nat)) (p : Nat × Nat), ds = [wtsO ps, .str (sgn p.1)] ∧ GoodPairs ps ∧ p ∈ ps ∧ Q (.int (p.2 : Nat)) n
theorem sgn_eqK {a b : Nat} (e : sgn a = sgn b) : a = b := by have := congrArg (fun x : Str => x.cps.toList) e; simpa [sgn] using this
theorem valD_at {p : Nat × Nat} : ∀ {ps : List (Nat × Nat)}, (ps.map (·.1)).Nodup → p ∈ ps → valD ((ps.map fun p => (Sum.inr (sgn p.1) : Key)).zip (ps.map fun p => DV.int (p.2 : Nat))) (Sum.inr (sgn p.1)) = some (.int (p.2 : Nat))
  | [], _, h => by cases h
  | q :: r, nd, h => by
    rw [List.map_cons] at nd
    have n1 := (List.nodup_cons.mp nd).1
    have n2 := (List.nodup_cons.mp nd).2
    rw [List.map_cons, List.map_cons, List.zip_cons_cons]
    unfold valD
    rcases List.mem_cons.mp h with e | e
    · rw [e, if_pos rfl]
    · rw [if_neg]
      · exact valD_at n2 e
      · intro z
        have z1 : q.1 = p.1 := sgn_eqK (Sum.inr.inj z)
        exact n1 (List.mem_map.mpr ⟨p, e, z1.symm⟩)
theorem ok_wget {f : Addr} {fd : FuncData} (F : FunD K "__getitem__" "Weights.__getitem__" (defArgs s_wget) (defBody s_wget) (defScope s_wget) [] [] f fd) (T : Tx K mg) : FnOk P w K mg base (L2.CX P w) 3 f fd ["self", "sign"] (spP K fnWGet) := by
  refine ok_p F sc_wget (fun pn ds n Q R h => ?_) fun cdv A outer s pn D H E ds n Qd R hr h => ?_
  · obtain ⟨ps, p, rfl, _⟩ := h
    rfl
  obtain ⟨ps, p, rfl, g, hm, hq⟩ := h
  refine ⟨_, (s_cons (s_if (DW.t (w_or (t_not (t_tru (d_callB (c_isi T.xE T.xK) (by rfl) T.f_isinstance (by decide +kernel) (a_cons (d_var (pv 1)) (a_cons (d_fast (d := .raw (.ty "str")) (pe_bltn (v := .ty "str") (by rfl) T.f_str (by decide +kernel) rfl) (fun _ _ => .raw _)) a_nil))))) (w_or1 (t_dnotinK (hu1 hr.units) (d_fld (fl_weight_by T) (d_var (pv 0))) (d_var (pv 1))))))
      (s_one (s_raise (xc_BadSigns T) (takes_of rfl rfl rfl rfl) hr (by decide) (by rfl) (a_cons (d_var (pv 1)) a_nil))) s_nil)
      (s_one (s_ret (d_dgetK (hu1 hr.units) (d_fld (fl_weight_by T) (d_var (pv 0))) (d_var (pv 1)))))), ?_⟩
  have hk : hasKey (ps.map fun p => (Sum.inr (sgn p.1) : Key)) (Sum.inr (sgn p.1)) = true := by
    unfold hasKey
    exact List.any_eq_true.mpr ⟨_, List.mem_map.mpr ⟨p, hm, rfl⟩, decide_eq_true rfl⟩
  refine ⟨true, ⟨"str", rfl, by decide +kernel⟩, ?_⟩
  refine ite_F rfl ?_
  refine ⟨List.mem_singleton.mpr rfl, ?_⟩
  show (if (hasKey (ps.map fun p => (Sum.inr (sgn p.1) : Key)) (Sum.inr (sgn p.1)) ^^ true) = true then _ else _)
  rw [hk]
  refine ite_F rfl ?_
  refine ⟨List.mem_singleton.mpr rfl, ?_⟩
  show (match valD ((ps.map fun p => (Sum.inr (sgn p.1) : Key)).zip (ps.map fun p => DV.int (p.2 : Nat))) (Sum.inr (sgn p.1)) with | some z => _ | none => False)
  rw [valD_at g.nd hm]
  exact hq
theorem cWGet (T : Tx K mg) : MetX P w K mg base (L2.CX P w) 3 (a_Weights K) "__getitem__" (spP K fnWGet) := c_wget T fun _ F => ok_wget F T
def pairP (p : Nat × Nat) : PyData := .tuple [.str (sgn p.1), .int (p.2 : Nat)]
theorem toPy_pair (p : Nat × Nat) : toPy (pairD p) = some (pairP p) := by
  unfold pairD
  rw [toPy, toPyA, toPyA, toPyA, toPy, toPy]
  rfl
theorem toPyA_pairs : ∀ ps : List (Nat × Nat), toPyA (ps.map pairD) = some (ps.map pairP)
  | [] => by rw [List.map_nil, toPyA]; rfl
  | p :: ps => by
    rw [List.map_cons, toPyA, toPy_pair, toPyA_pairs ps]
    rfl
theorem toPy_pairsT (ps : List (Nat × Nat)) : toPy (.tup (ps.map pairD)) = some (.tuple (ps.map pairP)) := by
  rw [toPy, toPyA_pairs]
  rfl
theorem toPy_pairsL (ps : List (Nat × Nat)) : toPy (.lst (ps.map pairD)) = some (.list (ps.map pairP)) := by
  rw [toPy, toPyA_pairs]
  rfl
theorem eqv_str (a b : Str) : PyData.eqv (.str a) (.str b) = decide (a = b) := by
  by_cases h : a = b
  · rw [h]; simp [PyData.eqv]
  · simp [PyData.eqv, h]
theorem eqv_int (a b : Int) : PyData.eqv (.int a) (.int b) = decide (a = b) := by
  by_cases h : a = b
  · rw [h]; simp [PyData.eqv]
  · simp [PyData.eqv, h]
theorem eqv_pair (p q : Nat × Nat) : PyData.eqv (pairP p) (pairP q) = decide (p = q) := by
  obtain ⟨a, b⟩ := p
  obtain ⟨c, d⟩ := q
  unfold pairP
  rw [PyData.eqv, PyData.eqvAll, PyData.eqvAll, PyData.eqvAll, eqv_str, eqv_int, Bool.and_true, ← Bool.decide_and]
  refine decide_eq_decide.mpr ⟨fun h => ?_, fun h => ?_⟩
  · have e1 : a = c := sgn_eqK h.1
    have e2 : ((b : Nat) : Int) = ((d : Nat) : Int) := h.2
    rw [e1, show b = d by omega]
  · cases h
    exact ⟨rfl, rfl⟩
theorem eqvAll_pairs : ∀ ps qs : List (Nat × Nat), PyData.eqvAll (ps.map pairP) (qs.map pairP) = decide (ps = qs)
  | [], [] => by rw [List.map_nil, PyData.eqvAll]; rfl
  | [], q :: qs => by rw [List.map_nil, List.map_cons, PyData.eqvAll] <;> simp
  | p :: ps, [] => by rw [List.map_nil, List.map_cons, PyData.eqvAll] <;> simp
  | p :: ps, q :: qs => by
    rw [List.map_cons, List.map_cons, PyData.eqvAll, eqv_pair, eqvAll_pairs ps qs, ← Bool.decide_and]
    exact decide_eq_decide.mpr ⟨fun h => by rw [h.1, h.2], fun h => by cases h; exact ⟨rfl, rfl⟩⟩
theorem eqv_pairsT (ps qs : List (Nat × Nat)) : PyData.eqv (.tuple (ps.map pairP)) (.tuple (qs.map pairP)) = decide (ps = qs) := by rw [PyData.eqv, eqvAll_pairs]
theorem strOk_sgn {c : Nat} (h : c ∈ letters) : PyData.strOk (sgn c) = true := by
  have lt : ∀ c ∈ letters, c < 0x110000 := by decide +kernel
  show ((#[c] : Array Nat).all fun c => decide (c < 0x110000)) = true
  simp [lt c h]
theorem canLay_pairs : ∀ {ps : List (Nat × Nat)}, (∀ p ∈ ps, p.1 ∈ letters) → PyData.canLayAll0 (ps.map pairP) = true
  | [], _ => rfl
  | p :: ps, h => by
    rw [List.map_cons, PyData.canLayAll0, canLay_pairs (ps := ps) fun q hq => h q (List.mem_cons_of_mem _ hq), Bool.and_true]
    simp [pairP, PyData.canLay0, PyData.canLayAll0, strOk_sgn (h p List.mem_cons_self)]
theorem depth_pairs : ∀ ps : List (Nat × Nat), PyData.depthAll (ps.map pairP) ≤ 1
  | [] => by decide
  | p :: ps => by
    show max (max 0 (max 0 0) + 1) (PyData.depthAll (ps.map pairP)) ≤ 1
    have := depth_pairs ps
    omega
theorem shaped_pairsT {ps : List (Nat × Nat)} (h : ∀ p ∈ ps, p.1 ∈ letters) : SeqAt.shaped (.tuple (ps.map pairP)) = true := by
  unfold SeqAt.shaped
  rw [Bool.and_eq_true]
  refine ⟨canLay_pairs h, decide_eq_true ?_⟩
  show PyData.depthAll (ps.map pairP) + 1 ≤ 64
  have := depth_pairs ps
  omega
theorem shaped_pairsL {ps : List (Nat × Nat)} (h : ∀ p ∈ ps, p.1 ∈ letters) : SeqAt.shaped (.list (ps.map pairP)) = true := by
  unfold SeqAt.shaped
  rw [Bool.and_eq_true]
  refine ⟨canLay_pairs h, decide_eq_true ?_⟩
  show PyData.depthAll (ps.map pairP) + 1 ≤ 64
  have := depth_pairs ps
  omega
def fnWEq : PFn := fun _ ds n Q _ => ∃ (ps : List (Nat × Nat)) (d : DV), ds = [wtsO ps, d] ∧ (∀ p ∈ ps, p.1 ∈ letters) ∧ ((∃ qs, d = wtsO qs ∧ (∀ p ∈ qs, p.1 ∈ letters) ∧ Q (.bl (decide (ps = qs))) n) ∨ ((tyName d).isSome = true ∧ Q (.bl false) n))
theorem ok_weq {f : Addr} {fd : FuncData} (F : FunD K "__eq__" "Weights.__eq__" (defArgs s_weq) (defBody s_weq) (defScope s_weq) [] [] f fd) (T : Tx K mg) : FnOk P w K mg base CX0 1 f fd ["self", "other"] (spP K fnWEq) := by
  refine ok_p F sc_weq (fun pn ds n Q R h => ?_) fun cdv A outer s pn D H E ds n Qd R hr h => ?_
  · obtain ⟨ps, d, rfl, _⟩ := h
    rfl
  obtain ⟨ps, d, rfl, pL, h⟩ := h
  refine ⟨_, DSs.nox (s_one (s_ret (d_and (d_callB (c_isiC (C := "Weights") (own_Weights T)) (by rfl) T.f_isinstance (by decide +kernel) (a_cons (d_var (pv 1)) (a_cons (d_fast (d := .raw (.ref _)) (pe_glob (v := .ref _) (by rfl) T.g_Weights rfl) (fun _ _ => .raw _)) a_nil))) (d_one (d_cmp (b_eq hr.units) (d_fld (fl_pairs T) (d_var (pv 0))) (d_fld (fl_pairs T) (d_var (pv 1))) (nomark _)))))), ?_⟩
  rcases h with ⟨qs, rfl, qL, hq⟩ | ⟨ht, hq⟩
  · refine ⟨rfl, .inl ⟨rfl, ?_⟩⟩
    refine ⟨me_W, me_W, ?_⟩
    refine ⟨_, _, toPy_pairsT ps, toPy_pairsT qs, shaped_pairsT pL, shaped_pairsT qL, ?_⟩
    rw [eqv_pairsT, xor_f]
    exact hq
  · refine ⟨rfl, .inr ⟨ht, ?_⟩⟩
    exact hq
theorem cWEq (T : Tx K mg) : MetX P w K mg base CX0 1 (a_Weights K) "__eq__" (spP K fnWEq) := c_weq T fun _ F => ok_weq F T
end
end Rg
namespace Rg
open PySem PySem.Spec PyProof.Rows L2
section
variable {P : Program} {w : World} {K : PySem.W.Frag} {mg : Str → Option Value} {base : Heap}
theorem bools_mapR {α : Type} (b : α → Bool) : ∀ xs : List α, bools (xs.map fun x => DV.bl (b x)) = some (xs.map b)
  | [] => rfl
  | x :: xs => by
    show (bools (xs.map fun x => DV.bl (b x))).map (b x :: ·) = _
    rw [bools_mapR b xs]
    rfl
def fsR : List Str := ["old", "new", "left", "right"]
def ruleV (ds : List DV) : DV := .node (.ins "Rule" fsR) ds
def ruleD (o w : List Nat) (l r : Bool) : DV := ruleV [.str (SX.S o), .str (SX.S w), .bl l, .bl r]
def boolA : DV → Bool
  | .bl _ => true
  | _ => false
theorem isA_tyN {T : ExT} {d : DV} {t n : String} {b : Bool} (e1 : tyName d = some t) (e2 : kitB t n = some b) : isA K T d (.raw (.ty n)) b := by
  cases d with
  | node q xs => cases q with
    | ins C fs => cases e1
    | _ => exact ⟨t, e1, e2⟩
  | _ => exact ⟨t, e1, e2⟩
theorem bool_cases {d : DV} (h : (tyName d).isSome = true) : (∃ t, tyName d = some t ∧ kitB t "bool" = some (boolA d)) := by
  cases d with
  | int i => exact ⟨_, rfl, show kitB "int" "bool" = some false by decide +kernel⟩
  | bl b => exact ⟨_, rfl, show kitB "bool" "bool" = some true by decide +kernel⟩
  | non => exact ⟨_, rfl, by decide +kernel⟩
  | str z => exact ⟨_, rfl, show kitB "str" "bool" = some false by decide +kernel⟩
  | raw v => cases h
  | node t xs => cases t with
    | lst => exact ⟨_, rfl, show kitB "list" "bool" = some false by decide +kernel⟩
    | tup => exact ⟨_, rfl, show kitB "tuple" "bool" = some false by decide +kernel⟩
    | dct ks => exact ⟨_, rfl, show kitB "dict" "bool" = some false by decide +kernel⟩
    | ins C fs => cases h
    | exc C fs => cases h
end
end Rg
namespace Rg
open PySem PySem.Spec PyProof.Rows L2
section
variable {P : Program} {w : World} {K : PySem.W.Frag} {mg : Str → Option Value} {base : Heap}
theorem fl_old (T : Tx K mg) : FldIn K "old" ["Rule"] := fun C hC => by
  rw [List.mem_singleton.mp hC]
  exact ⟨T.cl_Rule, T.n_Rule_old⟩
theorem fl_new (T : Tx K mg) : FldIn K "new" ["Rule"] := fun C hC => by
  rw [List.mem_singleton.mp hC]
  exact ⟨T.cl_Rule, T.n_Rule_new⟩
theorem fl_left (T : Tx K mg) : FldIn K "left" ["Rule"] := fun C hC => by
  rw [List.mem_singleton.mp hC]
  exact ⟨T.cl_Rule, T.n_Rule_left⟩
theorem fl_right (T : Tx K mg) : FldIn K "right" ["Rule"] := fun C hC => by
  rw [List.mem_singleton.mp hC]
  exact ⟨T.cl_Rule, T.n_Rule_right⟩
theorem S_cat (a b : List Nat) : SX.S a ++ SX.S b = SX.S (a ++ b) := SX.S_cat a b
theorem strOk_lt {t : List Nat} (h : ∀ c ∈ t, c < 0x110000) : PyData.strOk (SX.S t) = true := by
  show (t.toArray.all fun c => decide (c < 0x110000)) = true
  rw [List.all_toArray, List.all_eq_true]
  exact fun c hc => decide_eq_true (h c hc)
theorem strOk_S {t : List Nat} (h : ∀ c ∈ t, c ∈ letters) : PyData.strOk (SX.S t) = true := by
  have lt : ∀ c ∈ letters, c < 0x110000 := by decide +kernel
  exact strOk_lt fun c hc => lt c (h c hc)
def quadP (o w : List Nat) (l r : Bool) : List PyData := [.str (SX.S o), .str (SX.S w), .bool l, .bool r]
def quadD (o w : List Nat) (l r : Bool) : List DV := [.str (SX.S o), .str (SX.S w), .bl l, .bl r]
theorem toPy_quad (o w : List Nat) (l r : Bool) : toPyA (quadD o w l r) = some (quadP o w l r) := by
  unfold quadD
  rw [toPyA, toPyA, toPyA, toPyA, toPyA, toPy, toPy, toPy, toPy]
  rfl
theorem toPy_quadT (o w : List Nat) (l r : Bool) : toPy (.tup (quadD o w l r)) = some (.tuple (quadP o w l r)) := by
  rw [toPy, toPy_quad]
  rfl
theorem eqv_bool (a b : Bool) : PyData.eqv (.bool a) (.bool b) = decide (a = b) := by cases a <;> cases b <;> rfl
theorem decS (a b : List Nat) : decide (SX.S a = SX.S b) = decide (a = b) := decide_eq_decide.mpr ⟨fun e => SX.S_inj e, fun e => by rw [e]⟩
/-- whether the parts are equal -/
def quadB (o w : List Nat) (l r : Bool) (o2 w2 : List Nat) (l2 r2 : Bool) : Bool := decide (o = o2) && (decide (w = w2) && (decide (l = l2) && decide (r = r2)))
theorem eqv_quad (o w : List Nat) (l r : Bool) (o2 w2 : List Nat) (l2 r2 : Bool) : PyData.eqvAll (quadP o w l r) (quadP o2 w2 l2 r2) = quadB o w l r o2 w2 l2 r2 := by
  unfold quadP quadB
  rw [PyData.eqvAll, PyData.eqvAll, PyData.eqvAll, PyData.eqvAll, PyData.eqvAll, eqv_str, eqv_str, eqv_bool, eqv_bool, decS, decS, Bool.and_true]
theorem eqv_quadT (o w : List Nat) (l r : Bool) (o2 w2 : List Nat) (l2 r2 : Bool) : PyData.eqv (.tuple (quadP o w l r)) (.tuple (quadP o2 w2 l2 r2)) = quadB o w l r o2 w2 l2 r2 := by
  rw [PyData.eqv, eqv_quad]
theorem shaped_quadT {o w : List Nat} {l r : Bool} (h1 : ∀ c ∈ o, c ∈ letters) (h2 : ∀ c ∈ w, c ∈ letters) : SeqAt.shaped (.tuple (quadP o w l r)) = true := by
  simp [quadP, SeqAt.shaped, PyData.canLay0, PyData.canLayAll0, PyData.depth, PyData.depthAll, strOk_S h1, strOk_S h2]
def fnREq : PFn := fun _ ds n Q _ => ∃ (o w : List Nat) (l r : Bool) (d : DV), ds = [ruleD o w l r, d] ∧ (∀ c ∈ o, c ∈ letters) ∧ (∀ c ∈ w, c ∈ letters) ∧ ((∃ (o2 w2 : List Nat) (l2 r2 : Bool), d = ruleD o2 w2 l2 r2 ∧ (∀ c ∈ o2, c ∈ letters) ∧ (∀ c ∈ w2, c ∈ letters) ∧ Q (.bl (quadB o w l r o2 w2 l2 r2)) n) ∨ ((tyName d).isSome = true ∧ Q (.bl false) n))
theorem ok_req {f : Addr} {fd : FuncData} (F : FunD K "__eq__" "Rule.__eq__" (defArgs s_req) (defBody s_req) (defScope s_req) [] [] f fd) (T : Tx K mg) : FnOk P w K mg base CX0 1 f fd ["self", "other"] (spP K fnREq) := by
  refine ok_p F sc_req (fun pn ds n Q R h => ?_) fun cdv A outer s pn D H E ds n Qd R hr h => ?_
  · obtain ⟨o, w, l, r, d, rfl, _⟩ := h
    rfl
  obtain ⟨o, w, l, r, d, rfl, oL, wL, h⟩ := h
  refine ⟨_, DSs.nox (s_cons (s_if (t_not (t_tru (d_callB (c_isiC (C := "Rule") (own_Rule T)) (by rfl) T.f_isinstance (by decide +kernel) (a_cons (d_var (pv 1)) (a_cons (d_fast (d := .raw (.ref _)) (pe_glob (v := .ref _) (by rfl) T.g_Rule rfl) (fun _ _ => .raw _)) a_nil)))))
      (s_one (s_ret d_bl)) s_nil)
      (s_cons (s_set (i := 2) sc_req.nd rfl (Or.inl rfl) (d_tup (a_cons (d_fld (fl_old T) (d_var (pv 0))) (a_cons (d_fld (fl_new T) (d_var (pv 0))) (a_cons (d_fld (fl_left T) (d_var (pv 0))) (a_cons (d_fld (fl_right T) (d_var (pv 0))) a_nil))))))
      (s_one (s_ret (d_cmp (b_eq hr.units) (d_var (pv 2)) (d_tup (a_cons (d_fld (fl_old T) (d_var (pv 1))) (a_cons (d_fld (fl_new T) (d_var (pv 1))) (a_cons (d_fld (fl_left T) (d_var (pv 1))) (a_cons (d_fld (fl_right T) (d_var (pv 1))) a_nil))))) (nomark _)))))), ?_⟩
  rcases h with ⟨o2, w2, l2, r2, rfl, oL2, wL2, hq⟩ | ⟨ht, hq⟩
  · refine ⟨rfl, .inl ⟨rfl, ?_⟩⟩
    refine ite_F rfl ?_
    refine ⟨List.mem_singleton.mpr rfl, List.mem_singleton.mpr rfl, List.mem_singleton.mpr rfl, List.mem_singleton.mpr rfl, (show 4 ≤ sizeLine by decide), ?_⟩
    refine ⟨List.mem_singleton.mpr rfl, List.mem_singleton.mpr rfl, List.mem_singleton.mpr rfl, List.mem_singleton.mpr rfl, (show 4 ≤ sizeLine by decide), ?_⟩
    refine ⟨_, _, toPy_quadT o w l r, toPy_quadT o2 w2 l2 r2, shaped_quadT oL wL, shaped_quadT oL2 wL2, ?_⟩
    rw [eqv_quadT, xor_f]
    exact hq
  · refine ⟨rfl, .inr ⟨ht, ?_⟩⟩
    exact ite_T rfl hq
theorem cREq (T : Tx K mg) : MetX P w K mg base CX0 1 (a_Rule K) "__eq__" (spP K fnREq) := c_req T fun _ F => ok_req F T
end
end Rg
namespace Rg
open PySem PySem.Spec PyProof.Rows L2
section
variable {P : Program} {w : World} {K : PySem.W.Frag} {mg : Str → Option Value} {base : Heap}
abbrev Rul : Type := List Nat × List Nat × Bool × Bool
def rulD (q : Rul) : DV := ruleD q.1 q.2.1 q.2.2.1 q.2.2.2
structure RulOk (q : Rul) : Prop where
  l1 : ∀ c ∈ q.1, c ∈ letters
  l2 : ∀ c ∈ q.2.1, c ∈ letters
  n1 : q.1.length ≤ 4
  n2 : q.2.1.length ≤ 4
def qB (p q : Rul) : Bool := quadB p.1 p.2.1 p.2.2.1 p.2.2.2 q.1 q.2.1 q.2.2.1 q.2.2.2
theorem qB_eq (p q : Rul) : qB p q = decide (p = q) := by
  obtain ⟨a, b, c, d⟩ := p
  obtain ⟨e, f, g, h⟩ := q
  unfold qB quadB
  simp only [← Bool.decide_and]
  refine decide_eq_decide.mpr ⟨fun z => ?_, fun z => ?_⟩
  · obtain ⟨z1, z2, z3, z4⟩ := z
    rw [z1, z2, z3, z4]
  · cases z
    exact ⟨rfl, rfl, rfl, rfl⟩
theorem bigN {n : Nat} (h : n ≤ 1000000) : n ≤ sizeLine := Nat.le_trans h (by decide)
theorem SS_len (cs : List Nat) : (SX.S cs).length = cs.length := by show cs.toArray.size = _; simp
def fnIsRow : PFn := fun _ ds n Q _ => ∃ z cs : List Nat, ds = [.str (SX.S z), .str (SX.S cs)] ∧ cs.length ≤ 1000 ∧ Q (.bl (cs.all fun c => decide (c ∈ z))) n
theorem ok_isRow {f : Addr} {fd : FuncData} (F : FunD K "is_row" "is_row" (defArgs s_isRow) (defBody s_isRow) (defScope s_isRow) [] [] f fd) (T : Tx K mg) : FnOk P w K mg base CX0 1 f fd ["signs", "thing"] (spP K fnIsRow) := by
  refine ok_p F sc_isRow (fun pn ds n Q R h => ?_) fun cdv A outer s pn D H E ds n Qd R hr h => ?_
  · obtain ⟨z, cs, rfl, _⟩ := h
    rfl
  obtain ⟨z, cs, rfl, cl, hq⟩ := h
  refine ⟨_, DSs.nox (s_one (s_ret (d_and (d_callB (c_isi T.xE T.xK) (by rfl) T.f_isinstance (by decide +kernel) (a_cons (d_var (pv 1)) (a_cons (d_fast (d := .raw (.ty "str")) (pe_bltn (v := .ty "str") (by rfl) T.f_str (by decide +kernel) rfl) (fun _ _ => .raw _)) a_nil))) (d_one (d_callB (c_all (by rfl)) (by rfl) T.f_all (by decide +kernel) (a_cons (DF.de (f_lc (own := [("sign", 2)]) (by rfl) sc_isRow.nd (i_any (d_var (pv 1))) (blkOk_by (by kernel_rfl)) (fun _ _ _ _ _ => (g_name (pg_name (i := 2) sc_isRow.nd rfl (Or.inl rfl)))) (by decide) (fun _ _ _ _ _ => pts_nil) simT_yes (fun _ _ _ _ _ => (d_cmp (b_in (hu65 hr)) (d_var (pv 2)) (d_var (pv 0)) (by rfl))))) a_nil)))))), ?_⟩
  refine ⟨true, ⟨"str", rfl, by decide +kernel⟩, ?_⟩
  refine lc_xs (vs := [2]) (sl := [some (.val (.str (SX.S z))), some (.val (.str (SX.S cs))), none]) cs (fun c => DV.str (sgn c)) (fun c => DV.bl (decide (c ∈ z))) (by omega) rfl (fun c kk hc hk => ?_) ?_
  · refine ⟨c, rfl, ?_⟩
    rw [xor_f]
    exact hk _ (by repeat' first | exact .nil | refine .eq ?_ | refine .no ?_)
  show (match bools (cs.map fun c => DV.bl (decide (c ∈ z))) with | some bs => _ | none => False)
  rw [bools_mapR]
  show Qd (.bl ((cs.map fun c => decide (c ∈ z)).all id)) n
  rw [List.all_map]
  exact hq
theorem cIsRow (T : Tx K mg) : CalX P w K mg base CX0 1 "is_row" (spP K fnIsRow) := c_isRow T fun _ F => ok_isRow F T
def wt1 (ps : List (Nat × Nat)) (c : Nat) : Nat := ((ps.find? fun p => decide (p.1 = c)).map (·.2)).getD 0
def wSum (ps : List (Nat × Nat)) (cs : List Nat) : Nat := (cs.map (wt1 ps)).sum
theorem wt1_of {p : Nat × Nat} : ∀ {ps : List (Nat × Nat)}, (ps.map (·.1)).Nodup → p ∈ ps → wt1 ps p.1 = p.2
  | [], _, h => by cases h
  | q :: r, nd, h => by
    rw [List.map_cons] at nd
    have n1 := (List.nodup_cons.mp nd).1
    have n2 := (List.nodup_cons.mp nd).2
    unfold wt1
    rcases List.mem_cons.mp h with e | e
    · subst e
      rw [List.find?_cons_of_pos (by exact decide_eq_true rfl)]
      rfl
    · have ne : ¬ q.1 = p.1 := fun z => n1 (List.mem_map.mpr ⟨p, e, z.symm⟩)
      rw [List.find?_cons_of_neg (by rw [decide_eq_false ne]; exact Bool.false_ne_true)]
      exact wt1_of n2 e
def fnWeightOf : PFn := fun _ ds n Q _ => ∃ (ps : List (Nat × Nat)) (cs : List Nat), ds = [wtsO ps, .str (SX.S cs)] ∧ GoodPairs ps ∧ (∀ c ∈ cs, c ∈ ps.map (·.1)) ∧ cs.length ≤ 1000 ∧ Q (.int ((wSum ps cs : Nat) : Int)) n
theorem sum_nats : ∀ ns : List Nat, (ns.map fun n : Nat => (n : Int)).sum = ((ns.sum : Nat) : Int)
  | [] => rfl
  | n :: r => by
    rw [List.map_cons, List.sum_cons, List.sum_cons, sum_nats r]
    omega
theorem ints_nats {α : Type} (f : α → Nat) : ∀ xs : List α, intsO (xs.map fun x => DV.int ((f x : Nat) : Int)) = some ((xs.map f).map fun n : Nat => (n : Int))
  | [] => rfl
  | x :: r => by
    rw [List.map_cons, intsO, ints_nats f r]
    rfl
theorem ok_weightOf {f : Addr} {fd : FuncData} (F : FunD K "weight_of" "weight_of" (defArgs s_weightOf) (defBody s_weightOf) (defScope s_weightOf) [] [] f fd) (T : Tx K mg) : FnOk P w K mg base CX0 5 f fd ["weights", "row"] (spP K fnWeightOf) := by
  refine ok_p F sc_weightOf (fun pn ds n Q R h => ?_) fun cdv A outer s pn D H E ds n Qd R hr h => ?_
  · obtain ⟨ps, cs, rfl, _⟩ := h
    rfl
  obtain ⟨ps, cs, rfl, g, hin, cl, hq⟩ := h
  refine ⟨_, DSs.nox (s_one (s_ret (d_callB (c_sum (by rfl)) (by rfl) T.f_sum (by decide +kernel) (a_cons (DF.de (f_lc (own := [("sign", 2)]) (by rfl) sc_weightOf.nd (i_any (d_var (pv 1))) (blkOk_by (by kernel_rfl)) (fun _ _ _ _ _ => (g_name (pg_name (i := 2) sc_weightOf.nd rfl (Or.inl rfl)))) (by decide) (fun _ _ _ _ _ => pts_nil) simT_yes (fun _ _ _ _ _ => (d_getO (cWGet T).calm (getIn_W T) hr (by decide) pass0 (d_var (pv 0)) (d_var (pv 2)))))) a_nil)))), ?_⟩
  refine lc_xs (vs := [2]) (sl := [some (.val (wtsO ps)), some (.val (.str (SX.S cs))), none]) cs (fun c => DV.str (sgn c)) (fun c => DV.int ((wt1 ps c : Nat) : Int)) (by omega) rfl (fun c kk hc hk => ?_) ?_
  · obtain ⟨p, hp, rfl⟩ := List.mem_map.mp (hin c hc)
    refine ⟨rfl, ps, p, rfl, g, hp, ?_⟩
    have e := hk [some (.val (wtsO ps)), some (.val (.str (SX.S cs))), some (.val (.str (sgn p.1)))] (by repeat' first | exact .nil | refine .eq ?_ | refine .no ?_)
    rw [wt1_of g.nd hp] at e
    exact e
  show (match intsO (cs.map fun c => DV.int ((wt1 ps c : Nat) : Int)) with | some is => _ | none => False)
  rw [ints_nats]
  show Qd (.int ((cs.map (wt1 ps)).map fun n : Nat => (n : Int)).sum) n
  rw [sum_nats]
  exact hq
theorem cWeightOf (T : Tx K mg) : CalX P w K mg base CX0 5 "weight_of" (spP K fnWeightOf) := c_weightOf T fun _ F => ok_weightOf F T
def exHeavy (i : Nat) : Exn := ("Heavier", ["at"], [.int (i : Nat)])
def exBook (d : DV) : Exn := ("BadBook", ["at"], [d])
def ltB (ps : List (Nat × Nat)) (q : Rul) : Bool := decide (wSum ps q.2.1 < wSum ps q.1)
def inB (z : List Nat) (q : Rul) : Bool := (q.1 ++ q.2.1).all fun c => decide (c ∈ z)
theorem inB_of {z : List Nat} {q : Rul} (h : inB z q = true) : (∀ c ∈ q.1, c ∈ z) ∧ ∀ c ∈ q.2.1, c ∈ z := by
  unfold inB at h
  rw [List.all_eq_true] at h
  exact ⟨fun c hc => of_decide_eq_true (h c (List.mem_append_left _ hc)), fun c hc => of_decide_eq_true (h c (List.mem_append_right _ hc))⟩
/-- the first rule that lessens nothing -/
def HeavyAt (ps : List (Nat × Nat)) (rs : List Rul) (i : Nat) : Prop := (∃ q, rs[i]? = some q ∧ ltB ps q = false) ∧ ∀ j q, j < i → rs[j]? = some q → ltB ps q = true
theorem HeavyAt.uniq {ps : List (Nat × Nat)} {rs : List Rul} {i j : Nat} (h : HeavyAt ps rs i) (h' : HeavyAt ps rs j) : i = j := by
  obtain ⟨⟨q, e1, e2⟩, h2⟩ := h
  obtain ⟨⟨p, e3, e4⟩, h4⟩ := h'
  rcases Nat.lt_trichotomy i j with z | z | z
  · rw [h4 i q z e1] at e2; cases e2
  · exact z
  · rw [h2 j p z e3] at e4; cases e4
theorem fl_weights (T : Tx K mg) : FldIn K "weights" ["Book"] := fun C hC => by
  rw [List.mem_singleton.mp hC]
  exact ⟨T.cl_Book, T.n_Book_weights⟩
def fnLighter : PFn := fun _ ds n Q R => ∃ (ps : List (Nat × Nat)) (rs : List Rul), ds = [wtsO ps, .tup (rs.map rulD)] ∧ GoodPairs ps ∧ (∀ q ∈ rs, inB (ps.map (·.1)) q = true ∧ RulOk q) ∧ rs.length ≤ 1000 ∧ (∀ i, HeavyAt ps rs i → R (exHeavy i) n) ∧ ((∀ q ∈ rs, ltB ps q = true) → Q .non n)
theorem ok_lighter {f : Addr} {fd : FuncData} (F : FunD K "need_lighter" "need_lighter" (defArgs s_lighter) (defBody s_lighter) (defScope s_lighter) [] [] f fd) (T : Tx K mg) : FnOk P w K mg base (L2.CX P w) 7 f fd ["weights", "rules"] (spP K fnLighter) := by
  refine ok_p F sc_lighter (fun pn ds n Q R h => ?_) fun cdv A outer s pn D H E ds n Qd R hr h => ?_
  · obtain ⟨ps, rs, rfl, _⟩ := h
    rfl
  obtain ⟨ps, rs, rfl, g, hin, rl, hR, hq⟩ := h
  refine ⟨_, (s_one (s_for (passes_of rfl) rfl (i_enum (by rfl) T.f_enumerate (d_var (pv 1))) (g_tup (n := 2) rfl (gs_cons (g_name (pg_name (i := 2) sc_lighter.nd rfl (Or.inl rfl))) (gs_cons (g_name (pg_name (i := 3) sc_lighter.nd rfl (Or.inl rfl))) gs_nil)) (glN (glN gl0)))
      (s_cons (s_par (i := 4) (j := 5) (by rfl) sc_lighter.nd rfl rfl (by decide) rfl rfl (a_cons (d_call (cWeightOf T) hr (by decide) (by rfl) pass0 (a_cons (d_var (pv 0)) (a_cons (d_fld (fl_old T) (d_var (pv 3))) a_nil))) (a_cons (d_call (cWeightOf T) hr (by decide) (by rfl) pass0 (a_cons (d_var (pv 0)) (a_cons (d_fld (fl_new T) (d_var (pv 3))) a_nil))) a_nil)) (by rfl))
      (s_one (s_if (t_cmp b_le (d_var (pv 4)) (d_var (pv 5)) (nomark _))
      (s_one (s_raiseF (xc_Heavier T) (xc_Unlessened T) (takes_of rfl rfl rfl rfl) hr (by decide) (by decide) (by rfl) (by rfl) (a_cons (d_var (pv 2)) a_nil) (a_cons (d_var (pv 4)) (a_cons (d_var (pv 5)) a_nil)))) s_nil))))), ?_⟩
  have ll : (rs.map rulD).length = rs.length := List.length_map _
  refine ⟨fun i ρ => (∃ v2 v3 v4 v5 : Option SV, ρ = ⟨[some (.val (wtsO ps)), some (.val (.tup (rs.map rulD))), v2, v3, v4, v5], n⟩) ∧ ∀ j q, j < i → rs[j]? = some q → ltB ps q = true, ⟨⟨none, none, none, none, rfl⟩, fun j q hj => absurd hj (Nat.not_lt_zero j)⟩, ?_, ?_⟩
  · rintro i d ρ2 hd ⟨⟨v2, v3, v4, v5, rfl⟩, pre⟩
    have hi := (List.getElem?_eq_some_iff.mp hd).1
    rw [enumD_len, ll] at hi
    obtain ⟨q, hq2⟩ : ∃ q, rs[i]? = some q := ⟨_, List.getElem?_eq_getElem hi⟩
    have hp : (rs.map rulD)[i]? = some (rulD q) := by rw [List.getElem?_map, hq2]; rfl
    rw [enumD_at hp] at hd
    cases hd
    obtain ⟨hb, ok⟩ := hin q (List.mem_of_getElem? hq2)
    obtain ⟨b1, b2⟩ := inB_of hb
    have n1 := ok.n1
    have n2 := ok.n2
    refine ⟨me_R, ps, q.1, rfl, g, b1, by omega, ?_⟩
    refine ⟨me_R, ps, q.2.1, rfl, g, b2, by omega, ?_⟩
    cases hl : ltB ps q with
    | true =>
      have hl2 := of_decide_eq_true hl
      refine ite_F (decide_eq_false (by omega)) ?_
      refine ⟨_, n, (by repeat' first | exact .nil | refine .eq ?_ | refine .no ?_), Nat.le_refl _, ⟨_, _, _, _, rfl⟩, fun j p hj hp2 => ?_⟩
      rcases Nat.lt_or_eq_of_le (Nat.le_of_lt_succ hj) with z | z
      · exact pre j p z hp2
      · rw [z, hq2] at hp2
        cases hp2
        exact hl
    | false =>
      have hl2 := of_decide_eq_false hl
      refine ite_T (decide_eq_true (by omega)) ?_
      exact ⟨rfl, rfl, hR i ⟨⟨q, hq2, hl⟩, pre⟩⟩
  · rintro ρ2 ⟨⟨v2, v3, v4, v5, rfl⟩, pre⟩
    rw [enumD_len, ll] at pre
    exact hq fun q hq2 => by
      obtain ⟨j, hj⟩ := List.mem_iff_getElem?.mp hq2
      exact pre j q (List.getElem?_eq_some_iff.mp hj).1 hj
theorem xLighter (T : Tx K mg) : CalX P w K mg base (L2.CX P w) 7 "need_lighter" (spP K fnLighter) := c_lighter T fun _ F => ok_lighter F T
end
end Rg
namespace Rg
open PySem PySem.Spec PyProof.Rows L2
section
variable {P : Program} {w : World} {K : PySem.W.Frag} {mg : Str → Option Value} {base : Heap}
abbrev It : Type := Rul ⊕ DV
def madD : It → DV
  | .inl q => rulD q
  | .inr d => d
def ItOk : It → Prop
  | .inl q => RulOk q
  | .inr d => (tyName d).isSome = true
/-- the first i are rules over the signs, no two alike -/
structure PreI (z : List Nat) (its : List It) (i : Nat) (qs : List Rul) : Prop where
  eq : its.take i = qs.map Sum.inl
  len : qs.length = i
  ok : ∀ q ∈ qs, inB z q = true
  nd : qs.Nodup
def goodI (z : List Nat) (qs : List Rul) : It → Bool
  | .inl q => inB z q && !decide (q ∈ qs)
  | .inr _ => false
def BadI (z : List Nat) (its : List It) (i : Nat) : Prop := ∃ qs, PreI z its i qs ∧ ∃ it, its[i]? = some it ∧ goodI z qs it = false
def AllI (z : List Nat) (its : List It) (qs : List Rul) : Prop := PreI z its its.length qs
theorem PreI.zero (z : List Nat) (its : List It) : PreI z its 0 [] := ⟨rfl, rfl, (fun q h => nomatch h), List.nodup_nil⟩
theorem PreI.next {z : List Nat} {its : List It} {i : Nat} {qs : List Rul} {q : Rul} (h : PreI z its i qs) (hd : its[i]? = some (.inl q)) (hq : inB z q = true) (hn : q ∉ qs) : PreI z its (i + 1) (qs ++ [q]) := by
  refine ⟨by rw [List.take_add_one, hd, h.eq, List.map_append]; rfl, by rw [List.length_append, h.len]; rfl, fun p hp => ?_, ?_⟩
  · rcases List.mem_append.mp hp with hp | hp
    · exact h.ok p hp
    · rw [List.mem_singleton.mp hp]; exact hq
  · refine List.nodup_append.mpr ⟨h.nd, List.nodup_cons.mpr ⟨(fun z => nomatch z), List.nodup_nil⟩, fun a ha b hb e => ?_⟩
    rw [List.mem_singleton.mp hb] at e
    exact hn (e ▸ ha)
theorem inl_inj : ∀ {ps qs : List Rul}, ps.map (Sum.inl : Rul → It) = qs.map Sum.inl → ps = qs
  | [], [], _ => rfl
  | [], _ :: _, h => by cases h
  | _ :: _, [], h => by cases h
  | p :: ps, q :: qs, h => by
    rw [List.map_cons, List.map_cons] at h
    injection h with h1 h2
    rw [Sum.inl.inj h1, inl_inj h2]
theorem PreI.uniq {z : List Nat} {its : List It} {i : Nat} {ps qs : List Rul} (h : PreI z its i ps) (h' : PreI z its i qs) : ps = qs := inl_inj (h.eq.symm.trans h'.eq)
theorem PreI.down {z : List Nat} {its : List It} {i j : Nat} {qs : List Rul} (h : PreI z its i qs) (hj : j ≤ i) : PreI z its j (qs.take j) := by
  refine ⟨?_, by rw [List.length_take, h.len, Nat.min_eq_left hj], fun q hq => h.ok q (List.mem_of_mem_take hq), h.nd.sublist (List.take_sublist _ _)⟩
  have := congrArg (List.take j) h.eq
  rw [List.take_take, Nat.min_eq_left hj, ← List.map_take] at this
  exact this
theorem PreI.at_ {z : List Nat} {its : List It} {i j : Nat} {qs : List Rul} (h : PreI z its i qs) (hj : j < i) : ∃ q, qs[j]? = some q ∧ its[j]? = some (.inl q) ∧ inB z q = true ∧ q ∉ qs.take j := by
  have hl : j < qs.length := by rw [h.len]; exact hj
  refine ⟨qs[j], List.getElem?_eq_getElem hl, ?_, h.ok _ (List.getElem_mem hl), fun m => ?_⟩
  · have := congrArg (fun l : List It => l[j]?) h.eq
    simp only [List.getElem?_take_of_lt hj, List.getElem?_map, List.getElem?_eq_getElem hl] at this
    exact this
  · obtain ⟨k, hk⟩ := List.mem_iff_getElem?.mp m
    have kl := (List.getElem?_eq_some_iff.mp hk).1
    rw [List.length_take] at kl
    rw [List.getElem?_take_of_lt (by omega), List.getElem?_eq_getElem (show k < qs.length by omega)] at hk
    have := (List.getElem_inj (i := k) (j := j) (h₀ := by omega) (h₁ := hl) h.nd).mp (Option.some.inj hk)
    omega
theorem BadI.lt {z : List Nat} {its : List It} {i : Nat} (h : BadI z its i) : i < its.length := by
  obtain ⟨_, _, d, hd, _⟩ := h
  exact (List.getElem?_eq_some_iff.mp hd).1
theorem BadI.none {z : List Nat} {its : List It} {i j : Nat} {qs : List Rul} (h : BadI z its i) (p : PreI z its j qs) : j ≤ i := by
  refine Nat.le_of_not_lt fun l => ?_
  obtain ⟨rs, hr, d, hd, hb⟩ := h
  obtain ⟨q, h1, h2, h3, h4⟩ := p.at_ l
  rw [hd] at h2
  cases h2
  have e := hr.uniq (p.down (Nat.le_of_lt l))
  subst e
  have hb2 : (inB z q && !decide (q ∈ qs.take i)) = false := hb
  rw [h3, decide_eq_false h4] at hb2
  cases hb2
theorem BadI.uniq {z : List Nat} {its : List It} {i j : Nat} (h : BadI z its i) (h' : BadI z its j) : i = j := by
  obtain ⟨ps, p, _⟩ := id h
  obtain ⟨qs, q, _⟩ := id h'
  exact Nat.le_antisymm (h'.none p) (h.none q)
theorem AllI.eq' {z : List Nat} {its : List It} {qs : List Rul} (h : AllI z its qs) : its = qs.map Sum.inl := by
  have := h.eq
  rwa [List.take_length] at this
def fsB : List Str := ["weights", "rules"]
def bookV (ds : List DV) : DV := .node (.ins "Book" fsB) ds
def bookD (ps : List (Nat × Nat)) (qs : List Rul) : DV := bookV [wtsO ps, .tup (qs.map rulD)]
def zOf (ps : List (Nat × Nat)) : List Nat := ps.map (·.1)
def fnBook : NFn := fun _ ds n Q R => ∃ (wd : DV) (its : List It), ds = wd :: its.map madD ∧ its.length ≤ 1000 ∧ (∀ it ∈ its, ItOk it) ∧
  (((tyName wd).isSome = true ∧ R (exBook .non) n) ∨ ∃ ps, wd = wtsO ps ∧ GoodPairs ps ∧ (8 < its.length → R (exBook .non) n) ∧ (its.length ≤ 8 → (∀ i, BadI (zOf ps) its i → R (exBook (.int (i : Nat))) n) ∧
    ∀ qs, AllI (zOf ps) its qs → (∀ i, HeavyAt ps qs i → R (exHeavy i) n) ∧ ((∀ q ∈ qs, ltB ps q = true) → Q [wtsO ps, .tup (qs.map rulD)] n)))
theorem ok_binit {f : Addr} {fd : FuncData} (F : FunD K "__init__" "Book.__init__" (defArgs s_binit) (defBody s_binit) (defScope s_binit) [] [] f fd) (T : Tx K mg) : FnR P w K mg base (L2.CX P w) 9 f (spNew K "Book" fsB fnBook) := by
  refine ok_newSV (ps := ["self", "weights"]) (m := 1) (fjs := [("weights", 1), ("rules", 2)]) F sc_binit StX.cxUp (fun kV doc pm an cdv ct us rest hl => match us, hl, rest with | [_, _], _, [] => rfl | [_, _], _, _ :: _ => rfl) T.cl_Book (fun f hf => ?_) (by decide +kernel) (by decide) rfl (fun pn ds n Q R h => ?_) fun cdv A outer s pn D H E x ds1 ds2 n Qd R hr l1 h => ?_
  · simp only [List.map_cons, List.map_nil, List.mem_cons, List.not_mem_nil, or_false] at hf
    rcases hf with rfl | rfl
    · exact T.n_Book_weights
    · exact T.n_Book_rules
  · obtain ⟨wd, its, rfl, il, _⟩ := h
    rw [List.length_cons, List.length_map]
    exact ⟨by omega, bigN (by omega)⟩
  obtain ⟨wd, its, e, il, iok, h⟩ := h
  obtain ⟨a, rfl⟩ : ∃ a, ds1 = [a] := by
    match ds1, l1 with
    | [a], _ => exact ⟨a, rfl⟩
  have e : a :: ds2 = wd :: its.map madD := e
  injection e with e1 e2
  subst e1 e2
  refine ⟨_, (x_cons (s_if (DW.t (w_or (t_not (t_tru (d_callB (c_isiC (C := "Weights") (own_Weights T)) (by rfl) T.f_isinstance (by decide +kernel) (a_cons (d_var (pv 1)) (a_cons (d_fast (d := .raw (.ref _)) (pe_glob (v := .ref _) (by rfl) T.g_Weights rfl) (fun _ _ => .raw _)) a_nil))))) (w_or1 (t_cmp b_gt (d_lenV (by rfl) T.f_len (pv 2)) (d_fast (C8.pe_gc (by rfl) T.g_MOST_RULES) (fun _ _ => .int _)) (nomark _)))))
      (s_one (s_raise (xc_BadBook T) (takes_of rfl rfl rfl rfl) hr (by decide) (by rfl) (a_cons d_non a_nil))) s_nil)
      (x_cons (s_for (passes_of rfl) rfl (i_enum (by rfl) T.f_enumerate (d_var (pv 2))) (g_tup (n := 2) rfl (gs_cons (g_name (pg_name (i := 3) sc_binit.nd rfl (Or.inl rfl))) (gs_cons (g_name (pg_name (i := 4) sc_binit.nd rfl (Or.inr rfl))) gs_nil)) (glN (glN gl0)))
      (s_cons (s_if (DW.t (w_or (t_not (t_tru (d_callB (c_isiC (C := "Rule") (own_Rule T)) (by rfl) T.f_isinstance (by decide +kernel) (a_cons (d_var (pv 4)) (a_cons (d_fast (d := .raw (.ref _)) (pe_glob (v := .ref _) (by rfl) T.g_Rule rfl) (fun _ _ => .raw _)) a_nil))))) (w_or1 (t_not (t_tru (d_call (cIsRow T) hr (by decide) (by rfl) pass0 (a_cons (d_fld (fl_signs T) (d_var (pv 1))) (a_cons (d_op b_add (d_fld (fl_old T) (d_var (pv 4))) (d_fld (fl_new T) (d_var (pv 4)))) a_nil))))))))
      (s_one (s_raise (xc_BadBook T) (takes_of rfl rfl rfl rfl) hr (by decide) (by rfl) (a_cons (d_var (pv 3)) a_nil))) s_nil)
      (s_one (s_if (t_tru (d_callB (c_any (by rfl)) (by rfl) T.f_any (by decide +kernel) (a_cons (DF.de (f_lc (own := [("other", 5)]) (by rfl) sc_binit.nd (i_any (d_slice (d_var (pv 2)) o_none (o_some (d_var (pv 3))))) (blkOk_by (by kernel_rfl)) (fun _ _ _ _ _ => (g_name (pg_name (i := 5) sc_binit.nd rfl (Or.inl rfl)))) (by decide) (fun _ _ _ _ _ => pts_nil) simT_yes (fun _ _ _ _ _ => (d_cmpO (op := .Eq) (cREq T) (oth_Rule T) hr (by decide) pass0 (d_var (pv 4)) (d_var (pv 5)) (nomark _))))) a_nil)))
      (s_one (s_raise (xc_BadBook T) (takes_of rfl rfl rfl rfl) hr (by decide) (by rfl) (a_cons (d_var (pv 3)) a_nil))) s_nil))))
      (x_cons (s_expr (d_call (xLighter T) hr (by decide) (by rfl) (passes_call (takes_of rfl rfl rfl rfl) (fun _ _ _ _ h => h)) (a_cons (d_var (pv 1)) (a_cons (d_var (pv 2)) a_nil))))
      (x_tail (st_cons (pv 0) (pv 1) (st_cons (pv 0) (pv 2) st_nil)))))), ?_⟩
  have ll : (its.map madD).length = its.length := List.length_map _
  rcases h with ⟨ht, hR⟩ | ⟨ps, rfl, g, h8, h⟩
  · exact ⟨rfl, .inr ⟨ht, rfl, hR⟩⟩
  refine ⟨rfl, .inl ⟨rfl, ?_⟩⟩
  refine ite_F rfl ?_
  by_cases g8 : 8 < its.length
  case pos => exact ite_T (decide_eq_true (show (((its.map madD).length : Nat) : Int) > 8 by omega)) ⟨rfl, h8 g8⟩
  refine ite_F (decide_eq_false (show ¬ (((its.map madD).length : Nat) : Int) > 8 by omega)) ?_
  obtain ⟨hb, hq⟩ := h (by omega)
  refine ⟨fun i ρ => ∃ (v3 v4 : Option SV) (qs : List Rul), PreI (zOf ps) its i qs ∧ ρ = ⟨[some (.val (.raw (.ref x))), some (.val (wtsO ps)), some (.val (.tup (its.map madD))), v3, v4, none], n⟩, ⟨none, none, [], PreI.zero _ _, rfl⟩, ?_, ?_⟩
  · rintro i d ρ2 hd ⟨v3, v4, qs, pre, rfl⟩
    have hi := (List.getElem?_eq_some_iff.mp hd).1
    rw [enumD_len, ll] at hi
    obtain ⟨it, hit⟩ : ∃ it, its[i]? = some it := ⟨_, List.getElem?_eq_getElem hi⟩
    have hp : (its.map madD)[i]? = some (madD it) := by rw [List.getElem?_map, hit]; rfl
    rw [enumD_at hp] at hd
    cases hd
    have iO := iok it (List.mem_of_getElem? hit)
    have pl := pre.len
    cases it with
    | inr d => exact ⟨rfl, .inr ⟨iO, rfl, hb i ⟨qs, pre, _, hit, rfl⟩⟩⟩
    | inl q =>
      have n1 := iO.n1
      have n2 := iO.n2
      refine ⟨rfl, .inl ⟨rfl, ?_⟩⟩
      refine ⟨me_W, me_R, me_R, bigN (show (SX.S q.1).length + (SX.S q.2.1).length ≤ 1000000 by rw [SS_len, SS_len]; omega), zOf ps, q.1 ++ q.2.1, by rw [← S_cat]; rfl, by rw [List.length_append]; omega, ?_⟩
      have eI : ((q.1 ++ q.2.1).all fun c => decide (c ∈ zOf ps)) = inB (zOf ps) q := rfl
      rw [eI]
      cases hI : inB (zOf ps) q with
      | false => exact ⟨rfl, hb i ⟨qs, pre, _, hit, by show (inB (zOf ps) q && !decide (q ∈ qs)) = false; rw [hI]; rfl⟩⟩
      | true =>
        refine ite_F rfl ?_
        have qOk : ∀ p ∈ qs, RulOk p := fun p hp2 => by
          have m : (Sum.inl p : It) ∈ its.take i := by rw [pre.eq]; exact List.mem_map.mpr ⟨p, hp2, rfl⟩
          exact iok _ (List.mem_of_mem_take m)
        have et : cutD (its.map madD) none (some ((i : Nat) : Int)) = qs.map rulD := by
          unfold cutD
          rw [HT.sIx_none, HT.sIx_nat, ll, Nat.min_eq_left (Nat.le_of_lt hi)]
          show (its.map madD).take i = _
          rw [← List.map_take, pre.eq, List.map_map]
          rfl
        refine ⟨fun z => ?_, ?_⟩
        · have z2 := z.2
          rw [HT.sIx_nat, ll] at z2
          omega
        show LcIn _ _ _ _ _ (cutD (its.map madD) none (some ((i : Nat) : Int))) ⟨[some (.val (.raw (.ref x))), some (.val (wtsO ps)), some (.val (.tup (its.map madD))), some (.val (.int ((i : Nat) : Int))), some (.val (rulD q)), none], n⟩
        rw [et]
        refine lc_xs (vs := [5]) (sl := [some (.val (.raw (.ref x))), some (.val (wtsO ps)), some (.val (.tup (its.map madD))), some (.val (.int ((i : Nat) : Int))), some (.val (rulD q)), none]) qs rulD (fun p => DV.bl (qB q p)) (by omega) rfl (fun p kk hp2 hk => ?_) ?_
        · have pO := qOk p hp2
          exact ⟨rfl, rfl, q.1, q.2.1, q.2.2.1, q.2.2.2, rulD p, rfl, iO.l1, iO.l2, .inl ⟨p.1, p.2.1, p.2.2.1, p.2.2.2, rfl, pO.l1, pO.l2, hk _ (by repeat' first | exact .nil | refine .eq ?_ | refine .no ?_)⟩⟩
        show (match bools (qs.map fun p => DV.bl (qB q p)) with | some bs => _ | none => False)
        rw [bools_mapR]
        have ea : ((qs.map (qB q)).any id) = decide (q ∈ qs) := by
          rw [List.any_map]
          by_cases hm : q ∈ qs
          · rw [decide_eq_true hm, List.any_eq_true]
            exact ⟨q, hm, by show qB q q = true; rw [qB_eq, decide_eq_true rfl]⟩
          · rw [decide_eq_false hm, List.any_eq_false]
            intro p hp2 z
            have z2 : qB q p = true := z
            rw [qB_eq] at z2
            exact hm (of_decide_eq_true z2 ▸ hp2)
        show (match tru (DV.bl ((qs.map (qB q)).any id)) with | some k => _ | none => False)
        rw [ea]
        by_cases hm : q ∈ qs
        · rw [decide_eq_true hm]
          exact ⟨rfl, hb i ⟨qs, pre, _, hit, by show (inB (zOf ps) q && !decide (q ∈ qs)) = false; rw [decide_eq_true hm, Bool.and_comm]; rfl⟩⟩
        · rw [decide_eq_false hm]
          exact ⟨_, n, (by repeat' first | exact .nil | refine .eq ?_ | refine .no ?_), Nat.le_refl _, _, _, _, pre.next hit hI hm, rfl⟩
  · rintro ρ2 ⟨v3, v4, qs, pre, rfl⟩
    rw [enumD_len, ll] at pre
    obtain ⟨hH, hQ⟩ := hq qs pre
    have ee : its.map madD = qs.map rulD := by
      rw [AllI.eq' pre, List.map_map]
      rfl
    have qin : ∀ q ∈ qs, inB (ps.map (·.1)) q = true ∧ RulOk q := fun q hq2 => by
      refine ⟨pre.ok q hq2, ?_⟩
      have m : (Sum.inl q : It) ∈ its := by rw [AllI.eq' pre]; exact List.mem_map.mpr ⟨q, hq2, rfl⟩
      exact iok _ m
    refine ⟨ps, qs, by rw [ee], g, qin, by rw [pre.len]; omega, hH, fun hl => ?_⟩
    refine ⟨rfl, [_, _], ⟨rfl, rfl, True.intro⟩, ?_⟩
    rw [ee]
    exact hQ hl
theorem mBook (T : Tx K mg) : MkS P w K mg base (L2.CX P w) 9 "Book" (a_Book K) (spNew K "Book" fsB fnBook) := by
  obtain ⟨fd, F⟩ := T.d_binit
  exact ⟨⟨_, T.mk_Book, ok_binit F T, T.g_Book⟩⟩
end
end Rg
namespace Rg
open PySem PySem.Spec PyProof.Rows L2
section
variable {P : Program} {w : World} {K : PySem.W.Frag} {mg : Str → Option Value} {base : Heap}
def fnBOf (K : PySem.W.Frag) : PFn := fun _ ds n Q R => ∃ (wd : DV) (its : List It) (d : DV), ds = [.raw (.ref (a_Book K)), wd, d] ∧ (d = .tup (its.map madD) ∨ d = .lst (its.map madD)) ∧ fnBook none (wd :: its.map madD) n (fun ds' n => Q (bookV ds') n) R
theorem ok_bof {f : Addr} {fd : FuncData} (F : FunD K "of" "Book.of" (defArgs s_bof) (defBody s_bof) (defScope s_bof) [] [] f fd) (T : Tx K mg) : FnOk P w K mg base (L2.CX P w) 11 f fd ["cls", "weights", "rules"] (spP K (fnBOf K)) := by
  refine ok_p F sc_bof (fun pn ds n Q R h => ?_) fun cdv A outer s pn D H E ds n Qd R hr h => ?_
  · obtain ⟨wd, its, d, rfl, _⟩ := h
    rfl
  obtain ⟨wd, its, d, rfl, hd, hq⟩ := h
  refine ⟨_, (s_one (s_ret (d_makeSt2 (i := 0) (mBook T) hr (by decide) (pe_var rfl (Or.inl rfl)) (passes_call (takes_of rfl rfl rfl rfl) (fun _ _ _ _ h => h)) (a_cons (d_var (pv 1)) (a_star (d_var (pv 2)) a_nil))))), ?_⟩
  have e : wd :: (its.map madD ++ []) = wd :: its.map madD := by rw [List.append_nil]
  rcases hd with rfl | rfl
  · refine ⟨rfl, ?_⟩
    show fnBook pn (wd :: (its.map madD ++ [])) n (fun ds' n => Qd (bookV ds') n) R
    rw [e]
    exact hq
  · refine ⟨rfl, ?_⟩
    show fnBook pn (wd :: (its.map madD ++ [])) n (fun ds' n => Qd (bookV ds') n) R
    rw [e]
    exact hq
theorem xBOf (T : Tx K mg) : CmX P w K mg base (L2.CX P w) 11 (a_Book K) "of" (spP K (fnBOf K)) := c_bof T fun _ F => ok_bof F T
end
end Rg
namespace Rg
open PySem PySem.Spec PyProof.Rows L2
section
variable {P : Program} {w : World} {K : PySem.W.Frag} {mg : Str → Option Value} {base : Heap}
theorem allI_of {z : List Nat} {qs : List Rul} (h : ∀ q ∈ qs, inB z q = true) (nd : qs.Nodup) : AllI z (qs.map Sum.inl) qs :=
  ⟨by rw [List.take_length], (List.length_map _).symm, h, nd⟩
theorem heavy_no {ps : List (Nat × Nat)} {qs : List Rul} {i : Nat} (h : HeavyAt ps qs i) (hl : ∀ q ∈ qs, ltB ps q = true) : False := by
  obtain ⟨⟨q, e1, e2⟩, _⟩ := h
  rw [hl q (List.mem_of_getElem? e1)] at e2
  cases e2
theorem book_good {pn : Option Addr} {ps : List (Nat × Nat)} {its : List It} {qs : List Rul} {n : Nat} {Q : List DV → Nat → Prop} {R : PR} (g : GoodPairs ps) (iO : ∀ it ∈ its, ItOk it) (h : its.length ≤ 8) (ha : AllI (zOf ps) its qs) (hl : ∀ q ∈ qs, ltB ps q = true) (hQ : Q [wtsO ps, .tup (qs.map rulD)] n) : fnBook pn (wtsO ps :: its.map madD) n Q R :=
  ⟨_, its, rfl, by omega, iO, .inr ⟨ps, rfl, g, fun z => absurd h (by omega), fun _ => ⟨fun j hj => absurd (hj.none ha) (by have := hj.lt; omega), fun qs' hq => by
    rw [PreI.uniq hq ha]
    exact ⟨fun j hj => (heavy_no hj hl).elim, fun _ => hQ⟩⟩⟩⟩
/-- pairs and rules of which a book can be made -/
structure GoodB (ps : List (Nat × Nat)) (qs : List Rul) : Prop where
  g : GoodPairs ps
  ok : ∀ q ∈ qs, RulOk q
  pos : ∀ q ∈ qs, 1 ≤ q.1.length
  z : ∀ q ∈ qs, inB (zOf ps) q = true
  lt : ∀ q ∈ qs, ltB ps q = true
  nd : qs.Nodup
  len : qs.length ≤ 8
theorem bk_good {pn : Option Addr} {ps : List (Nat × Nat)} {qs : List Rul} {n : Nat} {Q : List DV → Nat → Prop} {R : PR} (b : GoodB ps qs) (hQ : Q [wtsO ps, .tup (qs.map rulD)] n) : fnBook pn (wtsO ps :: (qs.map Sum.inl).map madD) n Q R := by
  refine book_good b.g (fun it hit => ?_) (by rw [List.length_map]; exact b.len) (allI_of b.z b.nd) b.lt hQ
  obtain ⟨q, hq, rfl⟩ := List.mem_map.mp hit
  exact b.ok q hq
theorem GoodB.sub {ps : List (Nat × Nat)} {qs rs : List Rul} (b : GoodB ps qs) (h : rs.Sublist qs) : GoodB ps rs :=
  ⟨b.g, fun q hq => b.ok q (h.subset hq), fun q hq => b.pos q (h.subset hq), fun q hq => b.z q (h.subset hq), fun q hq => b.lt q (h.subset hq), b.nd.sublist h, Nat.le_trans h.length_le b.len⟩
end
end Rg
namespace Rg
open PySem PySem.Spec PyProof.Rows L2
section
variable {P : Program} {w : World} {K : PySem.W.Frag} {mg : Str → Option Value} {base : Heap}
namespace Mm
def blsD (bs : List Bool) : List DV := bs.map DV.bl
end Mm
end
end Rg
namespace Rg
open PySem PySem.Spec PyProof.Rows L2
section
variable {P : Program} {w : World} {K : PySem.W.Frag} {mg : Str → Option Value} {base : Heap}
namespace Mm
def spLetter : Sp := fun vs H Q _ => ∃ c : Nat, vs = [.str (sgn c)] ∧ Q (.bl (decide (c ∈ letters))) H
theorem ok_isLetter {f : Addr} {fd : FuncData} (F : FunD K "is_letter" "is_letter" (defArgs s_isLetter) (defBody s_isLetter) (defScope s_isLetter) [] [] f fd) (T : Tx K mg) : FnOk P w K mg base CX0 1 f fd ["thing"] spLetter := by
  refine F.ok sc_isLetter (fun vs H Q E h => ?_) (fun cdv A outer s H vs Q E hr h => ?_)
  · obtain ⟨c, rfl, _⟩ := h
    rfl
  · obtain ⟨c, rfl, k⟩ := h
    refine ⟨_, PSs.nox (pss_one (ps_ret (pe_and (pe_callB (call_isiK' K) (by rfl) T.f_isinstance (by decide +kernel) (pa_cons (pv 0) (pa_cons (pe_bltn (v := .ty "str") (by rfl) T.f_str (by decide +kernel) rfl) pa_nil))) (pe_and (pe_cmpR op_eq (pe_callB call_len_str (by rfl) T.f_len (by decide +kernel) (pa_cons (pv 0) pa_nil)) pe_int (nomark _)) (pe_one (pe_cmpR op_in_sign (pv 0) (C8.pe_gc (by rfl) T.g_LETTERS) (by rfl))))))), ?_⟩
    refine ⟨_, rfl, _, _, _, _, _, rfl, .ty _, .base (.str _), kit_ty (r := true) (by decide +kernel), _, rfl, iteT ?_⟩
    refine ⟨_, rfl, _, rfl, (by show 1 ≤ sizeLine; decide), rfl, _, rfl, iteT ?_⟩
    exact ⟨_, rfl, c, _, rfl, rfl, k⟩
theorem cLetter (T : Tx K mg) : CalX P w K mg base CX0 1 "is_letter" spLetter := c_isLetter T fun _ F => ok_isLetter F T
def spRow : Sp := fun vs H Q _ => ∃ z x : Str, vs = [.str z, .str x] ∧ x.cps.toList.length ≤ 1000 ∧ ∀ H', Same H H' → Q (.bl (x.cps.toList.all fun c => decide (c ∈ z.cps.toList))) H'
theorem ok_isRow {f : Addr} {fd : FuncData} (F : FunD K "is_row" "is_row" (defArgs s_isRow) (defBody s_isRow) (defScope s_isRow) [] [] f fd) (T : Tx K mg) : FnOk P w K mg base CX0 1 f fd ["signs", "thing"] spRow := by
  refine F.ok sc_isRow (fun vs H Q E h => ?_) (fun cdv A outer s H vs Q E hr h => ?_)
  · obtain ⟨z, x, rfl, _⟩ := h
    rfl
  · obtain ⟨z, x, rfl, hx, k⟩ := h
    refine ⟨_, PSs.nox (pss_one (ps_ret (pe_and (pe_callB (call_isiK' K) (by rfl) T.f_isinstance (by decide +kernel) (pa_cons (pv 1) (pa_cons (pe_bltn (v := .ty "str") (by rfl) T.f_str (by decide +kernel) rfl) pa_nil))) (pe_one (pe_callB (cr_allK K (by rfl)) (by rfl) T.f_all (by decide +kernel) (pa_cons (pe_lc (own := [("sign", 2)]) (g := _) (tt := tYes) (by rfl) sc_isRow.nd (pi_str (pv 1)) (blkOk_by (by kernel_rfl)) (fun _ _ _ _ _ => (pg_name (i := 2) sc_isRow.nd rfl (Or.inl rfl))) (fun _ _ _ _ _ => pts_nil) (fun _ _ _ _ _ => (pe_cmpR op_in_sign (pv 2) (pv 0) (by rfl)))) pa_nil)))))), ?_⟩
    refine ⟨_, rfl, _, _, _, _, _, rfl, .ty _, .base (.str _), kit_ty (r := true) (by decide +kernel), _, rfl, iteT ?_⟩
    -- all([sign in signs for sign in thing])
    refine ⟨_, rfl, x, rfl, fun D hD => lc_it walk_str (fun i H' => Same H H' ∧ H' D = some (.lst ((x.cps.toList.take i).map fun c => V.bl (decide (c ∈ z.cps.toList))))) ⟨Same.new hD, upd_same⟩ (fun _ _ _ _ => trivial) ?_ ?_⟩
    · rintro i v H1 H2 hi ⟨s1, h1⟩ ⟨rfl, c, hc, rfl⟩
      have hc' : x.cps.toList[i]? = some c := by rw [← get_tl]; exact hc
      refine ⟨rfl, ?_⟩
      refine ⟨_, rfl, _, rfl, c, _, rfl, rfl, _, h1, ?_, Same.put s1 hD, ?_⟩
      · refine Nat.lt_of_le_of_lt ?_ (show 1000 < sizeLine by decide)
        rw [List.length_map, List.length_take]
        omega
      · rw [upd_same, take_more hc', List.map_append]
        rfl
    · rintro H1 ⟨s1, h1⟩
      rw [size_tl, List.take_length] at h1
      refine ⟨D, x.cps.toList.map fun c => decide (c ∈ z.cps.toList), rfl, SqL.of ?_, ?_⟩
      · rw [h1, List.map_map]
        rfl
      · have e : ((x.cps.toList.map fun c => decide (c ∈ z.cps.toList)).all id) = x.cps.toList.all fun c => decide (c ∈ z.cps.toList) := by
          rw [List.all_map]
          rfl
        rw [e]
        exact k H1 s1
def spWhole : Sp := fun vs H Q _ => ∃ i l m : Int, vs = [.int i, .int l, .int m] ∧ Q (.bl (decide (l ≤ i ∧ i ≤ m))) H
theorem ok_isWhole {f : Addr} {fd : FuncData} (F : FunD K "is_whole" "is_whole" (defArgs s_isWhole) (defBody s_isWhole) (defScope s_isWhole) [.non] [] f fd) (T : Tx K mg) : FnOk P w K mg base CX0 1 f fd ["thing", "least", "most"] spWhole := by
  refine F.ok sc_isWhole (fun vs H Q E h => ?_) (fun cdv A outer s H vs Q E hr h => ?_)
  · obtain ⟨i, l, m, rfl, _⟩ := h
    rfl
  · obtain ⟨i, l, m, rfl, k⟩ := h
    refine ⟨_, PSs.nox (pss_cons (ps_if (PW.pt (pw_or (pt_not (pt_val (pe_callB (call_isiK' K) (by rfl) T.f_isinstance (by decide +kernel) (pa_cons (pv 0) (pa_cons (pe_bltn (v := .ty "int") (by rfl) T.f_int (by decide +kernel) rfl) pa_nil))))) (pw_or (pt_val (pe_callB (call_isiK' K) (by rfl) T.f_isinstance (by decide +kernel) (pa_cons (pv 0) (pa_cons (pe_bltn (v := .ty "bool") (by rfl) T.f_bool (by decide +kernel) rfl) pa_nil)))) (pw_or1 (pt_cmpR op_lt (pv 0) (pv 1) (nomark _))))))
      (pss_one (ps_ret pe_bl)) pss_nil)
      (pss_one (ps_ret (pe_or (pe_cmpR op_isN (pv 2) pe_non (nomark _)) (pe_one (pe_cmpR op_le (pv 0) (pv 2) (nomark _))))))), ?_⟩
    refine ⟨_, rfl, _, _, _, _, _, rfl, .ty _, .base (.int _), kit_ty (r := true) (by decide +kernel), _, rfl, iteF ?_⟩
    refine ⟨_, rfl, _, _, _, _, _, rfl, .ty _, .base (.int _), kit_ty (r := false) (by decide +kernel), _, rfl, iteF ?_⟩
    refine ⟨_, rfl, _, rfl, _, _, rfl, rfl, _, rfl, ?_⟩
    refine ite2 (fun h1 => ?_) (fun h1 => ?_)
    · have h2 : i < l := of_decide_eq_true h1
      have e : decide (l ≤ i ∧ i ≤ m) = false := decide_eq_false (by omega)
      rw [e] at k
      exact k
    · have h2 : ¬ i < l := fun z => h1 (decide_eq_true z)
      refine ⟨_, rfl, rfl, _, rfl, iteF ?_⟩
      refine ⟨_, rfl, _, rfl, _, _, rfl, rfl, ?_⟩
      have e : decide (l ≤ i ∧ i ≤ m) = decide (i ≤ m) := by
        by_cases q : i ≤ m
        · rw [decide_eq_true q, decide_eq_true ⟨by omega, q⟩]
        · rw [decide_eq_false q, decide_eq_false fun z => q z.2]
      rw [e] at k
      exact k
theorem cWhole (T : Tx K mg) : CalX P w K mg base CX0 1 "is_whole" spWhole := by
  obtain ⟨fd, F⟩ := T.d_isWhole
  obtain ⟨ds, r, b⟩ := F.binds1 (ps := ["thing", "least", "most"]) 3 1 (by simp) rfl fun T0 kV doc pm an cdv ct us its hl hi => match us, hl, its, hi with | [_, _, _], _, [_], _ => ⟨_, rfl, rfl⟩
  cases r
  exact ⟨_, fd, _, ok_isWhole F T, T.g_isWhole, F.kp, b⟩
theorem met_nodup : ∀ (ks acc : List Key), (acc ++ ks).Nodup → (ks.foldl metStep acc) = acc ++ ks
  | [], acc, _ => by simp
  | k :: r, acc, h => by
    have hk : hasK acc k = false := by
      cases e : hasK acc k with
      | false => rfl
      | true =>
        have hm := hasK_iff.mp e
        exact absurd hm (fun z => (List.nodup_append.mp h).2.2 k z k List.mem_cons_self rfl)
    have e : metStep acc k = acc ++ [k] := by
      unfold metStep
      rw [hk]
      rfl
    show r.foldl metStep (metStep acc k) = _
    rw [e, met_nodup r (acc ++ [k]) (by simpa using h)]
    simp
theorem met_signs {z : List Nat} (h : z.Nodup) : (met (z.map fun c => (Sum.inr (sgn c) : Key))).length = z.length := by
  have nd : (z.map fun c => (Sum.inr (sgn c) : Key)).Nodup := by
    rw [List.Nodup, List.pairwise_map]
    refine List.Pairwise.imp ?_ h
    intro a b hab e
    have e1 : sgn a = sgn b := Sum.inr.inj e
    have e2 : (#[a] : Array Nat) = #[b] := congrArg Str.cps e1
    exact hab (by simpa using e2)
  unfold met
  rw [met_nodup _ [] (by simpa using nd)]
  simp
def spNeedSigns : Sp := fun vs H Q _ => ∃ z : Str, vs = [.str z] ∧ GoodSigns z ∧ ∀ H', Same H H' → Q .non H'
theorem ok_needSigns {f : Addr} {fd : FuncData} (F : FunD K "need_signs" "need_signs" (defArgs s_needSigns) (defBody s_needSigns) (defScope s_needSigns) [] [] f fd) (T : Tx K mg) : FnOk P w K mg base CX0 2 f fd ["signs"] spNeedSigns := by
  refine F.ok sc_needSigns (fun vs H Q E h => ?_) (fun cdv A outer s H vs Q E hr h => ?_)
  · obtain ⟨z, rfl, _⟩ := h
    rfl
  · obtain ⟨z, rfl, g, k⟩ := h
    have hlen := len_tl z
    have g1 := g.pos
    have g2 := g.few
    have hz : z.length ≤ sizeLine := small_line (by omega)
    refine ⟨_, PSs.nox (pss_cons (ps_if (PW.pt (pw_or (pt_not (pt_val (pe_callB (call_isiK' K) (by rfl) T.f_isinstance (by decide +kernel) (pa_cons (pv 0) (pa_cons (pe_bltn (v := .ty "str") (by rfl) T.f_str (by decide +kernel) rfl) pa_nil))))) (pw_or1 (pt_not (pt_chain op_le op_le pe_int (pe_callB call_len_str (by rfl) T.f_len (by decide +kernel) (pa_cons (pv 0) pa_nil)) (C8.pe_gc (by rfl) T.g_MOST_SIGNS))))))
      (pss_one ps_never) pss_nil)
      (pss_one (ps_if (PW.pt (pw_or (pt_cmpR op_lt (pe_lenSetKK K rfl (by rfl) T.f_len (by rfl) T.f_set (pe_callTy (call_listS rfl) (by rfl) T.f_list (by decide +kernel) (pa_cons (pv 0) pa_nil))) (pe_callB call_len_str (by rfl) T.f_len (by decide +kernel) (pa_cons (pv 0) pa_nil)) (nomark _)) (pw_or1 (pt_not (pt_val (pe_callB (cr_allK K (by rfl)) (by rfl) T.f_all (by decide +kernel) (pa_cons (pe_lc (own := [("sign", 1)]) (g := _) (tt := tYes) (by rfl) sc_needSigns.nd (pi_str (pv 0)) (blkOk_by (by kernel_rfl)) (fun _ _ _ _ _ => (pg_name (i := 1) sc_needSigns.nd rfl (Or.inl rfl))) (fun _ _ _ _ _ => pts_nil) (fun _ _ _ _ _ => (pe_cX (cLetter T) hr (by decide) (by rfl) pass0 (pa_cons (pv 1) pa_nil)))) pa_nil)))))))
      (pss_one ps_never) pss_nil))), ?_⟩
    refine ⟨_, rfl, _, _, _, _, _, rfl, .ty _, .base (.str _), kit_ty (r := true) (by decide +kernel), _, rfl, iteF ?_⟩
    refine ⟨_, rfl, _, rfl, hz, _, _, rfl, rfl, _, rfl, ?_⟩
    have e1 : decide ((1 : Int) ≤ (z.length : Int)) = true := decide_eq_true (by omega)
    have e2 : decide ((z.length : Int) ≤ 4) = true := decide_eq_true (by omega)
    rw [e1]
    refine iteT ⟨_, _, rfl, rfl, _, rfl, ?_⟩
    rw [e2]
    refine iteF ?_
    -- len(set(list(signs))) < len(signs)
    refine ⟨_, rfl, _, rfl, hz, fun l hl => ⟨l, z.cps.toList.map fun c => (Sum.inr (sgn c) : Key), rfl, SqL.of ?_, ?_, ?_⟩⟩
    · rw [upd_same, List.map_map]
      rfl
    · rw [List.length_map]
      omega
    rw [met_signs g.nd]
    refine ⟨_, rfl, _, rfl, hz, _, _, rfl, rfl, _, rfl, ?_⟩
    have e3 : decide (((z.cps.toList.length : Nat) : Int) < (z.length : Int)) = false := decide_eq_false (by omega)
    rw [e3]
    refine iteF ?_
    -- all([is_letter(sign) for sign in signs])
    have s0 : Same H (upd H l (.lst (z.cps.toList.map fun c => V.str (sgn c)))) := Same.new hl
    refine ⟨_, rfl, z, rfl, fun D hD => lc_it walk_str (fun i H' => Same H H' ∧ H' D = some (.lst ((z.cps.toList.take i).map fun c => V.bl (decide (c ∈ letters))))) ⟨s0.trans (Same.new hD), upd_same⟩ (fun _ _ _ _ => trivial) ?_ ?_⟩
    · rintro i v H1 H2 hi ⟨s1, h1⟩ ⟨rfl, c, hc, rfl⟩
      have hc' : z.cps.toList[i]? = some c := by rw [← get_tl]; exact hc
      refine ⟨rfl, ?_⟩
      refine ⟨_, rfl, c, rfl, _, h1, ?_, Same.put s1 (s0.free hD), ?_⟩
      · refine Nat.lt_of_le_of_lt ?_ (show 1000 < sizeLine by decide)
        rw [List.length_map, List.length_take]
        omega
      · rw [upd_same, take_more hc', List.map_append]
        rfl
    · rintro H1 ⟨s1, h1⟩
      rw [size_tl, List.take_length] at h1
      refine ⟨D, z.cps.toList.map fun c => decide (c ∈ letters), rfl, SqL.of ?_, _, rfl, ?_⟩
      · rw [h1, List.map_map]
        rfl
      · have e : ((z.cps.toList.map fun c => decide (c ∈ letters)).all id) = true := by
          rw [List.all_map, List.all_eq_true]
          intro c hc
          exact decide_eq_true (g.let_ c hc)
        rw [e]
        exact iteF (k H1 s1)
theorem cNeedSigns (T : Tx K mg) : CalX P w K mg base CX0 2 "need_signs" spNeedSigns := c_needSigns T fun _ F => ok_needSigns F T
def spStepOk (K : PySem.W.Frag) : Sp := fun vs H Q _ => ∃ (a : Addr) (r : List Int) (m n : Int), vs = [.ref a, .int m, .int n] ∧ SqA K H a (r.map V.int) ∧ (r.length : Int) = m ∧ r.length ≤ 100 ∧ (∀ x ∈ r, 0 ≤ x ∧ x < n) ∧ ∀ H', Same H H' → Q (.bl true) H'
theorem ok_isStep {f : Addr} {fd : FuncData} (F : FunD K "is_step" "is_step" (defArgs s_isStep) (defBody s_isStep) (defScope s_isStep) [] [] f fd) (T : Tx K mg) : FnOk P w K mg base CX0 2 f fd ["thing", "many", "states"] (spStepOk K) := by
  refine F.ok sc_isStep (fun vs H Q E h => ?_) (fun cdv A outer s H vs Q E hr h => ?_)
  · obtain ⟨a, r, m, n, rfl, _⟩ := h
    rfl
  · obtain ⟨a, r, m, n, rfl, hS, hm, hl, hx, k⟩ := h
    refine ⟨_, PSs.nox (pss_cons (ps_if (PW.pt (pw_or (pt_not (pt_val (pe_callB (call_isiTK K) (by rfl) T.f_isinstance (by decide +kernel) (pa_cons (pv 0) (pa_cons (pe_tup (pa_cons (pe_bltn (v := .ty "list") (by rfl) T.f_list (by decide +kernel) rfl) (pa_cons (pe_bltn (v := .ty "tuple") (by rfl) T.f_tuple (by decide +kernel) rfl) pa_nil))) pa_nil))))) (pw_or1 (pt_cmpR op_ne (pe_callB (call_len_seqK K) (by rfl) T.f_len (by decide +kernel) (pa_cons (pv 0) pa_nil)) (pv 1) (nomark _)))))
      (pss_one (ps_ret pe_bl)) pss_nil)
      (pss_one (ps_ret (pe_callB (cr_allK K (by rfl)) (by rfl) T.f_all (by decide +kernel) (pa_cons (pe_lc (own := [("state", 3)]) (g := _) (tt := tYes) (by rfl) sc_isStep.nd (pi_seqK K (pv 0)) (blkOk_by (by kernel_rfl)) (fun _ _ _ _ _ => (pg_name (i := 3) sc_isStep.nd rfl (Or.inl rfl))) (fun _ _ _ _ _ => pts_nil) (fun _ _ _ _ _ => (pe_cX (cWhole T) hr (by decide) (by rfl) pass0 (pa_cons (pv 3) (pa_cons pe_int (pa_cons (pe_op op_sub (pv 2) pe_int) pa_nil)))))) pa_nil))))), ?_⟩
    refine ⟨_, rfl, (by show 2 ≤ sizeLine; decide), fun tp htp => ?_⟩
    have s0 : Same H (upd H tp (.tup [.ty "list", .ty "tuple"])) := Same.new htp
    have hS0 := hS.mono s0
    obtain ⟨t, ht, hk⟩ := isSeq_kit hS0
    refine ⟨_, tp, _, t, _, _, rfl, upd_same, cls_lt, ht, hk, _, rfl, iteF ?_⟩
    refine ⟨_, rfl, a, _, rfl, hS0, _, rfl, rfl, _, rfl, ?_⟩
    refine iteNS (by rw [List.length_map, hm]) ?_
    refine ⟨_, rfl, a, rfl, ?_⟩
    refine iSeq_of hS s0 fun J wk => ?_
    intro D hD
    refine lc_it wk (fun i H' => Same H H' ∧ H' D = some (.lst (List.replicate i (V.bl true)))) ⟨s0.trans (Same.new hD), upd_same⟩ (fun _ _ _ z => z.1) ?_ ?_
    · rintro i v H1 H2 hi ⟨s1, h1⟩ ⟨rfl, hv⟩
      rw [List.getElem?_map] at hv
      obtain ⟨x, hx', rfl⟩ := Option.map_eq_some_iff.mp hv
      have b := hx x (mem_of_at hx')
      rw [List.length_map] at hi
      refine ⟨rfl, ?_⟩
      refine ⟨_, rfl, _, rfl, _, _, rfl, rfl, x, 0, n - 1, rfl, _, h1, ?_, Same.put s1 (s0.free hD), ?_⟩
      · rw [List.length_replicate]
        exact Nat.lt_of_le_of_lt (show i ≤ 1000 by omega) (by decide)
      · rw [upd_same, decide_eq_true (show (0 : Int) ≤ x ∧ x ≤ n - 1 by omega), ← List.replicate_succ']
    · rintro H1 ⟨s1, h1⟩
      refine ⟨D, List.replicate (r.map V.int).length true, rfl, SqL.of ?_, ?_⟩
      · rw [h1, List.map_replicate]
      · have e : (List.replicate (r.map V.int).length true).all id = true := by simp
        rw [e]
        exact k H1 s1
theorem cStep (T : Tx K mg) : CalX P w K mg base CX0 2 "is_step" (spStepOk K) := c_isStep T fun _ F => ok_isStep F T
end Mm
end
end Rg
namespace Rg
open PySem PySem.Spec PyProof.Rows L2
section
variable {P : Program} {w : World} {K : PySem.W.Frag} {mg : Str → Option Value} {base : Heap}
namespace Mm
structure GoodRows (n : Nat) (rows : List (List Int)) (ms : List Bool) : Prop where
  pos : 1 ≤ rows.length
  few : rows.length ≤ 200
  wid : ∀ r ∈ rows, r.length = n
  rng : ∀ r ∈ rows, ∀ x ∈ r, 0 ≤ x ∧ x < (rows.length : Int)
  mrk : ms.length = rows.length
def off (x : Addr) (H : Hp) : Hp := fun b => if b = x then none else H b
theorem off_ne {x b : Addr} {H : Hp} (h : b ≠ x) : off x H b = H b := if_neg h
theorem off_eq {x : Addr} {H : Hp} : off x H x = none := if_pos rfl
theorem off_sqL {K : PySem.W.Frag} {H : Hp} {x a C dx : Addr} {fs : List (Str × V)} {xs : List V} (hx : H x = some (.ins C dx fs)) (h : SqL K H a xs) : SqL K (off x H) a xs := by
  rcases h with (h | ⟨o, h⟩) | h
  · exact .inl (.inl (by rw [off_ne (ne_of h hx (by intro z; cases z))]; exact h))
  · exact .inl (.inr ⟨o, by rw [off_ne (ne_of h hx (by intro z; cases z))]; exact h⟩)
  · exact .inr h
theorem off_sqT {K : PySem.W.Frag} {H : Hp} {x a C dx : Addr} {fs : List (Str × V)} {xs : List V} (hx : H x = some (.ins C dx fs)) (h : SqT K H a xs) : SqT K (off x H) a xs := by
  rcases h with (h | ⟨o, h⟩) | h
  · exact .inl (.inl (by rw [off_ne (ne_of h hx (by intro z; cases z))]; exact h))
  · exact .inl (.inr ⟨o, by rw [off_ne (ne_of h hx (by intro z; cases z))]; exact h⟩)
  · exact .inr h
theorem _root_.Rg.Step.off {D H D' H' : Hp} {x : Addr} (s : Step (· = x) D H D' H') : Same (off x H) H' := fun b o e => by
  have q : b ≠ x := fun z => by
    rw [z, off_eq] at e
    cases e
  rw [off_ne q] at e
  exact s.kp b o q e
def fM2 (z : Str) (a : Addr) : List (Str × V) := [("signs", V.str z), ("steps", V.ref a)]
def fM (z : Str) (a b : Addr) : List (Str × V) := [("signs", V.str z), ("steps", V.ref a), ("told", V.ref b)]
/-- tuples that are read: of which kind -/
structure TqOk (K : PySem.W.Frag) (Tq : Hp → Addr → List V → Prop) : Prop where
  new : ∀ {D : Hp} {a : Addr} {xs : List V}, D a = some (.tup xs) → Tq D a xs
  mono : ∀ {D D' : Hp} {a : Addr} {xs : List V}, Same D D' → Tq D a xs → Tq D' a xs
  sq : ∀ {D : Hp} {a : Addr} {xs : List V}, Tq D a xs → SqT K D a xs
theorem tq_raw : TqOk K (fun D a xs => D a = some (.tup xs)) := ⟨fun h => h, fun e h => e _ _ h, fun h => SqT.of h⟩
inductive RowsT (Tq : Hp → Addr → List V → Prop) (D : Hp) : List V → List (List Int) → Prop
  | nil : RowsT Tq D [] []
  | cons {a : Addr} {us : List V} {r : List Int} {rs : List (List Int)} : Tq D a (r.map V.int) → RowsT Tq D us rs → RowsT Tq D (.ref a :: us) (r :: rs)
theorem rowsT_mono {Tq : Hp → Addr → List V → Prop} (tq : TqOk K Tq) {D D' : Hp} (e : Same D D') : ∀ {us : List V} {rs : List (List Int)}, RowsT Tq D us rs → RowsT Tq D' us rs
  | _, _, .nil => .nil
  | _, _, .cons a b => .cons (tq.mono e a) (rowsT_mono tq e b)
theorem rowsT_app {Tq : Hp → Addr → List V → Prop} {D : Hp} : ∀ {us vs : List V} {rs qs : List (List Int)}, RowsT Tq D us rs → RowsT Tq D vs qs → RowsT Tq D (us ++ vs) (rs ++ qs)
  | _, _, _, _, .nil, h => h
  | _, _, _, _, .cons a b, h => .cons a (rowsT_app b h)
def RowInT (Tq : Hp → Addr → List V → Prop) (K : PySem.W.Frag) (D H : Hp) (u : V) (r : List Int) : Prop := ∃ a, u = .ref a ∧ (SqL K H a (r.map V.int) ∨ Tq D a (r.map V.int))
def StepsInT (Tq : Hp → Addr → List V → Prop) (K : PySem.W.Frag) (D H : Hp) (v : V) (rows : List (List Int)) : Prop := ∃ (a : Addr) (us : List V), v = .ref a ∧ SqA K H a us ∧ us.length = rows.length ∧ ∀ (i : Nat) (u : V) (r : List Int), us[i]? = some u → rows[i]? = some r → RowInT Tq K D H u r
def ToldInT (Tq : Hp → Addr → List V → Prop) (K : PySem.W.Frag) (D H : Hp) (v : V) (ms : List Bool) : Prop := ∃ a, v = .ref a ∧ (SqL K H a (ms.map V.bl) ∨ Tq D a (ms.map V.bl))
def spInitT (Tq : Hp → Addr → List V → Prop) (K : PySem.W.Frag) : Sp := fun vs H Q _ => ∃ (D : Hp) (x dx : Addr) (z : Str) (u v : V) (rows : List (List Int)) (ms : List Bool), vs = [.ref x, .str z, u, v] ∧ Same D H ∧ D x = none ∧ H x = some (.ins (a_Machine K) dx []) ∧
  GoodSigns z ∧ GoodRows z.cps.toList.length rows ms ∧ StepsInT Tq K D H u rows ∧ ToldInT Tq K D H v ms ∧
  ∀ (D' H' : Hp) (a b : Addr) (us : List V), Step (· = x) D H D' H' → D' x = none → H' x = some (.ins (a_Machine K) dx (fM z a b)) → Tq D' a us → RowsT Tq D' us rows → Tq D' b (ms.map V.bl) → Q .non H'
theorem ok_initT {Tq : Hp → Addr → List V → Prop} (tq : TqOk K Tq) {f : Addr} {fd : FuncData} (F : FunD K "__init__" "Machine.__init__" (defArgs s_init) (defBody s_init) (defScope s_init) [] [] f fd) (T : Tx K mg) : FnOk P w K mg base CX0 3 f fd ["self", "signs", "steps", "told"] (spInitT Tq K) := by
  refine F.ok sc_init (fun vs H Q E h => ?_) (fun cdv A outer s H vs Q E hr h => ?_)
  · obtain ⟨D, x, dx, z, u, v, rows, ms, rfl, _⟩ := h
    rfl
  · obtain ⟨D, x, dx, z, u, v, rows, ms, rfl, sd, dx0, hx, gz, gr, ⟨sa, us, rfl, hS, hul, hrow⟩, ⟨ta, rfl, hT⟩, k⟩ := h
    have zl := len_tl z
    have g1 := gz.pos
    have g2 := gz.few
    have p1 := gr.pos
    have p2 := gr.few
    refine ⟨_, PSs.nox (pss_cons (ps_expr (pe_cX (cNeedSigns T) hr (by decide) (by rfl) pass0 (pa_cons (pv 1) pa_nil)))
      (pss_cons (ps_if (PW.pt (pw_or (pt_not (pt_val (pe_callB (call_isiTK K) (by rfl) T.f_isinstance (by decide +kernel) (pa_cons (pv 2) (pa_cons (pe_tup (pa_cons (pe_bltn (v := .ty "list") (by rfl) T.f_list (by decide +kernel) rfl) (pa_cons (pe_bltn (v := .ty "tuple") (by rfl) T.f_tuple (by decide +kernel) rfl) pa_nil))) pa_nil))))) (pw_or1 (pt_cmpR op_eq (pe_callB (call_len_seqK K) (by rfl) T.f_len (by decide +kernel) (pa_cons (pv 2) pa_nil)) pe_int (nomark _)))))
      (pss_one ps_never) pss_nil)
      (pss_cons (ps_if (pt_not (pt_val (pe_callB (cr_allK K (by rfl)) (by rfl) T.f_all (by decide +kernel) (pa_cons (pe_lc (own := [("step", 4)]) (g := _) (tt := tYes) (by rfl) sc_init.nd (pi_seqK K (pv 2)) (blkOk_by (by kernel_rfl)) (fun _ _ _ _ _ => (pg_name (i := 4) sc_init.nd rfl (Or.inl rfl))) (fun _ _ _ _ _ => pts_nil) (fun _ _ _ _ _ => (pe_cX (cStep T) hr (by decide) (by rfl) pass0 (pa_cons (pv 4) (pa_cons (pe_callB call_len_str (by rfl) T.f_len (by decide +kernel) (pa_cons (pv 1) pa_nil)) (pa_cons (pe_callB (call_len_seqK K) (by rfl) T.f_len (by decide +kernel) (pa_cons (pv 2) pa_nil)) pa_nil)))))) pa_nil))))
      (pss_one ps_never) pss_nil)
      (pss_cons (ps_if (PW.pt (pw_or (pt_not (pt_val (pe_callB (call_isiTK K) (by rfl) T.f_isinstance (by decide +kernel) (pa_cons (pv 3) (pa_cons (pe_tup (pa_cons (pe_bltn (v := .ty "list") (by rfl) T.f_list (by decide +kernel) rfl) (pa_cons (pe_bltn (v := .ty "tuple") (by rfl) T.f_tuple (by decide +kernel) rfl) pa_nil))) pa_nil))))) (pw_or1 (pt_cmpR op_ne (pe_callB (call_len_seqK K) (by rfl) T.f_len (by decide +kernel) (pa_cons (pv 3) pa_nil)) (pe_callB (call_len_seqK K) (by rfl) T.f_len (by decide +kernel) (pa_cons (pv 2) pa_nil)) (nomark _)))))
      (pss_one ps_never) pss_nil)
      (pss_cons (ps_if (pt_not (pt_val (pe_callB (cr_allK K (by rfl)) (by rfl) T.f_all (by decide +kernel) (pa_cons (pe_lc (own := [("mark", 5)]) (g := _) (tt := tYes) (by rfl) sc_init.nd (pi_seqK K (pv 3)) (blkOk_by (by kernel_rfl)) (fun _ _ _ _ _ => (pg_name (i := 5) sc_init.nd rfl (Or.inl rfl))) (fun _ _ _ _ _ => pts_nil) (fun _ _ _ _ _ => (pe_callB (call_isiK' K) (by rfl) T.f_isinstance (by decide +kernel) (pa_cons (pv 5) (pa_cons (pe_bltn (v := .ty "bool") (by rfl) T.f_bool (by decide +kernel) rfl) pa_nil))))) pa_nil))))
      (pss_one ps_never) pss_nil)
      (pss_cons (ps_fld (pv 0) (pv 1) rfl)
      (pss_cons (ps_fld (pv 0) (pe_callTy (call_tuple_ofK K) (by rfl) T.f_tuple (by decide +kernel) (pa_cons (pe_lc (own := [("step", 4)]) (g := _) (tt := tYes) (by rfl) sc_init.nd (pi_seqK K (pv 2)) (blkOk_by (by kernel_rfl)) (fun _ _ _ _ _ => (pg_name (i := 4) sc_init.nd rfl (Or.inl rfl))) (fun _ _ _ _ _ => pts_nil) (fun _ _ _ _ _ => (pe_callTy (call_tuple_ofK K) (by rfl) T.f_tuple (by decide +kernel) (pa_cons (pv 4) pa_nil)))) pa_nil)) rfl)
      (pss_one (ps_fld (pv 0) (pe_callTy (call_tuple_ofK K) (by rfl) T.f_tuple (by decide +kernel) (pa_cons (pv 3) pa_nil)) rfl))))))))), ?_⟩
    -- need_signs(signs)
    refine ⟨_, rfl, z, rfl, gz, fun H1 s1 => ?_⟩
    -- if not isinstance(steps, (list, tuple)) or len(steps) == 0
    refine ⟨_, rfl, (by show 2 ≤ sizeLine; decide), fun t1 ht1 => ?_⟩
    have s2 := s1.trans (Same.new (o := .tup [.ty "list", .ty "tuple"]) ht1)
    obtain ⟨t, hty, hk⟩ := isSeq_kit (hS.mono s2)
    refine ⟨_, t1, _, t, _, _, rfl, upd_same, cls_lt, hty, hk, _, rfl, iteF ?_⟩
    refine ⟨_, rfl, sa, _, rfl, hS.mono s2, rfl, _, rfl, ?_⟩
    have e1 : decide (V.int (us.length : Int) = V.int 0) = false := decide_eq_false (fun q => by injection q with q; omega)
    rw [e1]
    refine iteF ?_
    -- all([is_step(step, len(signs), len(steps)) for step in steps])
    have zsz : z.length ≤ sizeLine := small_line (by omega)
    refine ⟨_, rfl, sa, rfl, ?_⟩
    refine iSeq_of hS s2 fun J wk => ?_
    intro D1 hD1
    refine lc_it wk (fun i H' => Same H H' ∧ H' D1 = some (.lst (List.replicate i (V.bl true)))) ⟨s2.trans (Same.new hD1), upd_same⟩ (fun _ _ _ z => z.1) ?_ ?_
    · rintro i v H3 H4 hi ⟨s3, h3⟩ ⟨rfl, hv⟩
      have hi2 : i < rows.length := by rw [← hul]; exact hi
      obtain ⟨a, rfl, ha⟩ := hrow i v rows[i] hv (List.getElem?_eq_getElem hi2)
      have hm := List.getElem_mem hi2
      have ha2 : SqA K H4 a (rows[i].map V.int) := ha.elim (fun q => .inl (s3.seq q)) fun q => .inr (sqT_mono (sd.trans s3) (tq.sq q))
      have hw := gr.wid _ hm
      refine ⟨rfl, ?_⟩
      refine ⟨_, rfl, _, rfl, z, rfl, zsz, _, rfl, sa, us, rfl, hS.mono s3, a, rows[i], _, _, rfl, ha2, by rw [hw, zl], by omega, fun y hy => ?_, fun H5 s5 => ?_⟩
      · rw [hul]
        exact gr.rng _ hm y hy
      · refine ⟨_, s5 _ _ h3, ?_, Same.put (s3.trans s5) (s2.free hD1), ?_⟩
        · rw [List.length_replicate]
          exact Nat.lt_of_le_of_lt (show i ≤ 1000 by omega) (by decide)
        · rw [upd_same, ← List.replicate_succ']
    rintro H3 ⟨s3, h3⟩
    refine ⟨D1, List.replicate us.length true, rfl, SqL.of (by rw [h3, List.map_replicate]), _, rfl, ?_⟩
    have e2 : (List.replicate us.length true).all id = true := by simp
    rw [e2]
    refine iteF ?_
    -- if not isinstance(told, (list, tuple)) or len(told) != len(steps)
    have hTA : SqA K H ta (ms.map V.bl) := hT.elim .inl fun q => .inr (sqT_mono sd (tq.sq q))
    refine ⟨_, rfl, (by show 2 ≤ sizeLine; decide), fun t2 ht2 => ?_⟩
    have s4 := s3.trans (Same.new (o := .tup [.ty "list", .ty "tuple"]) ht2)
    obtain ⟨tt, htt, hkt⟩ := isSeq_kit (hTA.mono s4)
    refine ⟨_, t2, _, tt, _, _, rfl, upd_same, cls_lt, htt, hkt, _, rfl, iteF ?_⟩
    refine ⟨_, rfl, ta, _, rfl, hTA.mono s4, _, rfl, sa, us, rfl, hS.mono s4, rfl, _, rfl, ?_⟩
    refine iteNS (by rw [List.length_map, gr.mrk, hul]) ?_
    -- all([isinstance(mark, bool) for mark in told])
    refine ⟨_, rfl, ta, rfl, ?_⟩
    refine iSeq_of hTA s4 fun J wk => ?_
    intro D2 hD2
    refine lc_it wk (fun i H' => Same H H' ∧ H' D2 = some (.lst (List.replicate i (V.bl true)))) ⟨s4.trans (Same.new hD2), upd_same⟩ (fun _ _ _ z => z.1) ?_ ?_
    · rintro i v H5 H6 hi ⟨s5, h5⟩ ⟨rfl, hv⟩
      rw [List.getElem?_map] at hv
      obtain ⟨b, hb, rfl⟩ := Option.map_eq_some_iff.mp hv
      rw [List.length_map, gr.mrk] at hi
      refine ⟨rfl, ?_⟩
      refine ⟨_, rfl, _, _, _, _, _, rfl, .ty _, .base (.bl _), kit_ty (r := true) (by decide +kernel), _, h5, ?_, Same.put s5 (s4.free hD2), ?_⟩
      · rw [List.length_replicate]
        exact Nat.lt_of_le_of_lt (show i ≤ 1000 by omega) (by decide)
      · rw [upd_same, ← List.replicate_succ']
    rintro H5 ⟨s5, h5⟩
    refine ⟨D2, List.replicate (ms.map V.bl).length true, rfl, SqL.of (by rw [h5, List.map_replicate]), _, rfl, ?_⟩
    have e3 : (List.replicate (ms.map V.bl).length true).all id = true := by simp
    rw [e3]
    refine iteF ?_
    -- self.signs = signs
    refine ⟨_, rfl, _, rfl, x, _, dx, [], rfl, s5 _ _ hx, T.cl_Machine, T.n_Machine_signs, (by show 0 < 1000; decide), ?_⟩
    have st1 : Step (· = x) D H D (upd H5 x (.ins (a_Machine K) dx [("signs", .str z)])) := (Step.of_same sd s5).write (.inl rfl) dx0
    have offS : SqA K (off x H) sa us := hS.elim (fun q => .inl (off_sqL hx q)) fun q => .inr (off_sqT hx q)
    have hx1 : (upd H5 x (.ins (a_Machine K) dx [("signs", .str z)])) x = some (.ins (a_Machine K) dx [("signs", .str z)]) := upd_same
    -- self.steps = tuple([tuple(step) for step in steps])
    refine ⟨_, rfl, sa, rfl, ?_⟩
    refine iSeq_of offS st1.off fun J wk => ?_
    intro D3 hD3
    have h03 := st1.free hD3
    have ne3 : x ≠ D3 := ne_of_none hx1 hD3
    refine lc_it wk (fun i H' => ∃ (Di : Hp) (acc : List V), Step (· = x) D H Di H' ∧ H' x = some (.ins (a_Machine K) dx [("signs", .str z)]) ∧ Di x = none ∧ H' D3 = some (.lst acc) ∧ Di D3 = none ∧ acc.length = i ∧ RowsT Tq Di acc (rows.take i))
      ⟨D, [], st1.trans (Step.tmp st1.dh hD3), by rw [upd_ne ne3]; exact hx1, dx0, upd_same, sd.free h03, rfl, .nil⟩ (fun _ _ _ ⟨_, _, q, _⟩ => q.off) ?_ ?_
    · rintro i v H7 H8 hi ⟨Di, acc, st, hx7, dix, h7, di3, hl, hd⟩ ⟨rfl, hv⟩
      have hi2 : i < rows.length := by rw [← hul]; exact hi
      have ei := List.getElem?_eq_getElem hi2
      obtain ⟨a, rfl, ha⟩ := hrow i v rows[i] hv ei
      have alen : acc.length < sizeLine := by rw [hl]; exact Nat.lt_of_le_of_lt (show i ≤ 1000 by omega) (by decide)
      have etk : rows.take (i + 1) = rows.take i ++ [rows[i]] := take_more ei
      refine ⟨rfl, ?_⟩
      refine ⟨_, rfl, a, rows[i].map V.int, rfl, ?_⟩
      rcases ha with ha | ha
      · refine .inl ⟨st.off.seq (off_sqL hx ha), fun l hl8 => ?_⟩
        have n3l : D3 ≠ l := ne_of_none h7 hl8
        have nxl : x ≠ l := ne_of_none hx7 hl8
        refine ⟨acc, by rw [upd_ne n3l]; exact h7, alen, ?_⟩
        have sn : Step (· = x) D H (upd Di l (.tup (rows[i].map V.int))) (upd H8 l (.tup (rows[i].map V.int))) := st.trans (Step.new st.dh hl8)
        refine ⟨_, _, sn.write (.inr h03) (by rw [upd_ne n3l]; exact di3), by rw [upd_ne ne3, upd_ne nxl]; exact hx7, by rw [upd_ne nxl]; exact dix, upd_same, by rw [upd_ne n3l]; exact di3, by rw [List.length_append, hl]; rfl, ?_⟩
        rw [etk]
        exact rowsT_app (rowsT_mono tq (same_new (st.dh.free hl8)) hd) (.cons (tq.new upd_same) .nil)
      · refine .inr ⟨sqT_mono (st.dd.trans st.dh) (tq.sq ha), ?_⟩
        refine ⟨acc, h7, alen, ?_⟩
        refine ⟨Di, _, st.write (.inr h03) di3, by rw [upd_ne ne3]; exact hx7, dix, upd_same, di3, by rw [List.length_append, hl]; rfl, ?_⟩
        rw [etk]
        exact rowsT_app hd (.cons (tq.mono st.dd ha) .nil)
    rintro H7 ⟨D7, acc, st7, hx7, d7x, h7, d73, hl7, hd7⟩
    rw [hul, List.take_length] at hd7
    refine ⟨D3, acc, rfl, .inl ⟨SqL.of h7, fun a1 ha1 => ?_⟩⟩
    have nxa : x ≠ a1 := ne_of_none hx7 ha1
    have st8 : Step (· = x) D H (upd D7 a1 (.tup acc)) (upd H7 a1 (.tup acc)) := st7.trans (Step.new st7.dh ha1)
    have d8 : RowsT Tq (upd D7 a1 (.tup acc)) acc rows := rowsT_mono tq (same_new (st7.dh.free ha1)) hd7
    have d9 : Tq (upd D7 a1 (.tup acc)) a1 acc := tq.new upd_same
    refine ⟨_, rfl, x, _, dx, _, rfl, by rw [upd_ne nxa]; exact hx7, T.cl_Machine, T.n_Machine_steps, (by show 1 < 1000; decide), ?_⟩
    have ep : putF "steps" (V.ref a1) [(("signs" : Str), V.str z)] = fM2 z a1 := by kernel_rfl
    rw [ep]
    have d8x : (upd D7 a1 (.tup acc)) x = none := by rw [upd_ne nxa]; exact d7x
    have st9 := st8.write (o := .ins (a_Machine K) dx (fM2 z a1)) (.inl rfl) d8x
    generalize hH9 : upd (upd H7 a1 (.tup acc)) x (.ins (a_Machine K) dx (fM2 z a1)) = H9 at st9 ⊢
    have hx9 : H9 x = some (.ins (a_Machine K) dx (fM2 z a1)) := by rw [← hH9]; exact upd_same
    -- self.told = tuple(told)
    have ep2 : ∀ b : Addr, putF "told" (V.ref b) (fM2 z a1) = fM z a1 b := fun b => by kernel_rfl
    refine ⟨_, rfl, ta, ms.map V.bl, rfl, ?_⟩
    rcases hT with hT | hT
    · refine .inl ⟨st9.off.seq (off_sqL hx hT), fun b hb => ?_⟩
      have nxb : x ≠ b := ne_of_none hx9 hb
      refine ⟨_, rfl, x, _, dx, _, rfl, by rw [upd_ne nxb]; exact hx9, T.cl_Machine, T.n_Machine_told, (by show 2 < 1000; decide), ?_⟩
      rw [ep2]
      have st10 : Step (· = x) D H (upd (upd D7 a1 (.tup acc)) b (.tup (ms.map V.bl))) (upd H9 b (.tup (ms.map V.bl))) := st9.trans (Step.new st9.dh hb)
      have dbx : (upd (upd D7 a1 (.tup acc)) b (.tup (ms.map V.bl))) x = none := by rw [upd_ne nxb]; exact d8x
      exact k _ _ a1 b acc (st10.write (.inl rfl) dbx) dbx upd_same (tq.mono (same_new (st9.dh.free hb)) d9) (rowsT_mono tq (same_new (st9.dh.free hb)) d8) (tq.new upd_same)
    · refine .inr ⟨sqT_mono (st9.dd.trans st9.dh) (tq.sq hT), ?_⟩
      refine ⟨_, rfl, x, _, dx, _, rfl, hx9, T.cl_Machine, T.n_Machine_told, (by show 2 < 1000; decide), ?_⟩
      rw [ep2]
      exact k _ _ a1 ta acc (st9.write (.inl rfl) d8x) d8x upd_same d9 d8 (tq.mono st9.dd hT)
end Mm
end
end Rg
namespace Rg
open PySem PySem.Spec PyProof.Rows L2
section
variable {P : Program} {w : World} {K : PySem.W.Frag} {mg : Str → Option Value} {base : Heap}
namespace Mm
def isSeq (d : DV) (xs : List DV) : Prop := d = .lst xs ∨ d = .tup xs
def intsD (r : List Int) : List DV := r.map DV.int
structure RowsOf (d : DV) (rows : List (List Int)) : Prop where
  ex : ∃ ds, isSeq d ds ∧ ds.length = rows.length ∧ ∀ (i : Nat) (r : List Int), rows[i]? = some r → ∃ e, ds[i]? = some e ∧ isSeq e (intsD r)
theorem isSeq.ix {d : DV} {xs : List DV} {i : Int} {z : DV} {Q : DV → Prop} (h : isSeq d xs) (e : atI xs i = some z) (q : Q z) : oIx d (.int i) Q := by
  rcases h with rfl | rfl
  · show (match atI xs i with | some d => Q d | none => False)
    rw [e]
    exact q
  · show (match atI xs i with | some d => Q d | none => False)
    rw [e]
    exact q
theorem RowsOf.at_ {d : DV} {rows : List (List Int)} (h : RowsOf d rows) {i : Int} {r : List Int} (h0 : 0 ≤ i) (e : rows[i.toNat]? = some r) {Q : DV → Prop} (q : ∀ z, isSeq z (intsD r) → Q z) : oIx d (.int i) Q := by
  obtain ⟨ds, h1, h2, h3⟩ := h.ex
  obtain ⟨z, h4, h5⟩ := h3 _ _ e
  exact h1.ix (atI_of h0 h4) (q z h5)
def tupsD (rows : List (List Int)) : List DV := rows.map fun r => DV.tup (intsD r)
theorem rowsOf_lsts (rows : List (List Int)) : RowsOf (.lst (rows.map fun r => DV.lst (intsD r))) rows := by
  refine ⟨_, .inl rfl, List.length_map .., fun i r h => ?_⟩
  refine ⟨.lst (intsD r), ?_, .inl rfl⟩
  rw [List.getElem?_map, h]
  rfl
abbrev fsM : List Str := ["signs", "steps", "told"]
def machD (z : Str) (rows : List (List Int)) (ms : List Bool) : DV := .node (.ins "Machine" fsM) [.str z, .tup (tupsD rows), .tup (blsD ms)]
theorem fl_signs (T : Tx K mg) : FldIn K "signs" ["Machine"] := fun C hC => by
  rw [List.mem_singleton.mp hC]
  exact ⟨T.cl_Machine, T.n_Machine_signs⟩
theorem rvA_intsD {D : Hp} : ∀ {vs : List V} {r : List Int}, RvA K D vs (intsD r) → vs = r.map V.int
  | _, [], .nil => rfl
  | _, x :: r, .cons a b => by rw [rv_int a, rvA_intsD b]; rfl
theorem rvA_blsD {D : Hp} : ∀ {vs : List V} {r : List Bool}, RvA K D vs (blsD r) → vs = r.map V.bl
  | _, [], .nil => rfl
  | _, x :: r, .cons a b => by rw [rv_bl a, rvA_blsD b]; rfl
theorem rvA_ofInts {D : Hp} : ∀ r : List Int, RvA K D (r.map V.int) (intsD r)
  | [] => .nil
  | _ :: r => .cons (.int _) (rvA_ofInts r)
theorem rvA_ofBls {D : Hp} : ∀ r : List Bool, RvA K D (r.map V.bl) (blsD r)
  | [] => .nil
  | _ :: r => .cons (.bl _) (rvA_ofBls r)
abbrev RawT : Hp → Addr → List V → Prop := fun D a xs => D a = some (.tup xs)
theorem rvA_rowsT {D : Hp} : ∀ {us : List V} {rows : List (List Int)}, RowsT RawT D us rows → RvA K D us (tupsD rows)
  | _, _, .nil => .nil
  | _, _, .cons a b => .cons (.tup a (rvA_ofInts _)) (rvA_rowsT b)
theorem rv_isSeq {D H : Hp} {v : V} {d : DV} {xs : List DV} (sd : Same D H) (h : isSeq d xs) (r : Rv K D v d) : ∃ a vs, v = .ref a ∧ RvA K D vs xs ∧ (SqL K H a vs ∨ D a = some (.tup vs)) := by
  rcases h with rfl | rfl
  · obtain ⟨a, vs, rfl, h1, h2⟩ := rv_lst r
    exact ⟨a, vs, rfl, h2, .inl (SqL.of (sd _ _ h1))⟩
  · obtain ⟨a, vs, rfl, h1, h2⟩ := rv_tup r
    exact ⟨a, vs, rfl, h2, .inr h1⟩
def fnMk : NFn := fun _ ds n Q _ => ∃ (z : Str) (d t : DV) (rows : List (List Int)) (ms : List Bool), ds = [.str z, d, t] ∧ GoodSigns z ∧ GoodRows z.cps.toList.length rows ms ∧ RowsOf d rows ∧ isSeq t (blsD ms) ∧ Q [.str z, .tup (tupsD rows), .tup (blsD ms)] n
theorem imp_mk (vs : List V) (H : Hp) (Q : VK) (E : XK) (h : spNew K "Machine" fsM fnMk vs H Q E) : spInitT RawT K vs H Q E := by
  obtain ⟨D, pn, x, dx, us, ds, n, Qd, R, rfl, sd, ph, dx0, hx, rv, pen, ⟨z, d, t, rows, ms, rfl, gz, gr, hd, ht, hq⟩, post, ex⟩ := h
  cases rv with
  | cons r1 rv => cases rv with
    | cons r2 rv => cases rv with
      | cons r3 rv =>
        cases rv
        rw [rv_str r1]
        obtain ⟨ds2, e2, l2, k2⟩ := hd.ex
        obtain ⟨a2, vs2, rfl, q2, s2⟩ := rv_isSeq sd e2 r2
        obtain ⟨a3, vs3, rfl, q3, s3⟩ := rv_isSeq sd ht r3
        have e3 := rvA_blsD q3
        subst e3
        refine ⟨D, x, dx, z, _, _, rows, ms, rfl, sd, dx0, hx, gz, gr, ⟨a2, vs2, rfl, s2.imp (fun q => q) fun q => SqT.of (sd _ _ q), by rw [rvA_len q2, l2], fun i u r hu hr => ?_⟩, ⟨a3, rfl, s3⟩, fun D' H' a b us st d1 h1 t1 rt t2 => ?_⟩
        · obtain ⟨e, he, hs⟩ := k2 i r hr
          obtain ⟨e', he', rq⟩ := rvA_get q2 hu
          rw [he] at he'
          cases he'
          obtain ⟨a4, vs4, rfl, q4, s4⟩ := rv_isSeq sd hs rq
          have e4 := rvA_intsD q4
          subst e4
          exact ⟨a4, rfl, s4⟩
        · exact post D' H' dx [.str z, .ref a, .ref b] _ n (st.mono fun _ e => .inl e).t d1 h1 rfl (.cons (.str z) (.cons (.tup t1 (rvA_rowsT rt)) (.cons (.tup t2 (rvA_ofBls ms)) .nil))) (fun p hp => (pen p hp).keep st (ph p hp).2) hq
theorem cMkD (T : Tx K mg) : MkX P w K mg base CX0 3 "Machine" (a_Machine K) (spNew K "Machine" fsM fnMk) := by
  obtain ⟨fd, F⟩ := T.d_init
  exact ⟨_, fd, _, T.mk_Machine, (ok_initT tq_raw F T).imp imp_mk, T.g_Machine, b_init T F⟩
end Mm
end
end Rg
namespace Rg
open PySem PySem.Spec PyProof.Rows L2
section
variable {P : Program} {w : World} {K : PySem.W.Frag} {mg : Str → Option Value} {base : Heap}
theorem own_Machine (T : Tx K mg) : OwnTy K "Machine" := ⟨⟨T.cl_Machine, He.eqO_ok T.ca_Machine, He.eqO_ok T.cnB, of_decide_eq_true T.ctB, of_decide_eq_true T.ob_Machine⟩, of_decide_eq_true T.ki_Machine, T.kn_Machine⟩
theorem goodS {z : List Nat} (h1 : 1 ≤ z.length) (h2 : z.length ≤ 4) (nd : z.Nodup) (hl : ∀ c ∈ z, c ∈ letters) : GoodSigns (SX.S z) := ⟨h1, h2, nd, hl⟩
def fnNeedSigns : PFn := fun _ ds n Q _ => ∃ z : Str, ds = [.str z] ∧ GoodSigns z ∧ Q .non n
theorem imp_needSigns (vs : List V) (H : Hp) (Q : VK) (E : XK) (h : spP K fnNeedSigns vs H Q E) : Mm.spNeedSigns vs H Q E := by
  obtain ⟨D, pn, ds, n, Qd, R, sd, ph, rv, pen, ⟨z, rfl, g, hq⟩, post, _⟩ := h
  obtain ⟨v, rfl, q1⟩ := rvA1 rv
  rw [rv_str q1]
  exact ⟨z, rfl, g, fun H' e => post D H' _ _ n (Step.of_same sd e).t .non (pen.keep (Step.of_same sd e).t) hq⟩
theorem cNeedSigns (T : Tx K mg) : CalX P w K mg base CX0 2 "need_signs" (spP K fnNeedSigns) := c_needSigns T fun _ F => (Mm.ok_needSigns F T).imp imp_needSigns
theorem cMkD0 (T : Tx K mg) : MkX P w K mg base CX0 3 "Machine" (a_Machine K) (spNew K "Machine" Mm.fsM Mm.fnMk) := Mm.cMkD T
/-- the machine of one state that tells all rows, or none -/
def oneM (z : List Nat) (b : Bool) : DV := Mm.machD (SX.S z) [List.replicate z.length 0] [b]
def fnMOne (K : PySem.W.Frag) (b : Bool) : PFn := fun _ ds n Q _ => ∃ z : List Nat, ds = [.raw (.ref (a_Machine K)), .str (SX.S z)] ∧ GoodSigns (SX.S z) ∧ Q (oneM z b) n
theorem one_rows (n : Nat) (b : Bool) : Mm.GoodRows n [List.replicate n 0] [b] := ⟨Nat.le_refl 1, (by show 1 ≤ 200; decide), fun r hr => by rw [List.mem_singleton.mp hr, List.length_replicate], fun r hr x hx => by
  rw [List.mem_singleton.mp hr] at hx
  rw [List.eq_of_mem_replicate hx]
  exact ⟨Int.le_refl 0, (by show (0 : Int) < 1; decide)⟩, rfl⟩
theorem zeros_of : ∀ z : List Nat, (z.map fun _ => DV.int 0) = Mm.intsD (List.replicate z.length 0)
  | [] => rfl
  | _ :: r => congrArg (DV.int 0 :: ·) (zeros_of r)
theorem rows_one (z : List Nat) : Mm.RowsOf (.lst [.lst (Mm.intsD (List.replicate z.length 0))]) [List.replicate z.length 0] := Mm.rowsOf_lsts [List.replicate z.length 0]
theorem ok_mevery {f : Addr} {fd : FuncData} (F : FunD K "every" "Machine.every" (defArgs s_mevery) (defBody s_mevery) (defScope s_mevery) [] [] f fd) (T : Tx K mg) : FnOk P w K mg base CX0 5 f fd ["cls", "signs"] (spP K (fnMOne K true)) := by
  refine ok_p F sc_mevery (fun pn ds n Q R h => ?_) fun cdv A outer s pn D H E ds n Qd R hr h => ?_
  · obtain ⟨z, rfl, _⟩ := h
    rfl
  obtain ⟨z, rfl, g, hq⟩ := h
  have z4 : z.length ≤ 4 := g.few
  refine ⟨_, DSs.nox (s_cons (s_expr (d_call (cNeedSigns T) hr (by decide) (by rfl) pass0 (a_cons (d_var (pv 1)) a_nil)))
      (s_one (s_ret (d_makeL (i := 0) (cMkD0 T) hr (by decide) rfl (Or.inl rfl) pass0 (a_cons (d_var (pv 1)) (a_cons (DF.de (f_lst (a_cons (DF.de (f_lc (own := [("sign", 2)]) (by rfl) sc_mevery.nd (i_any (d_var (pv 1))) (blkOk_by (by kernel_rfl)) (fun _ _ _ _ _ => (g_name (pg_name (i := 2) sc_mevery.nd rfl (Or.inl rfl)))) (by decide) (fun _ _ _ _ _ => pts_nil) simT_yes (fun _ _ _ _ _ => d_int))) a_nil))) (a_cons (DF.de (f_lst (a_cons d_bl a_nil))) a_nil))))))), ?_⟩
  refine ⟨SX.S z, rfl, g, rfl, ?_⟩
  refine lc_xs (vs := [2]) (sl := [some (.val (.raw (.ref (a_Machine K)))), some (.val (.str (SX.S z))), none]) z (fun c => DV.str (sgn c)) (fun _ => DV.int 0) (by omega) rfl (fun c kk _ hk => hk _ (by repeat' first | exact .nil | refine .eq ?_ | refine .no ?_)) ?_
  rw [zeros_of]
  exact ⟨(show 1 ≤ sizeLine by decide), (show 1 ≤ sizeLine by decide), SX.S z, _, _, _, _, rfl, g, one_rows z.length true, rows_one z, .inl rfl, hq⟩
theorem ok_mnone {f : Addr} {fd : FuncData} (F : FunD K "none" "Machine.none" (defArgs s_mnone) (defBody s_mnone) (defScope s_mnone) [] [] f fd) (T : Tx K mg) : FnOk P w K mg base CX0 5 f fd ["cls", "signs"] (spP K (fnMOne K false)) := by
  refine ok_p F sc_mnone (fun pn ds n Q R h => ?_) fun cdv A outer s pn D H E ds n Qd R hr h => ?_
  · obtain ⟨z, rfl, _⟩ := h
    rfl
  obtain ⟨z, rfl, g, hq⟩ := h
  have z4 : z.length ≤ 4 := g.few
  refine ⟨_, DSs.nox (s_cons (s_expr (d_call (cNeedSigns T) hr (by decide) (by rfl) pass0 (a_cons (d_var (pv 1)) a_nil)))
      (s_one (s_ret (d_makeL (i := 0) (cMkD0 T) hr (by decide) rfl (Or.inl rfl) pass0 (a_cons (d_var (pv 1)) (a_cons (DF.de (f_lst (a_cons (DF.de (f_lc (own := [("sign", 2)]) (by rfl) sc_mnone.nd (i_any (d_var (pv 1))) (blkOk_by (by kernel_rfl)) (fun _ _ _ _ _ => (g_name (pg_name (i := 2) sc_mnone.nd rfl (Or.inl rfl)))) (by decide) (fun _ _ _ _ _ => pts_nil) simT_yes (fun _ _ _ _ _ => d_int))) a_nil))) (a_cons (DF.de (f_lst (a_cons d_bl a_nil))) a_nil))))))), ?_⟩
  refine ⟨SX.S z, rfl, g, rfl, ?_⟩
  refine lc_xs (vs := [2]) (sl := [some (.val (.raw (.ref (a_Machine K)))), some (.val (.str (SX.S z))), none]) z (fun c => DV.str (sgn c)) (fun _ => DV.int 0) (by omega) rfl (fun c kk _ hk => hk _ (by repeat' first | exact .nil | refine .eq ?_ | refine .no ?_)) ?_
  rw [zeros_of]
  exact ⟨(show 1 ≤ sizeLine by decide), (show 1 ≤ sizeLine by decide), SX.S z, _, _, _, _, rfl, g, one_rows z.length false, rows_one z, .inl rfl, hq⟩
theorem cMEvery (T : Tx K mg) : CmX P w K mg base CX0 5 (a_Machine K) "every" (spP K (fnMOne K true)) := c_mevery T fun _ F => ok_mevery F T
theorem cMNone (T : Tx K mg) : CmX P w K mg base CX0 5 (a_Machine K) "none" (spP K (fnMOne K false)) := c_mnone T fun _ F => ok_mnone F T
end
end Rg
namespace Rg
open PySem PySem.Spec PyProof.Rows L2
section
variable {P : Program} {w : World} {K : PySem.W.Frag} {mg : Str → Option Value} {base : Heap}
def fsG : List Str := ["books", "weights", "seats", "goal", "last"]
structure GFld (K : PySem.W.Frag) (C : Str) : Prop where
  cl : Cls K (He.ga K C)
  n_books : NoAttr K (He.ga K C) "books"
  n_weights : NoAttr K (He.ga K C) "weights"
  n_seats : NoAttr K (He.ga K C) "seats"
  n_goal : NoAttr K (He.ga K C) "goal"
  n_last : NoAttr K (He.ga K C) "last"
inductive Knd where
  | some
  | every
  | shared
  | sides
deriving DecidableEq
def Knd.nm : Knd → Str
  | .some => "some"
  | .every => "every"
  | .shared => "shared"
  | .sides => "sides"
def Knd.cls : Knd → Str
  | .some => "Some"
  | .every => "Every"
  | .shared => "Shared"
  | .sides => "Sides"
theorem gfld (T : Tx K mg) : ∀ k : Knd, GFld K k.cls
  | .some => ⟨T.cl_Some, T.n_Some_books, T.n_Some_weights, T.n_Some_seats, T.n_Some_goal, T.n_Some_last⟩
  | .every => ⟨T.cl_Every, T.n_Every_books, T.n_Every_weights, T.n_Every_seats, T.n_Every_goal, T.n_Every_last⟩
  | .shared => ⟨T.cl_Shared, T.n_Shared_books, T.n_Shared_weights, T.n_Shared_seats, T.n_Shared_goal, T.n_Shared_last⟩
  | .sides => ⟨T.cl_Sides, T.n_Sides_books, T.n_Sides_weights, T.n_Sides_seats, T.n_Sides_goal, T.n_Sides_last⟩
/-- the fields of a game: its books, all over the same weights -/
def gameF (ps : List (Nat × Nat)) (bks : List (List Rul)) (goal last : DV) : List DV := [.tup (bks.map (bookD ps)), wtsO ps, .int ((bks.length : Nat) : Int), goal, last]
def gameD (k : Knd) (ps : List (Nat × Nat)) (bks : List (List Rul)) (goal last : DV) : DV := .node (.ins k.cls fsG) (gameF ps bks goal last)
def fnGInit : NFn := fun _ ds n Q _ => ∃ (ps : List (Nat × Nat)) (b : List Rul) (bks : List (List Rul)) (goal last : DV), ds = [.tup ((b :: bks).map (bookD ps)), goal, last] ∧ bks.length ≤ 3 ∧ Q (gameF ps (b :: bks) goal last) n
theorem ok_ginit {C : Str} (g : GFld K C) {f : Addr} {fd : FuncData} (F : FunD K "__init__" "Game.__init__" (defArgs s_ginit) (defBody s_ginit) (defScope s_ginit) [] [] f fd) (T : Tx K mg) : FnOk P w K mg base CX0 2 f fd ["self", "books", "goal", "last"] (spNew K C fsG fnGInit) := by
  refine ok_newJ F sc_ginit (fun pn ds n Q R h => ?_) fun cdv A outer s pn D H E x dx ds n Qd R hr h hx0 dx0 npx => ?_
  · obtain ⟨ps, b, bks, goal, last, rfl, _⟩ := h
    rfl
  obtain ⟨ps, b, bks, goal, last, rfl, l3, hq⟩ := h
  refine ⟨_, (k_tail (G := ⟨K, pn, D, H, E, []⟩) (C := C) (X := cxOf CX0 P w K mg base ["self", "books", "goal", "last"] "Game.__init__" (defScope s_ginit) f cdv A outer s H E) rfl hx0 dx0 npx
      (j_cons (j_store (G := ⟨K, pn, D, H, E, []⟩) (C := C) (X := cxOf CX0 P w K mg base ["self", "books", "goal", "last"] "Game.__init__" (defScope s_ginit) f cdv A outer s H E) g.cl g.n_books (pv 0) (fun fs dx ps hps => (d_var (pv 1))))
      (j_cons (j_store (G := ⟨K, pn, D, H, E, []⟩) (C := C) (X := cxOf CX0 P w K mg base ["self", "books", "goal", "last"] "Game.__init__" (defScope s_ginit) f cdv A outer s H E) g.cl g.n_weights (pv 0) (fun fs dx ps hps => (d_fld (fl_weights T) (d_ixV (pv 1) d_int))))
      (j_cons (j_store (G := ⟨K, pn, D, H, E, []⟩) (C := C) (X := cxOf CX0 P w K mg base ["self", "books", "goal", "last"] "Game.__init__" (defScope s_ginit) f cdv A outer s H E) g.cl g.n_seats (pv 0) (fun fs dx ps hps => (d_lenV (by rfl) T.f_len (pv 1))))
      (j_cons (j_store (G := ⟨K, pn, D, H, E, []⟩) (C := C) (X := cxOf CX0 P w K mg base ["self", "books", "goal", "last"] "Game.__init__" (defScope s_ginit) f cdv A outer s H E) g.cl g.n_goal (pv 0) (fun fs dx ps hps => (d_var (pv 2))))
      (j_cons (j_store (G := ⟨K, pn, D, H, E, []⟩) (C := C) (X := cxOf CX0 P w K mg base ["self", "books", "goal", "last"] "Game.__init__" (defScope s_ginit) f cdv A outer s H E) g.cl g.n_last (pv 0) (fun fs dx ps hps => (d_var (pv 3))))
      j_nil)))))), ?_⟩
  intro dx1 ps1
  refine ⟨rfl, (fun z => nomatch z), by decide, ?_⟩
  intro dx2 ps2
  show (match atI (List.map (bookD ps) (b :: bks)) 0 with | some d => _ | none => False)
  rw [show atI (List.map (bookD ps) (b :: bks)) 0 = some (bookD ps b) from atI_nat (j := 0) rfl]
  refine ⟨me_B, ?_⟩
  refine ⟨rfl, (show ("weights" : Str) ∉ (["books"] : List Str) by decide), (show 1 < 900 by decide), ?_⟩
  intro dx3 ps3
  refine ⟨rfl, (show ("seats" : Str) ∉ (["books", "weights"] : List Str) by decide), (show 2 < 900 by decide), ?_⟩
  intro dx4 ps4
  refine ⟨rfl, (show ("goal" : Str) ∉ (["books", "weights", "seats"] : List Str) by decide), (show 3 < 900 by decide), ?_⟩
  intro dx5 ps5
  refine ⟨rfl, (show ("last" : Str) ∉ (["books", "weights", "seats", "goal"] : List Str) by decide), (show 4 < 900 by decide), ?_⟩
  have e : (((b :: bks).map (bookD ps)).length : Int) = (((b :: bks).length : Nat) : Int) := by rw [List.length_map]
  refine ⟨rfl, ?_⟩
  show Qd [.tup ((b :: bks).map (bookD ps)), wtsO ps, .int ((((b :: bks).map (bookD ps)).length : Nat) : Int), goal, last] n
  rw [e]
  exact hq
/-- Game.__init__, as it is called by super() -/
theorem rGInit (T : Tx K mg) (k : Knd) : FnR P w K mg base CX0 2 (He.ma K (a_Game K) "__init__") (spNew K k.cls fsG fnGInit) := by
  obtain ⟨fd, F⟩ := T.d_ginit
  exact ((ok_ginit (gfld T k) F T).raw (b_ginit T F) .nil).imp fun vs H Q E h => by rw [List.append_nil]; exact h
theorem supI (T : Tx K mg) : ∀ k : Knd, SupIn K (He.ga K k.cls) (match k with | .some => a_Alone K | .every => a_Alone K | .shared => a_Shared K | .sides => a_Sides K) (He.ma K (a_Game K) "__init__")
  | .some => supC_ok T.su_Some
  | .every => supC_ok T.su_Every
  | .shared => supC_ok T.su_Shared
  | .sides => supC_ok T.su_Sides
def exGame (s : Str) : Exn := ("BadGame", ["part"], [.str s])
def fnNeedBook : PFn := fun _ ds n Q R => ∃ (d : DV) (s : Str), ds = [d, .str s] ∧ ((isC "Book" d = true ∧ Q .non n) ∨ ((tyName d).isSome = true ∧ R (exGame s) n))
theorem ok_needBook {f : Addr} {fd : FuncData} (F : FunD K "need_book" "need_book" (defArgs s_needBook) (defBody s_needBook) (defScope s_needBook) [] [] f fd) (T : Tx K mg) : FnOk P w K mg base (L2.CX P w) 3 f fd ["value", "part"] (spP K fnNeedBook) := by
  refine ok_p F sc_needBook (fun pn ds n Q R h => ?_) fun cdv A outer s pn D H E ds n Qd R hr h => ?_
  · obtain ⟨d, s, rfl, _⟩ := h
    rfl
  obtain ⟨d, s, rfl, h⟩ := h
  refine ⟨_, (s_one (s_if (t_not (t_tru (d_callB (c_isiC (C := "Book") (own_Book T)) (by rfl) T.f_isinstance (by decide +kernel) (a_cons (d_var (pv 0)) (a_cons (d_fast (d := .raw (.ref _)) (pe_glob (v := .ref _) (by rfl) T.g_Book rfl) (fun _ _ => .raw _)) a_nil)))))
      (s_one (s_raise (xc_BadGame T) (takes_of rfl rfl rfl rfl) hr (by decide) (by rfl) (a_cons (d_var (pv 1)) a_nil))) s_nil)), ?_⟩
  rcases h with ⟨hb, hq⟩ | ⟨ht, hR⟩
  · exact ⟨rfl, .inl ⟨hb, hq⟩⟩
  · exact ⟨rfl, .inr ⟨ht, rfl, hR⟩⟩
theorem xNeedBook (T : Tx K mg) : CalX P w K mg base (L2.CX P w) 3 "need_book" (spP K fnNeedBook) := c_needBook T fun _ F => ok_needBook F T
def fnNeedLast : PFn := fun _ ds n Q R => ∃ d : DV, ds = [d] ∧ (tyName d).isSome = true ∧ (boolA d = true → Q .non n) ∧ (boolA d = false → R (exGame "last") n)
theorem ok_needLast {f : Addr} {fd : FuncData} (F : FunD K "need_last" "need_last" (defArgs s_needLast) (defBody s_needLast) (defScope s_needLast) [] [] f fd) (T : Tx K mg) : FnOk P w K mg base (L2.CX P w) 3 f fd ["value"] (spP K fnNeedLast) := by
  refine ok_p F sc_needLast (fun pn ds n Q R h => ?_) fun cdv A outer s pn D H E ds n Qd R hr h => ?_
  · obtain ⟨d, rfl, _⟩ := h
    rfl
  obtain ⟨d, rfl, ht, h1, h2⟩ := h
  refine ⟨_, (s_one (s_if (t_not (t_tru (d_callB (c_isi T.xE T.xK) (by rfl) T.f_isinstance (by decide +kernel) (a_cons (d_var (pv 0)) (a_cons (d_fast (d := .raw (.ty "bool")) (pe_bltn (v := .ty "bool") (by rfl) T.f_bool (by decide +kernel) rfl) (fun _ _ => .raw _)) a_nil)))))
      (s_one (s_raise (xc_BadGame T) (takes_of rfl rfl rfl rfl) hr (by decide) (by rfl) (a_cons d_str a_nil))) s_nil)), ?_⟩
  obtain ⟨t, e1, e2⟩ := bool_cases ht
  refine ⟨boolA d, isA_tyN e1 e2, ?_⟩
  cases e : boolA d with
  | true => exact h1 e
  | false => exact ⟨rfl, h2 e⟩
theorem xNeedLast (T : Tx K mg) : CalX P w K mg base (L2.CX P w) 3 "need_last" (spP K fnNeedLast) := c_needLast T fun _ F => ok_needLast F T
end
end Rg
namespace Rg
open PySem PySem.Spec PyProof.Rows L2
section
variable {P : Program} {w : World} {K : PySem.W.Frag} {mg : Str → Option Value} {base : Heap}
theorem flM_signs (T : Tx K mg) : FldIn K "signs" ["Machine"] := fun C hC => by
  rw [List.mem_singleton.mp hC]
  exact ⟨T.cl_Machine, T.n_Machine_signs⟩
/-- Alone.__init__: a book and a machine over its signs -/
def fnAlone : NFn := fun _ ds n Q _ => ∃ (ps : List (Nat × Nat)) (b : List Rul) (rows : List (List Int)) (ms : List Bool), ds = [bookD ps b, Mm.machD (SX.S (zOf ps)) rows ms] ∧ ps.length ≤ 4 ∧ Q (gameF ps [b] (Mm.machD (SX.S (zOf ps)) rows ms) .non) n
theorem ok_ainit (k : Knd) (hk : k = .some ∨ k = .every) {f : Addr} {fd : FuncData} (F : FunS K "__init__" "Alone.__init__" (defArgs s_ainit) (defBody s_ainit) (defScope s_ainit) [] [] f fd (a_Alone K)) (T : Tx K mg) (hS : SupC P) : FnOk P w K mg base (L2.CX P w) 5 f fd ["self", "book", "goal"] (spNew K k.cls fsG fnAlone) := by
  have hF := rGInit (P := P) (w := w) (base := base) T k
  have si : SupIn K (He.ga K k.cls) (a_Alone K) (He.ma K (a_Game K) "__init__") := by
    rcases hk with rfl | rfl
    · exact supI T .some
    · exact supI T .every
  refine ok_newZ (Fg := fnGInit) F sc_ainit si (fun pn ds n Q R h => ?_) fun cda cc A outer s pn D H E x ds n Qd R sa hr h => ?_
  · obtain ⟨ps, b, rows, ms, rfl, _⟩ := h
    rfl
  obtain ⟨ps, b, rows, ms, rfl, p4, hq⟩ := h
  refine ⟨_, _, (z_cons (s_expr (d_call (xNeedBook T) hr (by decide) (by rfl) (passes_call (takes_of rfl rfl rfl rfl) (fun _ _ _ _ h => h)) (a_cons (d_var (pv 1)) (a_cons d_str a_nil))))
      (z_cons (s_if (t_not (t_tru (d_callB (c_isiC (C := "Machine") (own_Machine T)) (by rfl) T.f_isinstance (by decide +kernel) (a_cons (d_var (pv 2)) (a_cons (d_fast (d := .raw (.ref _)) (pe_glob (v := .ref _) (by rfl) T.g_Machine rfl) (fun _ _ => .raw _)) a_nil)))))
      (s_one (s_raise (xc_BadGame T) (takes_of rfl rfl rfl rfl) hr (by decide) (by rfl) (a_cons d_str a_nil))) s_nil)
      (z_cons (s_if (t_cmp (b_ne hr.units) (d_fld (flM_signs T) (d_var (pv 2))) (d_fld (fl_signs T) (d_fld (fl_weights T) (d_var (pv 1)))) (nomark _))
      (s_one (s_raise (xc_OtherSigns T) (takes_of rfl rfl rfl rfl) hr (by decide) (by rfl) (a_cons d_str a_nil))) s_nil)
      (z_tail (bs_super hS sa rfl sc_ainit.sup sc_ainit.cls rfl rfl rfl (by decide +kernel) T.f_super hF (hr.mono (by decide)) pass0 (a_cons (d_tup (a_cons (d_var (pv 1)) a_nil)) (a_cons (d_var (pv 2)) (a_cons d_non a_nil))).run))))), ?_⟩
  refine ⟨_, _, rfl, .inl ⟨rfl, ?_⟩⟩
  refine ⟨rfl, .inl ⟨rfl, ?_⟩⟩
  refine ite_F rfl ?_
  refine ⟨List.mem_singleton.mpr rfl, me_B, me_W, ?_⟩
  refine ite_F ?_ ?_
  · rw [decide_eq_true (show SX.S (zOf ps) = SX.S (ps.map (·.1)) from rfl)]
    rfl
  exact ⟨rfl, (show 1 ≤ sizeLine by decide), ps, b, [], _, _, rfl, by decide, hq⟩
theorem kndSome (T : Tx K mg) (hS : SupC P) : MkX P w K mg base (L2.CX P w) 5 "Some" (a_Some K) (spNew K "Some" fsG fnAlone) := by
  obtain ⟨fd, F⟩ := T.d_ainit
  have m := T.mk_Some
  rw [of_decide_eq_true T.in_Some] at m
  exact ⟨_, fd, _, m, ok_ainit .some (.inl rfl) F T hS, T.g_Some, F.bindsN fun _ _ _ _ _ _ _ us hl => match us, hl with | [_, _, _], _ => rfl⟩
theorem kndEvery (T : Tx K mg) (hS : SupC P) : MkX P w K mg base (L2.CX P w) 5 "Every" (a_Every K) (spNew K "Every" fsG fnAlone) := by
  obtain ⟨fd, F⟩ := T.d_ainit
  have m := T.mk_Every
  rw [of_decide_eq_true T.in_Every] at m
  exact ⟨_, fd, _, m, ok_ainit .every (.inr rfl) F T hS, T.g_Every, F.bindsN fun _ _ _ _ _ _ _ us hl => match us, hl with | [_, _, _], _ => rfl⟩
def fnShared : NFn := fun _ ds n Q _ => ∃ (ps : List (Nat × Nat)) (b : List Rul) (l : Bool), ds = [bookD ps b, .bl l] ∧ Q (gameF ps [b] .non (.bl l)) n
theorem ok_shinit {f : Addr} {fd : FuncData} (F : FunS K "__init__" "Shared.__init__" (defArgs s_shinit) (defBody s_shinit) (defScope s_shinit) [] [("last", .bl true)] f fd (a_Shared K)) (T : Tx K mg) (hS : SupC P) : FnOk P w K mg base (L2.CX P w) 5 f fd ["self", "book", "last"] (spNew K "Shared" fsG fnShared) := by
  have hF := rGInit (P := P) (w := w) (base := base) T .shared
  refine ok_newZ (Fg := fnGInit) F sc_shinit (supI T .shared) (fun pn ds n Q R h => ?_) fun cda cc A outer s pn D H E x ds n Qd R sa hr h => ?_
  · obtain ⟨ps, b, l, rfl, _⟩ := h
    rfl
  obtain ⟨ps, b, l, rfl, hq⟩ := h
  refine ⟨_, _, (z_cons (s_expr (d_call (xNeedBook T) hr (by decide) (by rfl) (passes_call (takes_of rfl rfl rfl rfl) (fun _ _ _ _ h => h)) (a_cons (d_var (pv 1)) (a_cons d_str a_nil))))
      (z_cons (s_expr (d_call (xNeedLast T) hr (by decide) (by rfl) (passes_call (takes_of rfl rfl rfl rfl) (fun _ _ _ _ h => h)) (a_cons (d_var (pv 2)) a_nil)))
      (z_tail (bs_super hS sa rfl sc_shinit.sup sc_shinit.cls rfl rfl rfl (by decide +kernel) T.f_super hF (hr.mono (by decide)) pass0 (a_cons (d_tup (a_cons (d_var (pv 1)) a_nil)) (a_cons d_non (a_cons (d_var (pv 2)) a_nil))).run)))), ?_⟩
  refine ⟨_, _, rfl, .inl ⟨rfl, ?_⟩⟩
  refine ⟨_, rfl, rfl, fun _ => ?_, fun z => nomatch z⟩
  exact ⟨rfl, (show 1 ≤ sizeLine by decide), ps, b, [], _, _, rfl, by decide, hq⟩
theorem kShared (T : Tx K mg) (hS : SupC P) : KMk P w K mg base (L2.CX P w) 5 "Shared" (a_Shared K) 1 ["last"] (spNew K "Shared" fsG fnShared) := by
  obtain ⟨fd, F⟩ := T.d_shinit
  obtain ⟨mv, hb⟩ := FunS.kbinds0 (ps := ["self", "book", "last"]) F 2 ["last"] [] (fun us mv ws => us ++ (mv ++ ws)) (by simp) (fun q hq => nomatch hq) (fun h1 h2 h3 => h1.append (h2.append h3)) fun D doc pm an cdv ct cc us mv ws l1 l2 l3 => match us, l1, mv, l2, ws, l3 with | [_, _], _, [], _, [_], _ => rfl
  exact ⟨_, fd, _, _, T.mk_Shared, ok_shinit F T hS, T.g_Shared, hb⟩
def fnSides : NFn := fun _ ds n Q _ => ∃ (ps : List (Nat × Nat)) (b c : List Rul) (l : Bool), ds = [bookD ps b, bookD ps c, .bl l] ∧ (∀ p ∈ ps, p.1 ∈ letters) ∧ Q (gameF ps [b, c] .non (.bl l)) n
theorem ok_siinit {f : Addr} {fd : FuncData} (F : FunS K "__init__" "Sides.__init__" (defArgs s_siinit) (defBody s_siinit) (defScope s_siinit) [] [("last", .bl true)] f fd (a_Sides K)) (T : Tx K mg) (hS : SupC P) : FnOk P w K mg base (L2.CX P w) 5 f fd ["self", "left", "right", "last"] (spNew K "Sides" fsG fnSides) := by
  have hF := rGInit (P := P) (w := w) (base := base) T .sides
  refine ok_newZ (Fg := fnGInit) F sc_siinit (supI T .sides) (fun pn ds n Q R h => ?_) fun cda cc A outer s pn D H E x ds n Qd R sa hr h => ?_
  · obtain ⟨ps, b, c, l, rfl, _⟩ := h
    rfl
  obtain ⟨ps, b, c, l, rfl, hlet, hq⟩ := h
  refine ⟨_, _, (z_cons (s_expr (d_call (xNeedBook T) hr (by decide) (by rfl) (passes_call (takes_of rfl rfl rfl rfl) (fun _ _ _ _ h => h)) (a_cons (d_var (pv 1)) (a_cons d_str a_nil))))
      (z_cons (s_expr (d_call (xNeedBook T) hr (by decide) (by rfl) (passes_call (takes_of rfl rfl rfl rfl) (fun _ _ _ _ h => h)) (a_cons (d_var (pv 2)) (a_cons d_str a_nil))))
      (z_cons (s_if (t_not (t_cmpO (op := .Eq) (cWEq T) (oth_Weights T) hr (by decide) pass0 (d_fld (fl_weights T) (d_var (pv 1))) (d_fld (fl_weights T) (d_var (pv 2))) (nomark _)))
      (s_one (s_raise (xc_OtherSigns T) (takes_of rfl rfl rfl rfl) hr (by decide) (by rfl) (a_cons d_str a_nil))) s_nil)
      (z_cons (s_expr (d_call (xNeedLast T) hr (by decide) (by rfl) (passes_call (takes_of rfl rfl rfl rfl) (fun _ _ _ _ h => h)) (a_cons (d_var (pv 3)) a_nil)))
      (z_tail (bs_super hS sa rfl sc_siinit.sup sc_siinit.cls rfl rfl rfl (by decide +kernel) T.f_super hF (hr.mono (by decide)) pass0 (a_cons (d_tup (a_cons (d_var (pv 1)) (a_cons (d_var (pv 2)) a_nil))) (a_cons d_non (a_cons (d_var (pv 3)) a_nil))).run)))))), ?_⟩
  refine ⟨_, _, rfl, .inl ⟨rfl, ?_⟩⟩
  refine ⟨_, _, rfl, .inl ⟨rfl, ?_⟩⟩
  refine ⟨me_B, me_B, rfl, rfl, ps, _, rfl, hlet, .inl ⟨ps, rfl, hlet, ?_⟩⟩
  rw [decide_eq_true rfl]
  refine ite_F rfl ?_
  refine ⟨_, rfl, rfl, fun _ => ?_, fun z => nomatch z⟩
  exact ⟨rfl, (show 2 ≤ sizeLine by decide), ps, b, [c], _, _, rfl, (by show 1 ≤ 3; decide), hq⟩
theorem kSides (T : Tx K mg) (hS : SupC P) : KMk P w K mg base (L2.CX P w) 5 "Sides" (a_Sides K) 2 ["last"] (spNew K "Sides" fsG fnSides) := by
  obtain ⟨fd, F⟩ := T.d_siinit
  obtain ⟨mv, hb⟩ := FunS.kbinds0 (ps := ["self", "left", "right", "last"]) F 3 ["last"] [] (fun us mv ws => us ++ (mv ++ ws)) (by simp) (fun q hq => nomatch hq) (fun h1 h2 h3 => h1.append (h2.append h3)) fun D doc pm an cdv ct cc us mv ws l1 l2 l3 => match us, l1, mv, l2, ws, l3 with | [_, _, _], _, [], _, [_], _ => rfl
  exact ⟨_, fd, _, _, T.mk_Sides, ok_siinit F T hS, T.g_Sides, hb⟩
end
end Rg
namespace Rg
open PySem PySem.Spec PyProof.Rows L2
section
variable {P : Program} {w : World} {K : PySem.W.Frag} {mg : Str → Option Value} {base : Heap}
def readsB (k : Knd) (l g : Bool) (as : List Bool) : Bool := match k with
  | .some => g || as.any id
  | .every => if as = [] then g else as.all id
  | .shared => if as = [] then !l else !as.all id
  | .sides => if as = [] then !l else !as.all id
/-- the truth last, where a game has one -/
def lastOf (k : Knd) (last : DV) (l : Bool) : Prop := match k with
  | .some => True
  | .every => True
  | .shared => last = .bl l
  | .sides => last = .bl l
def fnReads (k : Knd) : PFn := fun _ ds n Q _ => ∃ (ps : List (Nat × Nat)) (bks : List (List Rul)) (goal last : DV) (l g : Bool) (as : List Bool), ds = [gameD k ps bks goal last, .bl g, .lst (Mm.blsD as)] ∧ as.length ≤ 1000 ∧ lastOf k last l ∧ Q (.bl (readsB k l g as)) n
theorem bools_blsD (as : List Bool) : bools (Mm.blsD as) = some as := bools_map as
theorem len_blsD (as : List Bool) : (Mm.blsD as).length = as.length := List.length_map _
theorem fl_last (T : Tx K mg) : FldIn K "last" ["Shared", "Sides"] := fun C hC => by
  simp only [List.mem_cons, List.not_mem_nil, or_false] at hC
  rcases hC with rfl | rfl
  · exact ⟨T.cl_Shared, T.n_Shared_last⟩
  · exact ⟨T.cl_Sides, T.n_Sides_last⟩
theorem ok_somer {f : Addr} {fd : FuncData} (F : FunD K "reads" "Some.reads" (defArgs s_somer) (defBody s_somer) (defScope s_somer) [] [] f fd) (T : Tx K mg) : FnOk P w K mg base CX0 2 f fd ["self", "is_goal", "answers"] (spP K (fnReads .some)) := by
  refine ok_p F sc_somer (fun pn ds n Q R h => ?_) fun cdv A outer s pn D H E ds n Qd R hr h => ?_
  · obtain ⟨ps, bks, goal, last, l, g, as, rfl, _⟩ := h
    rfl
  obtain ⟨ps, bks, goal, last, l, g, as, rfl, al, _, hq⟩ := h
  refine ⟨_, DSs.nox (s_one (s_ret (d_or (d_var (pv 1)) (d_one (d_callB (c_any (by rfl)) (by rfl) T.f_any (by decide +kernel) (a_cons (d_callTy (c_list (by rfl)) (by rfl) T.f_list (by decide +kernel) (a_cons (d_var (pv 2)) a_nil)) a_nil)))))), ?_⟩
  cases g with
  | true => exact hq
  | false =>
    show (match bools (Mm.blsD as) with | some bs => _ | none => False)
    rw [bools_blsD]
    exact hq
theorem ok_everyr {f : Addr} {fd : FuncData} (F : FunD K "reads" "Every.reads" (defArgs s_everyr) (defBody s_everyr) (defScope s_everyr) [] [] f fd) (T : Tx K mg) : FnOk P w K mg base CX0 2 f fd ["self", "is_goal", "answers"] (spP K (fnReads .every)) := by
  refine ok_p F sc_everyr (fun pn ds n Q R h => ?_) fun cdv A outer s pn D H E ds n Qd R hr h => ?_
  · obtain ⟨ps, bks, goal, last, l, g, as, rfl, _⟩ := h
    rfl
  obtain ⟨ps, bks, goal, last, l, g, as, rfl, al, _, hq⟩ := h
  refine ⟨_, DSs.nox (s_one (s_ret (d_if (t_cmp b_gt (d_lenV (by rfl) T.f_len (pv 2)) d_int (nomark _)) (d_callB (c_all (by rfl)) (by rfl) T.f_all (by decide +kernel) (a_cons (d_callTy (c_list (by rfl)) (by rfl) T.f_list (by decide +kernel) (a_cons (d_var (pv 2)) a_nil)) a_nil)) (d_var (pv 1))))), ?_⟩
  show (if decide ((((Mm.blsD as).length : Nat) : Int) > 0) = true then _ else _)
  rw [len_blsD]
  cases as with
  | nil => exact ite_F (by decide) hq
  | cons a r =>
    refine ite_T (decide_eq_true (by show (((r.length + 1 : Nat)) : Int) > 0; omega)) ?_
    show (match bools (Mm.blsD (a :: r)) with | some bs => _ | none => False)
    rw [bools_blsD]
    exact hq
theorem ok_duelr (k : Knd) (hk : k = .shared ∨ k = .sides) {f : Addr} {fd : FuncData} (F : FunD K "reads" "Duel.reads" (defArgs s_duelr) (defBody s_duelr) (defScope s_duelr) [] [] f fd) (T : Tx K mg) : FnOk P w K mg base CX0 2 f fd ["self", "is_goal", "answers"] (spP K (fnReads k)) := by
  refine ok_p F sc_duelr (fun pn ds n Q R h => ?_) fun cdv A outer s pn D H E ds n Qd R hr h => ?_
  · obtain ⟨ps, bks, goal, last, l, g, as, rfl, _⟩ := h
    rfl
  obtain ⟨ps, bks, goal, last, l, g, as, rfl, al, hl, hq⟩ := h
  have hl : last = .bl l := by rcases hk with rfl | rfl <;> exact hl
  subst hl
  have hm : k.cls ∈ (["Shared", "Sides"] : List Str) := by rcases hk with rfl | rfl <;> simp [Knd.cls]
  have e0 : readsB k l g as = if as = [] then !l else !as.all id := by rcases hk with rfl | rfl <;> rfl
  rw [e0] at hq
  refine ⟨_, DSs.nox (s_one (s_ret (d_if (t_cmp b_gt (d_lenV (by rfl) T.f_len (pv 2)) d_int (nomark _)) (d_not (d_callB (c_all (by rfl)) (by rfl) T.f_all (by decide +kernel) (a_cons (d_callTy (c_list (by rfl)) (by rfl) T.f_list (by decide +kernel) (a_cons (d_var (pv 2)) a_nil)) a_nil))) (d_not (d_fld (fl_last T) (d_var (pv 0))))))), ?_⟩
  show (if decide ((((Mm.blsD as).length : Nat) : Int) > 0) = true then _ else _)
  rw [len_blsD]
  cases as with
  | nil =>
    refine ite_F (by decide) ?_
    exact ⟨hm, hq⟩
  | cons a r =>
    refine ite_T (decide_eq_true (by show (((r.length + 1 : Nat)) : Int) > 0; omega)) ?_
    show (match bools (Mm.blsD (a :: r)) with | some bs => _ | none => False)
    rw [bools_blsD]
    exact hq
theorem cSomeR (T : Tx K mg) : MetX P w K mg base CX0 2 (a_Some K) "reads" (spP K (fnReads .some)) := c_somer T fun _ F => ok_somer F T
theorem cEveryR (T : Tx K mg) : MetX P w K mg base CX0 2 (a_Every K) "reads" (spP K (fnReads .every)) := c_everyr T fun _ F => ok_everyr F T
theorem cSharedR (T : Tx K mg) : MetX P w K mg base CX0 2 (a_Shared K) "reads" (spP K (fnReads .shared)) := by
  obtain ⟨f, fd, ps, m, F, b⟩ := (c_duelr (P := P) (w := w) (base := base) T fun _ F => ok_duelr .shared (.inl rfl) F T).ex
  exact ⟨f, fd, ps, ⟨(He.eqO_ok T.rd_Shared).trans m.at_, m.fn, m.kp⟩, F, b⟩
theorem cSidesR (T : Tx K mg) : MetX P w K mg base CX0 2 (a_Sides K) "reads" (spP K (fnReads .sides)) := by
  obtain ⟨f, fd, ps, m, F, b⟩ := (c_duelr (P := P) (w := w) (base := base) T fun _ F => ok_duelr .sides (.inr rfl) F T).ex
  exact ⟨f, fd, ps, ⟨(He.eqO_ok T.rd_Sides).trans m.at_, m.fn, m.kp⟩, F, b⟩
def gamesT : List (Str × Bool) := [("Some", true), ("Every", true), ("Shared", true), ("Sides", true)]
theorem own_Game (T : Tx K mg) : OwnTyF K "Game" gamesT := ⟨fun p hp => by
  simp only [gamesT, List.mem_cons, List.not_mem_nil, or_false] at hp
  rcases hp with rfl | rfl | rfl | rfl
  · exact ⟨T.cl_Some, He.eqO_ok T.ca_Some, He.eqO_ok T.cnB, of_decide_eq_true T.ctB, of_decide_eq_true T.ob_Some⟩
  · exact ⟨T.cl_Every, He.eqO_ok T.ca_Every, He.eqO_ok T.cnB, of_decide_eq_true T.ctB, of_decide_eq_true T.ob_Every⟩
  · exact ⟨T.cl_Shared, He.eqO_ok T.ca_Shared, He.eqO_ok T.cnB, of_decide_eq_true T.ctB, of_decide_eq_true T.ob_Shared⟩
  · exact ⟨T.cl_Sides, He.eqO_ok T.ca_Sides, He.eqO_ok T.cnB, of_decide_eq_true T.ctB, of_decide_eq_true T.ob_Sides⟩, fun p hp => by
  simp only [gamesT, List.mem_cons, List.not_mem_nil, or_false] at hp
  rcases hp with rfl | rfl | rfl | rfl
  · exact of_decide_eq_true T.kg_Some
  · exact of_decide_eq_true T.kg_Every
  · exact of_decide_eq_true T.kg_Shared
  · exact of_decide_eq_true T.kg_Sides, T.kn_Game⟩
end
end Rg
namespace Rg
open PySem PySem.Spec PyProof.Rows L2
section
variable {P : Program} {w : World} {K : PySem.W.Frag} {mg : Str → Option Value} {base : Heap}
theorem toPy_nil : toPy (.lst []) = some (.list []) := by rw [toPy, toPyA]; rfl
theorem eqv_nil (ps : List PyData) : PyData.eqv (.list ps) (.list []) = decide (ps = []) := by
  rw [PyData.eqv]
  cases ps with
  | nil => rw [PyData.eqvAll] <;> rfl
  | cons a r => rw [PyData.eqvAll] <;> rfl
def groundZ : List (List Nat) := [[120, 111], [120, 111], [111, 120], [97, 98], [120, 121, 111], [111, 120, 121], [97, 98, 99, 100], [120]]
theorem ground_ok : ∀ z ∈ groundZ, 1 ≤ z.length ∧ z.length ≤ 4 ∧ z.Nodup ∧ ∀ c ∈ z, c ∈ letters := by decide +kernel
theorem ground_tx : ([.str "xo", .str "xo", .str "ox", .str "ab", .str "xyo", .str "oxy", .str "abcd", .str "x"] : List DV) = groundZ.map fun z => DV.str (SX.S z) := by rfl
theorem goodP_set {ps : List (Nat × Nat)} {k : Nat} (hk : k ≤ 9) (g : GoodPairs ps) : GoodPairs (ps.set 0 ((ps.map (·.1)).headD 0, k)) := by
  cases ps with
  | nil => exact g
  | cons p r =>
    refine ⟨g.pos, g.few, fun q hq => ?_, fun q hq => ?_, g.nd⟩
    · rcases List.mem_cons.mp (show q ∈ (p.1, k) :: r from hq) with rfl | hq
      · exact g.let_ p List.mem_cons_self
      · exact g.let_ q (List.mem_cons_of_mem _ hq)
    · rcases List.mem_cons.mp (show q ∈ (p.1, k) :: r from hq) with rfl | hq
      · exact hk
      · exact g.wt q (List.mem_cons_of_mem _ hq)
def fnGround : PFn := fun pn ds n Q _ => ∃ p, pn = some p ∧ ds = [.raw (.ref p)] ∧ 6 ≤ n ∧ ∀ (ps : List (Nat × Nat)) (m : Nat), GoodPairs ps → n - 5 ≤ m → Q (.lst (ps.map pairD)) m
theorem ok_ground {f : Addr} {fd : FuncData} (F : FunD K "_law_ground" "_law_ground" (defArgs s_ground) (defBody s_ground) (defScope s_ground) [] [] f fd) (T : Tx K mg) : FnOk P w K mg base CX0 4 f fd ["_law_pen_here"] (spP K fnGround) := by
  refine ok_p F sc_ground (fun pn ds n Q R h => ?_) fun cdv A outer s pn D H E ds n Qd R hr h => ?_
  · obtain ⟨p, rfl, rfl, _⟩ := h
    rfl
  obtain ⟨p, rfl, rfl, n6, hq⟩ := h
  refine ⟨_, DSs.nox (s_cons (s_set (i := 1) sc_ground.nd rfl (Or.inl rfl) (d_call (cPickD T) hr (by decide) (by rfl) pass0 (a_cons (d_var (pv 0)) (a_cons (DF.de (f_lst (a_cons d_str (a_cons d_str (a_cons d_str (a_cons d_str (a_cons d_str (a_cons d_str (a_cons d_str (a_cons d_str a_nil)))))))))) a_nil))))
      (s_cons (s_ownLc (i := 2) (own := [("_law_letter", 3)]) (by rfl) sc_ground.nd rfl rfl (sw_true rfl rfl rfl (by decide +kernel)) (i_any (d_var (pv 1))) (blkOk_by (by kernel_rfl)) (fun _ _ _ _ _ => (g_name (pg_name (i := 3) sc_ground.nd rfl (Or.inl rfl)))) (by decide) (fun _ _ _ _ _ => pts_nil) simT_yes (fun _ _ _ _ _ => (d_tup (a_cons (d_var (pv 3)) (a_cons (d_ix (DF.de (f_lst (a_cons d_int (a_cons d_int (a_cons d_int (a_cons d_int (a_cons d_int a_nil))))))) (d_call (cDrawD T) hr (by decide) (by rfl) pass0 (a_cons (d_var (pv 0)) (a_cons d_int a_nil)))) a_nil)))))
      (s_cons (s_if (t_lendL (i := 2) (t_cmp (b_eq hr.units) (DF.de (f_lc (own := [("_law_pair", 4)]) (by rfl) sc_ground.nd (i_any (d_var (pv 2))) (blkOk_by (by kernel_rfl)) (fun _ _ _ _ _ => (g_name (pg_name (i := 4) sc_ground.nd rfl (Or.inl rfl)))) (by decide) (fun _ _ _ _ _ => pts_one ((t_cmp b_gt (d_ixV (pv 4) d_int) d_int (nomark _))).run) simT_l (fun _ _ _ _ _ => (d_var (pv 4))))) (DF.de (f_lst a_nil)) (nomark _)))
      (s_one (s_lput (pv 2) d_int (d_tup (a_cons (d_ixV (pv 1) d_int) (a_cons d_int a_nil))))) s_nil)
      (s_one (s_ret (d_var (pv 2))))))), ?_⟩
  refine ⟨(show 8 ≤ sizeLine by decide), p, _, rfl, rfl, (show 1 ≤ n by omega), (by show 1 ≤ 8; decide), (by show 8 < 1000000; decide), fun x hx => ?_⟩
  rw [ground_tx] at hx
  obtain ⟨z, hz, rfl⟩ := List.mem_map.mp hx
  obtain ⟨z1, z4, nd, hl⟩ := ground_ok z hz
  show pOwn 2 (pLc _ (pAny (pVar 1)) _ _ _) _ (⟨[some (.val (.raw (.ref p))), some (.val (.str (SX.S z))), none, none, none], n - 1⟩ : Ps)
  unfold pOwn pLc
  refine pAny_val (i := 1) (sl := [some (.val (.raw (.ref p))), some (.val (.str (SX.S z))), none, none, none]) (n := n - 1) (d := .str (SX.S z)) (xs := z.map fun c => DV.str (sgn c)) rfl rfl ?_
  refine lc_ink (vs := [3]) (ds := z.map fun c => DV.str (sgn c)) (sl := [some (.val (.raw (.ref p))), some (.val (.str (SX.S z))), none, none, none]) (n := n - 1) 1 (fun i y => ∃ c w : Nat, z[i]? = some c ∧ w ≤ 2 ∧ y = pairD (c, w)) (by rw [List.length_map]; omega) rfl (by rw [List.length_map]; omega) (fun i d m k hd hm hk => ?_) fun ys hl2 hy => ?_
  · rw [List.getElem?_map] at hd
    obtain ⟨c, hc, rfl⟩ : ∃ c, z[i]? = some c ∧ DV.str (sgn c) = d := by
      cases e : z[i]? with
      | none => rw [e] at hd; cases hd
      | some c => rw [e] at hd; exact ⟨c, rfl, Option.some.inj hd⟩
    refine ⟨(show 5 ≤ sizeLine by decide), p, 5, rfl, rfl, hm, by decide, by decide, fun r r0 r1 => ?_⟩
    obtain ⟨v, hv, ha⟩ := at_mem (xs := [DV.int 0, .int 0, .int 1, .int 1, .int 2]) r0 r1
    show (match atI [DV.int 0, .int 0, .int 1, .int 1, .int 2] r with | some a => _ | none => False)
    rw [ha]
    obtain ⟨w, hw, rfl⟩ : ∃ w : Nat, w ≤ 2 ∧ v = .int (w : Nat) := by
      simp only [List.mem_cons, List.not_mem_nil, or_false] at hv
      rcases hv with rfl | rfl | rfl | rfl | rfl
      · exact ⟨0, by decide, rfl⟩
      · exact ⟨0, by decide, rfl⟩
      · exact ⟨1, by decide, rfl⟩
      · exact ⟨1, by decide, rfl⟩
      · exact ⟨2, by decide, rfl⟩
    exact ⟨(show 2 ≤ sizeLine by decide), hk (pairD (c, w)) _ _ ⟨c, w, hc, hw, rfl⟩ (Nat.le_refl _) (.eq (.eq (.no (.no (.no .nil)))))⟩
  obtain ⟨ps, rfl, hps⟩ := ex_map pairD (fun i q => z[i]? = some q.1 ∧ q.2 ≤ 2) ys fun i y h => by
    obtain ⟨c, w, h1, h2, h3⟩ := hy i y h
    exact ⟨(c, w), h3, h1, h2⟩
  rw [List.length_map, List.length_map] at hl2
  have hz2 : ps.map (·.1) = z := by
    refine List.ext_getElem? fun i => ?_
    rw [List.getElem?_map]
    cases e : ps[i]? with
    | none =>
      rw [List.getElem?_eq_none_iff] at e
      rw [List.getElem?_eq_none (by omega)]
      rfl
    | some q => exact (hps i q e).1.symm
  have g : GoodPairs ps := ⟨by omega, by omega, fun q hq => hl _ (by rw [← hz2]; exact List.mem_map.mpr ⟨q, hq, rfl⟩), fun q hq => by
    obtain ⟨i, hi⟩ := List.mem_iff_getElem?.mp hq
    have := (hps i q hi).2
    omega, by rw [hz2]; exact nd⟩
  have hm : n - 5 ≤ n - 1 - 1 * (z.map fun c => DV.str (sgn c)).length := by rw [List.length_map]; omega
  refine ⟨by cases ps with | nil => exact absurd g.pos (by decide) | cons _ _ => rfl, rfl, ?_⟩
  refine lc_xsel (vs := [4]) (sl := [some (.val (.raw (.ref p))), some (.val (.str (SX.S z))), some (.val (.lst (ps.map pairD))), none, none]) ps pairD pairD (fun q => decide (0 < q.2)) (by omega) rfl (fun q kk k0 hi2 q1 q2 => ?_) ?_
  · show (if decide (((q.2 : Nat) : Int) > 0) = true then _ else _)
    by_cases h : 0 < q.2
    · exact ite_T (decide_eq_true (show ((q.2 : Nat) : Int) > 0 by omega)) (q1 (decide_eq_true h) _ (by repeat' first | exact .nil | refine .eq ?_ | refine .no ?_))
    · exact ite_F (decide_eq_false (show ¬ ((q.2 : Nat) : Int) > 0 by omega)) (q2 (decide_eq_false h) _ (by repeat' first | exact .nil | refine .eq ?_ | refine .no ?_))
  refine ⟨Nat.zero_le _, _, _, toPy_pairsL _, toPy_nil, shaped_pairsL fun q hq => g.let_ q (List.mem_filter.mp hq).1, rfl, ?_⟩
  rw [eqv_nil]
  refine ⟨rfl, ?_⟩
  have h0 : (0 : Nat) < ps.length := g.pos
  by_cases e : ((ps.filter fun q => decide (0 < q.2)).map pairP) = []
  · rw [decide_eq_true e]
    refine ite_T rfl ?_
    obtain ⟨c0, hc0⟩ : ∃ c0, z[0]? = some c0 := ⟨_, List.getElem?_eq_getElem (by omega)⟩
    refine ⟨bigN (by rw [SS_len]; omega), ?_⟩
    show (match atI z 0 with | some c => _ | none => False)
    rw [show atI z 0 = some c0 from atI_nat (j := 0) hc0]
    refine ⟨(show 2 ≤ sizeLine by decide), ?_⟩
    have e0 : ixN (ps.map pairD).length 0 = some 0 := by
      unfold ixN
      rw [List.length_map, if_pos (by omega), if_pos (by omega)]
      rfl
    refine ⟨0, e0, ?_⟩
    have es : (ps.map pairD).set 0 (.tup [.str (sgn c0), .int 1]) = (ps.set 0 ((ps.map (·.1)).headD 0, 1)).map pairD := by
      rw [List.map_set, hz2]
      have : z.headD 0 = c0 := by
        cases z with
        | nil => cases hc0
        | cons a r => exact Option.some.inj hc0
      rw [this]
      rfl
    show Qd (.lst ((ps.map pairD).set 0 (.tup [.str (sgn c0), .int 1]))) _
    rw [es]
    exact hq _ _ (goodP_set (by decide) g) hm
  · rw [decide_eq_false e]
    refine ite_F rfl ?_
    exact hq ps _ g hm
theorem cGround (T : Tx K mg) : CalX P w K mg base CX0 4 "_law_ground" (spP K fnGround) := c_ground T fun _ F => ok_ground F T
end
end Rg
namespace Rg
open PySem PySem.Spec PyProof.Rows L2
section
variable {P : Program} {w : World} {K : PySem.W.Frag} {mg : Str → Option Value} {base : Heap}
abbrev blL (as : List Bool) : DV := .lst (Mm.blsD as)
def fnLists : PFn := fun _ ds n Q _ => ds = [.int 5] ∧ ∀ xss : List (List Bool), xss.length ≤ 63 → (∀ xs ∈ xss, xs.length ≤ 5) → Q (.lst (xss.map blL)) n
theorem blsD_app (a b : List Bool) : Mm.blsD a ++ Mm.blsD b = Mm.blsD (a ++ b) := (List.map_append ..).symm
theorem ok_lists {f : Addr} {fd : FuncData} (F : FunD K "_law_lists" "_law_lists" (defArgs s_lists) (defBody s_lists) (defScope s_lists) [] [] f fd) (T : Tx K mg) : FnOk P w K mg base CX0 2 f fd ["_law_top"] (spP K fnLists) := by
  refine ok_p F sc_lists (fun pn ds n Q R h => ?_) fun cdv A outer s pn D H E ds n Qd R hr h => ?_
  · obtain ⟨rfl, _⟩ := h
    rfl
  obtain ⟨rfl, hq⟩ := h
  refine ⟨_, DSs.nox (s_cons (s_par (i := 1) (j := 2) (by rfl) sc_lists.nd rfl rfl (by decide) rfl rfl (a_cons (DF.de (f_lst (a_cons (DF.de (f_lst a_nil)) a_nil))) (a_cons (DF.de (f_lst (a_cons (DF.de (f_lst a_nil)) a_nil))) a_nil)) (by rfl))
      (s_cons (s_for PassesOwn.never rfl (i_range1 (by rfl) T.f_range (d_var (pv 0))) (g_name (pg_name (i := 3) sc_lists.nd rfl (Or.inl rfl)))
      (s_cons (s_set (i := 4) sc_lists.nd rfl (Or.inl rfl) (DF.de (f_lst a_nil)))
      (s_cons (s_for PassesOwn.never rfl (i_any (d_var (pv 2))) (g_name (pg_name (i := 5) sc_lists.nd rfl (Or.inl rfl)))
      (s_one (s_set (i := 4) sc_lists.nd rfl (Or.inl rfl) (d_op b_add (d_var (pv 4)) (DF.de (f_lst (a_cons (d_op b_add (d_var (pv 5)) (DF.de (f_lst (a_cons d_bl a_nil)))) (a_cons (d_op b_add (d_var (pv 5)) (DF.de (f_lst (a_cons d_bl a_nil)))) a_nil))))))))
      (s_one (s_par (i := 1) (j := 2) (by rfl) sc_lists.nd rfl rfl (by decide) rfl rfl (a_cons (d_op b_add (d_var (pv 1)) (d_var (pv 4))) (a_cons (d_var (pv 4)) a_nil)) (by rfl))))))
      (s_one (s_ret (d_var (pv 1)))))), ?_⟩
  refine ⟨Nat.zero_le _, (show 1 ≤ sizeLine by decide), Nat.zero_le _, (show 1 ≤ sizeLine by decide), ?_⟩
  refine ⟨by decide, by decide, ?_⟩
  refine ⟨fun i ρ => ∃ (xss yss : List (List Bool)) (v3 v4 v5 : Option SV), xss.length + 1 = 2 ^ (i + 1) ∧ yss.length = 2 ^ i ∧ (∀ xs ∈ xss, xs.length ≤ i) ∧ (∀ xs ∈ yss, xs.length ≤ i) ∧ ρ = ⟨[some (.val (.int 5)), some (.val (.lst (xss.map blL))), some (.val (.lst (yss.map blL))), v3, v4, v5], n⟩, ⟨[[]], [[]], none, none, none, rfl, rfl, by simp, by simp, rfl⟩, ?_, ?_⟩
  · rintro i d ρ2 hd ⟨xss, yss, v3, v4, v5, l1, l2, h1, h2, rfl⟩
    have hi : i < 5 := by
      have := (List.getElem?_eq_some_iff.mp hd).1
      rw [rangeD_len] at this
      exact this
    have p1 : 2 ^ i ≤ 32 := Nat.le_trans (Nat.pow_le_pow_right (by decide) (show i ≤ 5 by omega)) (by decide)
    have p2 : 2 ^ (i + 1) = 2 * 2 ^ i := by rw [Nat.pow_succ]; omega
    have p3 : 2 ^ (i + 1 + 1) = 4 * 2 ^ i := by rw [Nat.pow_succ, p2]; omega
    refine ⟨Nat.zero_le _, ?_⟩
    refine ⟨fun j ρ => ∃ (zss : List (List Bool)) (v5 : Option SV), zss.length = 2 * j ∧ (∀ xs ∈ zss, xs.length ≤ i + 1) ∧ ρ = ⟨[some (.val (.int 5)), some (.val (.lst (xss.map blL))), some (.val (.lst (yss.map blL))), some (.val d), some (.val (.lst (zss.map blL))), v5], n⟩, ⟨[], v5, rfl, by simp, rfl⟩, ?_, ?_⟩
    · rintro j e ρ3 he ⟨zss, w5, l3, h3, rfl⟩
      rw [List.getElem?_map] at he
      obtain ⟨xs, hx, rfl⟩ : ∃ xs, yss[j]? = some xs ∧ blL xs = e := by
        cases q : yss[j]? with
        | none => rw [q] at he; cases he
        | some c => rw [q] at he; exact ⟨c, rfl, Option.some.inj he⟩
      have hj := (List.getElem?_eq_some_iff.mp hx).1
      have hxl := h2 xs (List.mem_of_getElem? hx)
      have hb : ∀ k : Nat, k ≤ 1000 → k ≤ sizeLine := fun k hk => bigN (by omega)
      have zl : zss.length ≤ 64 := by omega
      have ea : ∀ b : Bool, Mm.blsD xs ++ [DV.bl b] = Mm.blsD (xs ++ [b]) := fun b => blsD_app xs [b]
      refine ⟨hb 1 (by decide), ?_⟩
      refine ⟨hb _ (by rw [len_blsD]; show xs.length + 1 ≤ 1000; omega), hb 1 (by decide), hb _ (by rw [len_blsD]; show xs.length + 1 ≤ 1000; omega), hb 2 (by decide), hb _ (by rw [List.length_map]; show zss.length + 2 ≤ 1000; omega), ?_⟩
      refine ⟨_, n, (.eq (.eq (.eq (.eq (.eq (.no .nil)))))), Nat.le_refl _, zss ++ [xs ++ [true], xs ++ [false]], none, ?_, ?_, ?_⟩
      · rw [List.length_append]
        show zss.length + 2 = _
        omega
      · intro ys hy
        rcases List.mem_append.mp hy with hy | hy
        · exact h3 ys hy
        · simp only [List.mem_cons, List.not_mem_nil, or_false] at hy
          rcases hy with rfl | rfl <;> (rw [List.length_append]; show xs.length + 1 ≤ _; omega)
      · have e1 : (zss ++ [xs ++ [true], xs ++ [false]]).map blL = zss.map blL ++ [.lst (Mm.blsD xs ++ [DV.bl true]), .lst (Mm.blsD xs ++ [DV.bl false])] := by
          rw [List.map_append, ea true, ea false]
          rfl
        rw [e1]
    · rintro ρ3 ⟨zss, w5, l3, h3, rfl⟩
      rw [List.length_map] at l3
      have hb : ∀ k : Nat, k ≤ 1000 → k ≤ sizeLine := fun k hk => bigN (by omega)
      refine ⟨hb _ (by rw [List.length_map, List.length_map]; omega), ?_⟩
      refine ⟨_, n, (.eq (.eq (.eq (.no (.no (.no .nil)))))), Nat.le_refl _, xss ++ zss, zss, none, none, none, ?_, ?_, ?_, ?_, ?_⟩
      · rw [List.length_append]
        omega
      · omega
      · intro ys hy
        rcases List.mem_append.mp hy with hy | hy
        · have := h1 ys hy
          omega
        · exact h3 ys hy
      · exact h3
      · rw [List.map_append]
  · rintro ρ ⟨xss, yss, v3, v4, v5, l1, l2, h1, h2, rfl⟩
    rw [rangeD_len] at l1 h1
    have e : (5 : Int).toNat - 0 = 5 := rfl
    exact hq xss (by
      have l1 : xss.length + 1 = 2 ^ (5 + 1) := l1
      omega) h1
theorem cLists (T : Tx K mg) : CalX P w K mg base CX0 2 "_law_lists" (spP K fnLists) := c_lists T fun _ F => ok_lists F T
end
end Rg
namespace Rg
open PySem PySem.Spec PyProof.Rows L2
section
variable {P : Program} {w : World} {K : PySem.W.Frag} {mg : Str → Option Value} {base : Heap}
def planD (k : Knd) (l : Bool) : DV := .node (.dct [Sum.inr "kind", Sum.inr "last"]) [.str k.nm, .bl l]
theorem toPyA_bls : ∀ as : List Bool, toPyA (Mm.blsD as) = some (as.map PyData.bool)
  | [] => by rw [show Mm.blsD [] = [] from rfl, toPyA]; rfl
  | a :: r => by
    show toPyA (DV.bl a :: Mm.blsD r) = _
    rw [toPyA, toPyA_bls r]
    rfl
theorem toPy_bls (as : List Bool) : toPy (.lst (Mm.blsD as)) = some (.list (as.map PyData.bool)) := by rw [toPy, toPyA_bls]; rfl
theorem canLay_bls : ∀ as : List Bool, PyData.canLayAll0 (as.map PyData.bool) = true
  | [] => rfl
  | a :: r => by
    show (true && PyData.canLayAll0 (r.map PyData.bool)) = true
    rw [canLay_bls r] <;> rfl
theorem depth_bls : ∀ as : List Bool, PyData.depthAll (as.map PyData.bool) = 0
  | [] => rfl
  | a :: r => by
    show max 0 (PyData.depthAll (r.map PyData.bool)) = 0
    rw [depth_bls r] <;> rfl
theorem shaped_bls (as : List Bool) : SeqAt.shaped (.list (as.map PyData.bool)) = true := by
  unfold SeqAt.shaped
  rw [Bool.and_eq_true]
  refine ⟨canLay_bls as, decide_eq_true ?_⟩
  show PyData.depthAll (as.map PyData.bool) + 1 ≤ 64
  rw [depth_bls]
  decide
theorem any_true (as : List Bool) : ((as.map PyData.bool).any fun z => PyData.eqv z (.bool true)) = as.any id := by
  rw [List.any_map]
  congr 1
  funext a
  show PyData.eqv (.bool a) (.bool true) = a
  rw [eqv_bool]
  cases a <;> rfl
theorem any_false (as : List Bool) : ((as.map PyData.bool).any fun z => PyData.eqv z (.bool false)) = !as.all id := by
  rw [List.any_map, List.all_eq_not_any_not, Bool.not_not]
  congr 1
  funext a
  show PyData.eqv (.bool a) (.bool false) = !a
  rw [eqv_bool]
  cases a <;> rfl
def fnRd : PFn := fun _ ds n Q _ => ∃ (k : Knd) (l g : Bool) (as : List Bool), ds = [planD k l, .bl g, .lst (Mm.blsD as)] ∧ as.length ≤ 1000 ∧ Q (.bl (readsB k l g as)) n
theorem ok_reads {f : Addr} {fd : FuncData} (F : FunD K "_law_reads" "_law_reads" (defArgs s_reads) (defBody s_reads) (defScope s_reads) [] [] f fd) (T : Tx K mg) : FnOk P w K mg base CX0 2 f fd ["_law_plan", "_law_goal_so", "_law_answers"] (spP K fnRd) := by
  refine ok_p F sc_reads (fun pn ds n Q R h => ?_) fun cdv A outer s pn D H E ds n Qd R hr h => ?_
  · obtain ⟨k, l, g, as, rfl, _⟩ := h
    rfl
  obtain ⟨k, l, g, as, rfl, al, hq⟩ := h
  refine ⟨_, DSs.nox (s_cons (s_if (t_cmp (b_eq hr.units) (d_dgetK (hu1 hr.units) (d_var (pv 0)) d_str) d_str (nomark _))
      (s_one (s_ret (d_or (d_var (pv 1)) (d_one (d_cmp (b_in (hu65 hr)) d_bl (d_var (pv 2)) (by rfl)))))) s_nil)
      (s_cons (s_if (t_cmp (b_eq hr.units) (d_dgetK (hu1 hr.units) (d_var (pv 0)) d_str) d_str (nomark _))
      (s_one (s_ret (d_if (t_cmp (b_ne hr.units) (d_var (pv 2)) (DF.de (f_lst a_nil)) (nomark _)) (d_cmp (b_notIn (hu65 hr)) d_bl (d_var (pv 2)) (by rfl)) (d_var (pv 1))))) s_nil)
      (s_one (s_ret (d_if (t_cmp (b_ne hr.units) (d_var (pv 2)) (DF.de (f_lst a_nil)) (nomark _)) (d_cmp (b_in (hu65 hr)) d_bl (d_var (pv 2)) (by rfl)) (d_not (d_dgetK (hu1 hr.units) (d_var (pv 0)) d_str))))))), ?_⟩
  have nilL : ∀ {as : List Bool}, as ≠ [] → ¬ (as.map PyData.bool) = [] := fun h z => h (List.map_eq_nil_iff.mp z)
  cases k with
  | some =>
    cases g with
    | true => exact hq
    | false =>
      refine ⟨.bool true, _, rfl, toPyA_bls as, rfl, shaped_bls as, ?_⟩
      rw [any_true, xor_f]
      exact hq
  | every =>
    refine ⟨Nat.zero_le _, _, _, toPy_bls as, toPy_nil, shaped_bls as, rfl, ?_⟩
    rw [eqv_nil]
    by_cases e : as = []
    · subst e
      exact hq
    · rw [decide_eq_false (nilL e)]
      refine ite_T rfl ?_
      refine ⟨.bool false, _, rfl, toPyA_bls as, rfl, shaped_bls as, ?_⟩
      rw [any_false]
      have e2 : readsB .every l g as = as.all id := if_neg e
      rw [e2] at hq
      show Qd (.bl ((!as.all id) ^^ true)) n
      rw [Bool.xor_true, Bool.not_not]
      exact hq
  | shared =>
    refine ⟨Nat.zero_le _, _, _, toPy_bls as, toPy_nil, shaped_bls as, rfl, ?_⟩
    rw [eqv_nil]
    by_cases e : as = []
    · subst e
      exact hq
    · rw [decide_eq_false (nilL e)]
      refine ite_T rfl ?_
      refine ⟨.bool false, _, rfl, toPyA_bls as, rfl, shaped_bls as, ?_⟩
      rw [any_false, xor_f]
      have e2 : readsB .shared l g as = !as.all id := if_neg e
      rw [e2] at hq
      exact hq
  | sides =>
    refine ⟨Nat.zero_le _, _, _, toPy_bls as, toPy_nil, shaped_bls as, rfl, ?_⟩
    rw [eqv_nil]
    by_cases e : as = []
    · subst e
      exact hq
    · rw [decide_eq_false (nilL e)]
      refine ite_T rfl ?_
      refine ⟨.bool false, _, rfl, toPyA_bls as, rfl, shaped_bls as, ?_⟩
      rw [any_false, xor_f]
      have e2 : readsB .sides l g as = !as.all id := if_neg e
      rw [e2] at hq
      exact hq
theorem cReads (T : Tx K mg) : CalX P w K mg base CX0 2 "_law_reads" (spP K fnRd) := c_reads T fun _ F => ok_reads F T
/-- the game that _law_made makes -/
def madeG (k : Knd) (ps : List (Nat × Nat)) (l : Bool) : DV := match k with
  | .some => gameD .some ps [[]] (oneM (zOf ps) false) .non
  | .every => gameD .every ps [[]] (oneM (zOf ps) true) .non
  | .shared => gameD .shared ps [[]] .non (.bl l)
  | .sides => gameD .sides ps [[], []] .non (.bl l)
def fnMade : PFn := fun _ ds n Q _ => ∃ (ps : List (Nat × Nat)) (k : Knd) (l : Bool), ds = [.lst (ps.map pairD), .str k.nm, .bl l] ∧ GoodPairs ps ∧ Q (madeG k ps l) n
theorem ok_made {f : Addr} {fd : FuncData} (F : FunD K "_law_made" "_law_made" (defArgs s_made) (defBody s_made) (defScope s_made) [] [] f fd) (T : Tx K mg) (hS : SupC P) : FnOk P w K mg base CX0 13 f fd ["_law_ground_here", "_law_kind", "_law_ends_won"] (spP K fnMade) := by
  refine ok_p F sc_made (fun pn ds n Q R h => ?_) fun cdv A outer s pn D H E ds n Qd R hr h => ?_
  · obtain ⟨ps, k, l, rfl, _⟩ := h
    rfl
  obtain ⟨ps, k, l, rfl, g, hq⟩ := h
  refine ⟨_, DSs.nox (s_cons (s_set (i := 3) sc_made.nd rfl (Or.inl rfl) (d_join d_str (DF.de (f_lc (own := [("_law_pair", 5)]) (by rfl) sc_made.nd (i_any (d_var (pv 0))) (blkOk_by (by kernel_rfl)) (fun _ _ _ _ _ => (g_name (pg_name (i := 5) sc_made.nd rfl (Or.inl rfl)))) (by decide) (fun _ _ _ _ _ => pts_nil) simT_yes (fun _ _ _ _ _ => (d_ixV (pv 5) d_int))))))
      (s_cons (s_set (i := 4) sc_made.nd rfl (Or.inl rfl) (d_cmeth (d_fast (d := .raw (.ref _)) (pe_glob (v := .ref _) (by rfl) T.g_Book rfl) (fun _ _ => .raw _)) (xBOf T).calm hr (by decide) pass0 (a_cons (d_cmeth (d_fast (d := .raw (.ref _)) (pe_glob (v := .ref _) (by rfl) T.g_Weights rfl) (fun _ _ => .raw _)) (cWOf T).calm hr (by decide) pass0 (a_cons (d_var (pv 0)) a_nil)) (a_cons (DF.de (f_lst a_nil)) a_nil))))
      (s_cons (s_if (t_cmp (b_eq hr.units) (d_var (pv 1)) d_str (nomark _))
      (s_one (s_ret (d_make (kndSome T hS).calm hr (by decide) (by rfl) pass0 (a_cons (d_var (pv 4)) (a_cons (d_cmeth (d_fast (d := .raw (.ref _)) (pe_glob (v := .ref _) (by rfl) T.g_Machine rfl) (fun _ _ => .raw _)) (cMNone T) hr (by decide) pass0 (a_cons (d_var (pv 3)) a_nil)) a_nil))))) s_nil)
      (s_cons (s_if (t_cmp (b_eq hr.units) (d_var (pv 1)) d_str (nomark _))
      (s_one (s_ret (d_make (kndEvery T hS).calm hr (by decide) (by rfl) pass0 (a_cons (d_var (pv 4)) (a_cons (d_cmeth (d_fast (d := .raw (.ref _)) (pe_glob (v := .ref _) (by rfl) T.g_Machine rfl) (fun _ _ => .raw _)) (cMEvery T) hr (by decide) pass0 (a_cons (d_var (pv 3)) a_nil)) a_nil))))) s_nil)
      (s_one (s_ret (d_if (t_cmp (b_eq hr.units) (d_var (pv 1)) d_str (nomark _)) (d_makeK (kShared T hS).calm hr (by decide) (by rfl) pass0 (a_cons (d_var (pv 4)) a_nil) (k_cons (d_var (pv 2)) k_nil)) (d_makeK (kSides T hS).calm hr (by decide) (by rfl) pass0 (a_cons (d_var (pv 4)) (a_cons (d_var (pv 4)) a_nil)) (k_cons (d_var (pv 2)) k_nil))))))))), ?_⟩
  have ps4 := g.few
  show pSet (pName 3) (pJoin _ (pFr (pLc _ (pAny (pVar 0)) _ _ _))) _ (⟨[some (.val (.lst (ps.map pairD))), some (.val (.str k.nm)), some (.val (.bl l)), none, none, none], n⟩ : Ps)
  unfold pSet pJoin pFr pLc
  refine pAny_val (i := 0) (sl := [some (.val (.lst (ps.map pairD))), some (.val (.str k.nm)), some (.val (.bl l)), none, none, none]) (n := n) (d := .lst (ps.map pairD)) (xs := ps.map pairD) rfl rfl ?_
  refine lc_xs (vs := [5]) (sl := [some (.val (.lst (ps.map pairD))), some (.val (.str k.nm)), some (.val (.bl l)), none, none, none]) ps pairD (fun q => DV.str (sgn q.1)) (by omega) rfl (fun q kk hq2 hk => ?_) ?_
  · exact hk _ (by repeat' first | exact .nil | refine .eq ?_ | refine .no ?_)
  have eS : (ps.map fun q => DV.str (sgn q.1)) = (zOf ps).map fun c => DV.str (sgn c) := by
    unfold zOf
    rw [List.map_map]
    rfl
  have zl : (zOf ps).length = ps.length := List.length_map _
  rw [eS]
  refine ⟨(zOf ps).map sgn, texts_sgn (zOf ps), ?_, ?_⟩
  · rw [sum_sgn, List.length_map]
    show (zOf ps).length + (zOf ps).length * 0 ≤ 16777216
    omega
  rw [join_sgn]
  have gs : GoodSigns (SX.S (zOf ps)) := goodS (by rw [zl]; exact g.pos) (by rw [zl]; exact g.few) g.nd fun c hc => by
    obtain ⟨q, hq2, rfl⟩ := List.mem_map.mp hc
    exact g.let_ q hq2
  have gb : GoodB ps [] := ⟨g, (fun q h => nomatch h), (fun q h => nomatch h), (fun q h => nomatch h), (fun q h => nomatch h), List.nodup_nil, Nat.zero_le _⟩
  refine ⟨rfl, rfl, ps, _, rfl, .inr rfl, g, Nat.zero_le _, wtsO ps, [], _, rfl, .inr rfl, bk_good (qs := []) gb ?_⟩
  have hl : ∀ q ∈ ps, q.1 ∈ letters := fun q hq2 => g.let_ q hq2
  cases k with
  | some => exact ⟨rfl, zOf ps, rfl, gs, ps, [], _, _, rfl, ps4, hq⟩
  | every => exact ⟨rfl, zOf ps, rfl, gs, ps, [], _, _, rfl, ps4, hq⟩
  | shared => exact ⟨rfl, rfl, ps, [], l, rfl, hq⟩
  | sides => exact ⟨rfl, rfl, ps, [], [], l, rfl, hl, hq⟩
theorem cMade (T : Tx K mg) (hS : SupC P) : CalX P w K mg base CX0 13 "_law_made" (spP K fnMade) := c_made T fun _ F => ok_made F T hS
end
end Rg
namespace Rg
open PySem PySem.Spec PyProof.Rows L2
section
variable {P : Program} {w : World} {K : PySem.W.Frag} {mg : Str → Option Value} {base : Heap}
theorem toPyDA_bls : ∀ as : List Bool, toPyDA (Mm.blsD as) = some (as.map PyData.bool)
  | [] => by rw [show Mm.blsD [] = [] from rfl, toPyDA]; rfl
  | a :: r => by
    show toPyDA (DV.bl a :: Mm.blsD r) = _
    rw [toPyDA, toPyDA_bls r]
    rfl
theorem toPyD_bls (as : List Bool) : toPyD (.lst (Mm.blsD as)) = some (.list (as.map PyData.bool)) := by rw [toPyD, toPyDA_bls]; rfl
theorem sm_bls {as : List Bool} (h : as.length ≤ 1000) : SmD 60 10000000 (.list (as.map PyData.bool)) := by
  have e : ∀ d ∈ as.map PyData.bool, SmD 0 5 d := fun d hd => by
    obtain ⟨b, _, rfl⟩ := List.mem_map.mp hd
    exact (sm_bool b).d
  refine (smD_list e).mono (by decide) ?_
  rw [List.length_map]
  omega
def lastV (k : Knd) (l : Bool) : DV := match k with
  | .some => .non
  | .every => .non
  | .shared => .bl l
  | .sides => .bl l
def goalV (k : Knd) (ps : List (Nat × Nat)) : DV := match k with
  | .some => oneM (zOf ps) false
  | .every => oneM (zOf ps) true
  | .shared => .non
  | .sides => .non
def bksV (k : Knd) : List (List Rul) := match k with
  | .sides => [[], []]
  | _ => [[]]
theorem madeG_eq (k : Knd) (ps : List (Nat × Nat)) (l : Bool) : madeG k ps l = gameD k ps (bksV k) (goalV k ps) (lastV k l) := by cases k <;> rfl
def kinds : List Knd := [.some, .every, .shared, .sides]
theorem kinds_tx : ([.str "some", .str "every", .str "shared", .str "sides"] : List DV) = kinds.map fun k => DV.str k.nm := rfl
theorem kd_in : ∀ k : Knd, (k.cls, true) ∈ gamesT
  | .some => List.mem_cons_self
  | .every => List.mem_cons_of_mem _ List.mem_cons_self
  | .shared => List.mem_cons_of_mem _ (List.mem_cons_of_mem _ List.mem_cons_self)
  | .sides => List.mem_cons_of_mem _ (List.mem_cons_of_mem _ (List.mem_cons_of_mem _ List.mem_cons_self))
theorem ys_bls {ys : List DV} (h : ∀ (i : Nat) (y : DV), ys[i]? = some y → ∃ b : Bool, y = .bl b) : ∃ bs : List Bool, ys = Mm.blsD bs := by
  obtain ⟨bs, e, _⟩ := ex_map DV.bl (fun _ _ => True) ys fun i y hy => by
    obtain ⟨b, e⟩ := h i y hy
    exact ⟨b, e, True.intro⟩
  exact ⟨bs, e⟩
theorem rep_bls (b : Bool) : ∀ k : Nat, (List.replicate k [DV.bl b]).flatten = Mm.blsD (List.replicate k b)
  | 0 => rfl
  | k + 1 => by
    rw [List.replicate_succ, List.flatten_cons, rep_bls b k]
    rfl
def spLaw (K : PySem.W.Frag) : Sp := fun vs H Q _ => ∃ (a : Addr) (ns : List Int), vs = [.ref a] ∧ SqL K H a (ns.map V.int) ∧ ∀ H', Q (.bl true) H'
theorem ok_law {f : Addr} {fd : FuncData} (F : FunD K "law" "law" (defArgs s_law) (defBody s_law) (defScope s_law) [] [] f fd) (T : Tx K mg) (hS : SupC P) : FnG P w K mg base CX0 20 f fd ["_law_script"] (spLaw K) := by
  refine FunD.okG F sc_law (fun vs H Q E h => ?_) (fun cdv A outer s H vs Q E hr hG h => ?_)
  · obtain ⟨a, ns, rfl, _⟩ := h
    rfl
  · obtain ⟨a, ns, rfl, hL, k⟩ := h
    refine ⟨_, PSs.nox (pss_cons (ps_set (i := 1) sc_law.nd rfl (Or.inr rfl) (pe_cX (cPenT T) hr (by decide) (by rfl) pass0 (pa_cons (pv 0) pa_nil))) (pss_ex (ι := Addr × Hp × Hp) fun i => DSs.run (G := ⟨K, some i.1, i.2.1, i.2.2, E, []⟩) (s_cons (s_for PassesOwn.never rfl (i_any (d_tup (a_cons d_str (a_cons d_str (a_cons d_str (a_cons d_str a_nil)))))) (g_name (pg_name (i := 2) sc_law.nd rfl (Or.inl rfl)))
      (s_one (s_for PassesOwn.never rfl (i_any (d_tup (a_cons d_bl (a_cons d_bl a_nil)))) (g_name (pg_name (i := 3) sc_law.nd rfl (Or.inl rfl)))
      (s_cons (s_set (i := 4) sc_law.nd rfl (Or.inl rfl) (d_call (cGround T) hr (by decide) (by rfl) pass0 (a_cons (d_var (pv 1)) a_nil)))
      (s_cons (s_par (i := 5) (j := 6) (by rfl) sc_law.nd rfl rfl (by decide) rfl rfl (a_cons (d_call (cMade T hS) hr (by decide) (by rfl) pass0 (a_cons (d_var (pv 4)) (a_cons (d_var (pv 2)) (a_cons (d_var (pv 3)) a_nil)))) (a_cons (d_dlit (DKV.cons d_str (d_var (pv 2)) (DKV.cons d_str (d_var (pv 3)) DKV.nil))) a_nil)) (by rfl))
      (s_cons (s_if (t_not (t_tru (d_callB (c_isiF (C := "Game") (own_Game T)) (by rfl) T.f_isinstance (by decide +kernel) (a_cons (d_var (pv 5)) (a_cons (d_fast (d := .raw (.ref _)) (pe_glob (v := .ref _) (by rfl) T.g_Game rfl) (fun _ _ => .raw _)) a_nil)))))
      (s_one (s_ret d_bl)) s_nil)
      (s_cons (s_setLc (i := 7) (own := [("_law_k", 14)]) (by rfl) sc_law.nd rfl rfl (sw_true rfl rfl rfl (by decide +kernel)) (i_range1 (by rfl) T.f_range (d_call (cDrawD T) hr (by decide) (by rfl) pass0 (a_cons (d_var (pv 1)) (a_cons d_int a_nil)))) (blkOk_by (by kernel_rfl)) (fun _ _ _ _ _ => (g_name (pg_name (i := 14) sc_law.nd rfl (Or.inl rfl)))) (by decide) (fun _ _ _ _ _ => pts_nil) simT_yes (fun _ _ _ _ _ => (d_cmp b_gt (d_call (cDrawD T) hr (by decide) (by rfl) pass0 (a_cons (d_var (pv 1)) (a_cons d_int a_nil))) d_int (nomark _))))
      (s_cons (s_set (i := 8) sc_law.nd rfl (Or.inl rfl) (DF.de (f_rep (DF.de (f_lst (a_cons (d_cmp (b_eq hr.units) (d_call (cDrawD T) hr (by decide) (by rfl) pass0 (a_cons (d_var (pv 1)) (a_cons d_int a_nil))) d_int (nomark _)) a_nil))) (d_op b_add d_int (d_call (cDrawD T) hr (by decide) (by rfl) pass0 (a_cons (d_var (pv 1)) (a_cons d_int a_nil)))))))
      (s_one (s_for PassesOwn.never rfl (i_any (d_op b_add (d_call (cLists T) hr (by decide) (by rfl) pass0 (a_cons d_int a_nil)) (DF.de (f_lst (a_cons (d_var (pv 7)) (a_cons (d_var (pv 8)) a_nil)))))) (g_name (pg_name (i := 9) sc_law.nd rfl (Or.inl rfl)))
      (s_one (s_for PassesOwn.never rfl (i_any (d_tup (a_cons d_bl (a_cons d_bl a_nil)))) (g_name (pg_name (i := 10) sc_law.nd rfl (Or.inl rfl)))
      (s_cons (s_set (i := 11) sc_law.nd rfl (Or.inl rfl) (d_callB (c_reprD T.sysB hG hr.units) (by rfl) T.f_repr (by decide +kernel) (a_cons (d_var (pv 9)) a_nil)))
      (s_cons (s_set (i := 12) sc_law.nd rfl (Or.inl rfl) (DF.de (f_lst (a_cons (d_alt (d_meth (d_var (pv 5)) T.cl_Some (cSomeR T) hr (by decide) pass0 (a_cons (d_var (pv 10)) (a_cons (d_var (pv 9)) a_nil))) (d_alt (d_meth (d_var (pv 5)) T.cl_Every (cEveryR T) hr (by decide) pass0 (a_cons (d_var (pv 10)) (a_cons (d_var (pv 9)) a_nil))) (d_alt (d_meth (d_var (pv 5)) T.cl_Shared (cSharedR T) hr (by decide) pass0 (a_cons (d_var (pv 10)) (a_cons (d_var (pv 9)) a_nil))) (d_meth (d_var (pv 5)) T.cl_Sides (cSidesR T) hr (by decide) pass0 (a_cons (d_var (pv 10)) (a_cons (d_var (pv 9)) a_nil)))))) (a_cons (d_alt (d_meth (d_var (pv 5)) T.cl_Some (cSomeR T) hr (by decide) pass0 (a_cons (d_var (pv 10)) (a_cons (d_var (pv 9)) a_nil))) (d_alt (d_meth (d_var (pv 5)) T.cl_Every (cEveryR T) hr (by decide) pass0 (a_cons (d_var (pv 10)) (a_cons (d_var (pv 9)) a_nil))) (d_alt (d_meth (d_var (pv 5)) T.cl_Shared (cSharedR T) hr (by decide) pass0 (a_cons (d_var (pv 10)) (a_cons (d_var (pv 9)) a_nil))) (d_meth (d_var (pv 5)) T.cl_Sides (cSidesR T) hr (by decide) pass0 (a_cons (d_var (pv 10)) (a_cons (d_var (pv 9)) a_nil)))))) a_nil)))))
      (s_cons (s_set (i := 13) sc_law.nd rfl (Or.inl rfl) (d_call (cReads T) hr (by decide) (by rfl) pass0 (a_cons (d_var (pv 6)) (a_cons (d_var (pv 10)) (a_cons (d_var (pv 9)) a_nil)))))
      (s_one (s_if (DW.t (w_or (t_cmp (b_ne hr.units) (d_callB (c_reprD T.sysB hG hr.units) (by rfl) T.f_repr (by decide +kernel) (a_cons (d_var (pv 12)) a_nil)) (d_callB (c_reprD T.sysB hG hr.units) (by rfl) T.f_repr (by decide +kernel) (a_cons (DF.de (f_lst (a_cons (d_var (pv 13)) (a_cons (d_var (pv 13)) a_nil)))) a_nil)) (nomark _)) (w_or1 (t_cmp (b_ne hr.units) (d_callB (c_reprD T.sysB hG hr.units) (by rfl) T.f_repr (by decide +kernel) (a_cons (d_var (pv 9)) a_nil)) (d_var (pv 11)) (nomark _)))))
      (s_one (s_ret d_bl)) s_nil)))))))))))))))))
      (s_one (s_ret d_bl))))), ?_⟩
    refine ⟨_, rfl, a, ns, H, rfl, hL, fun _ _ e => e, fun D1 H1 p st1 pen1 => ?_⟩
    refine ⟨(p, D1, H1), ?_⟩
    refine ⟨D1, ⟨[some (.val (.raw (.ref a))), some (.val (.raw (.ref p))), none, none, none, none, none, none, none, none, none, none, none, none, none], 900000⟩, ends (fun d _ => d = .bl true) (fun _ _ => False), ⟨StepT.refl st1.dh, ⟨[], ?_⟩, fun q hq => by simp at hq, fun q e => by cases e; exact pen1, fun q e => by cases e; exact pen1.there, fun q hq => by simp at hq⟩, ?_, ⟨fun D' σ' H' ρ' _ rel q => (nomatch (show DV.non = DV.bl true from q)), fun D' H' v d n' s pk rv q => ?_, fun _ _ _ _ _ _ z => (show False from z).elim, fun _ _ _ _ _ _ z => (show False from z).elim⟩, ex_never⟩
    · exact .val (.raw _) (.val (.raw _) (.no (.no (.no (.no (.no (.no (.no (.no (.no (.no (.no (.no (.no .nil))))))))))))))
    · refine ⟨(show 4 ≤ sizeLine by decide), ?_⟩
      refine ⟨fun i ρ => ∃ m, 900000 - 600 * i ≤ m ∧ ρ = ⟨[some (.val (.raw (.ref a))), some (.val (.raw (.ref p))), none, none, none, none, none, none, none, none, none, none, none, none, none], m⟩, ⟨900000, Nat.le_refl _, rfl⟩, ?_, ?_⟩
      · rintro i e ρ he ⟨m, hm, rfl⟩
        rw [kinds_tx, List.getElem?_map] at he
        obtain ⟨kd, hk, rfl⟩ : ∃ kd, kinds[i]? = some kd ∧ DV.str kd.nm = e := by
          cases q : kinds[i]? with
          | none => rw [q] at he; cases he
          | some c => rw [q] at he; exact ⟨c, rfl, Option.some.inj he⟩
        have hi : i < 4 := (List.getElem?_eq_some_iff.mp hk).1
        refine ⟨(show 2 ≤ sizeLine by decide), ?_⟩
        refine ⟨fun j ρ => ∃ m2, m - 200 * j ≤ m2 ∧ ρ = ⟨[some (.val (.raw (.ref a))), some (.val (.raw (.ref p))), some (.val (.str kd.nm)), none, none, none, none, none, none, none, none, none, none, none, none], m2⟩, ⟨m, Nat.le_refl _, rfl⟩, ?_, ?_⟩
        · rintro j e2 ρ2 he2 ⟨m2, hm2, rfl⟩
          have hj : j < 2 := (List.getElem?_eq_some_iff.mp he2).1
          obtain ⟨l, rfl⟩ : ∃ l : Bool, e2 = .bl l := by
            have := List.mem_of_getElem? he2
            simp only [List.mem_cons, List.not_mem_nil, or_false] at this
            rcases this with rfl | rfl
            · exact ⟨true, rfl⟩
            · exact ⟨false, rfl⟩
          refine ⟨p, rfl, rfl, (show 6 ≤ m2 by omega), fun ps m3 g hm3 => ?_⟩
          have hm3 : m2 - 5 ≤ m3 := hm3
          refine ⟨ps, kd, l, rfl, g, ?_⟩
          rw [madeG_eq]
          refine ⟨rfl, .inl ⟨(kd.cls, true), kd_in kd, (show decide (kd.cls = kd.cls) = true from decide_eq_true rfl), ?_⟩⟩
          refine ⟨p, 41, rfl, rfl, (show 1 ≤ m3 by omega), by decide, by decide, fun r r0 r1 => ?_⟩
          refine ⟨by omega, by omega, ?_⟩
          have rl : (rangeD 0 r.toNat).length = r.toNat := rangeD_len
          refine lc_ink (vs := [14]) (ds := rangeD 0 r.toNat) (sl := [some (.val (.raw (.ref a))), some (.val (.raw (.ref p))), some (.val (.str kd.nm)), some (.val (.bl l)), some (.val (.lst (ps.map pairD))), some (.val (gameD kd ps (bksV kd) (goalV kd ps) (lastV kd l))), some (.val (planD kd l)), none, none, none, none, none, none, none, none]) (n := m3 - 1) 1 (fun _ y => ∃ b : Bool, y = .bl b) (by rw [rl]; omega) rfl (by rw [rl]; omega) (fun i2 d2 m4 kk _ hm4 hk2 => ?_) fun ys hl2 hy => ?_
          · refine ⟨p, 8, rfl, rfl, hm4, by decide, by decide, fun r2 r20 r21 => ?_⟩
            exact hk2 _ _ _ ⟨_, rfl⟩ (Nat.le_refl _) (.eq (.eq (.eq (.eq (.eq (.eq (.eq (.no (.no (.no (.no (.no (.no (.no (.no .nil)))))))))))))))
          rw [rl] at hl2 ⊢
          obtain ⟨fs, rfl⟩ := ys_bls hy
          rw [len_blsD] at hl2
          refine ⟨p, 2, rfl, rfl, (show 1 ≤ m3 - 1 - 1 * r.toNat by omega), by decide, by decide, fun r2 r20 r21 => ?_⟩
          refine ⟨(show 1 ≤ sizeLine by decide), p, 40, rfl, rfl, (show 1 ≤ m3 - 1 - 1 * r.toNat - 1 by omega), by decide, by decide, fun r3 r30 r31 => ?_⟩
          have hk3 : (1 + r3).toNat ≤ 40 := by omega
          refine ⟨by omega, by omega, (show 1 * (1 + r3).toNat ≤ sizeLine from bigN (by omega)), ?_⟩
          rw [rep_bls]
          obtain ⟨ss, hss⟩ : ∃ ss : List Bool, ss = List.replicate (1 + r3).toNat (decide (r2 = 0) ^^ false) := ⟨_, rfl⟩
          have sl : ss.length ≤ 40 := by rw [hss, List.length_replicate]; exact hk3
          rw [← hss]
          obtain ⟨m6, hm6⟩ : ∃ m6, m6 = m3 - 1 - 1 * r.toNat - 1 - 1 := ⟨_, rfl⟩
          refine ⟨rfl, fun xss xl h5 => ?_⟩
          refine ⟨(show 2 ≤ sizeLine by decide), bigN (by rw [List.length_map]; show xss.length + 2 ≤ _; omega), ?_⟩
          have el : xss.map blL ++ [blL fs, blL ss] = (xss ++ [fs, ss]).map blL := by rw [List.map_append]; rfl
          show ∃ I : Nat → Ps → Prop, I 0 _ ∧ (∀ (i : Nat) (d : DV) (ρ2 : Ps), (xss.map blL ++ [blL fs, blL ss])[i]? = some d → I i ρ2 → _) ∧ ∀ ρ2 : Ps, I (xss.map blL ++ [blL fs, blL ss]).length ρ2 → _
          rw [el]
          have yl : ∀ as ∈ xss ++ [fs, ss], as.length ≤ 1000 := fun as ha => by
            rcases List.mem_append.mp ha with ha | ha
            · have := h5 as ha
              omega
            · simp only [List.mem_cons, List.not_mem_nil, or_false] at ha
              rcases ha with rfl | rfl <;> omega
          obtain ⟨yss, hy2⟩ : ∃ yss, yss = xss ++ [fs, ss] := ⟨_, rfl⟩
          rw [← hy2] at yl ⊢
          rw [← hm6]
          refine ⟨fun _ ρ => ∃ v9 v10 v11 v12 v13 v14 : Option SV, ρ = ⟨[some (.val (.raw (.ref a))), some (.val (.raw (.ref p))), some (.val (.str kd.nm)), some (.val (.bl l)), some (.val (.lst (ps.map pairD))), some (.val (gameD kd ps (bksV kd) (goalV kd ps) (lastV kd l))), some (.val (planD kd l)), some (.val (.lst (Mm.blsD fs))), some (.val (.lst (Mm.blsD ss))), v9, v10, v11, v12, v13, v14], m6⟩, ⟨none, none, none, none, none, none, rfl⟩, ?_, ?_⟩
          · rintro q dq ρ3 hdq ⟨v9, v10, v11, v12, v13, v14, rfl⟩
            rw [List.getElem?_map] at hdq
            obtain ⟨as, has, rfl⟩ : ∃ as, yss[q]? = some as ∧ blL as = dq := by
              cases z : yss[q]? with
              | none => rw [z] at hdq; cases hdq
              | some c => rw [z] at hdq; exact ⟨c, rfl, Option.some.inj hdq⟩
            have al := yl as (List.mem_of_getElem? has)
            refine ⟨(show 2 ≤ sizeLine by decide), ?_⟩
            refine ⟨fun _ ρ => ∃ v10 v11 v12 v13 v14 : Option SV, ρ = ⟨[some (.val (.raw (.ref a))), some (.val (.raw (.ref p))), some (.val (.str kd.nm)), some (.val (.bl l)), some (.val (.lst (ps.map pairD))), some (.val (gameD kd ps (bksV kd) (goalV kd ps) (lastV kd l))), some (.val (planD kd l)), some (.val (.lst (Mm.blsD fs))), some (.val (.lst (Mm.blsD ss))), some (.val (blL as)), v10, v11, v12, v13, v14], m6⟩, ⟨v10, v11, v12, v13, v14, rfl⟩, ?_, ?_⟩
            · rintro q2 dq2 ρ4 hdq2 ⟨w10, v11, v12, v13, v14, rfl⟩
              obtain ⟨gb, rfl⟩ : ∃ gb : Bool, dq2 = .bl gb := by
                have := List.mem_of_getElem? hdq2
                simp only [List.mem_cons, List.not_mem_nil, or_false] at this
                rcases this with rfl | rfl
                · exact ⟨true, rfl⟩
                · exact ⟨false, rfl⟩
              refine ⟨_, toPyD_bls as, sm_bls al, ?_⟩
              have e0 : ∀ x : Str, (decide (x = x) ^^ true) = false := fun x => by rw [decide_eq_true rfl]; rfl
              have hf : decide (("reads" : Str) ∉ fsG) = true := by decide +kernel
              cases kd with
              | some =>
                refine .inl ⟨rfl, hf, ps, bksV .some, goalV .some ps, lastV .some l, l, gb, as, rfl, al, True.intro, .inl ⟨rfl, hf, ps, bksV .some, goalV .some ps, lastV .some l, l, gb, as, rfl, al, True.intro, ?_⟩⟩
                refine ⟨(show 2 ≤ sizeLine by decide), ?_⟩
                refine ⟨.some, l, gb, as, rfl, al, ?_⟩
                refine ⟨_, toPyD_bls [readsB .some l gb as, readsB .some l gb as], sm_bls (by show 2 ≤ 1000; decide), ?_⟩
                refine ⟨(show 2 ≤ sizeLine by decide), _, toPyD_bls [readsB .some l gb as, readsB .some l gb as], sm_bls (by show 2 ≤ 1000; decide), ?_⟩
                refine ite_F (e0 _) ?_
                refine ⟨_, toPyD_bls as, sm_bls al, ?_⟩
                refine ite_F (e0 _) ?_
                exact ⟨_, m6, (by repeat' first | exact .nil | refine .eq ?_ | refine .no ?_), Nat.le_refl _, _, _, _, _, _, rfl⟩
              | every =>
                refine .inr (.inl ⟨rfl, hf, ps, bksV .every, goalV .every ps, lastV .every l, l, gb, as, rfl, al, True.intro, .inr (.inl ⟨rfl, hf, ps, bksV .every, goalV .every ps, lastV .every l, l, gb, as, rfl, al, True.intro, ?_⟩)⟩)
                refine ⟨(show 2 ≤ sizeLine by decide), ?_⟩
                refine ⟨.every, l, gb, as, rfl, al, ?_⟩
                refine ⟨_, toPyD_bls [readsB .every l gb as, readsB .every l gb as], sm_bls (by show 2 ≤ 1000; decide), ?_⟩
                refine ⟨(show 2 ≤ sizeLine by decide), _, toPyD_bls [readsB .every l gb as, readsB .every l gb as], sm_bls (by show 2 ≤ 1000; decide), ?_⟩
                refine ite_F (e0 _) ?_
                refine ⟨_, toPyD_bls as, sm_bls al, ?_⟩
                refine ite_F (e0 _) ?_
                exact ⟨_, m6, (by repeat' first | exact .nil | refine .eq ?_ | refine .no ?_), Nat.le_refl _, _, _, _, _, _, rfl⟩
              | shared =>
                refine .inr (.inr (.inl ⟨rfl, hf, ps, bksV .shared, goalV .shared ps, lastV .shared l, l, gb, as, rfl, al, rfl, .inr (.inr (.inl ⟨rfl, hf, ps, bksV .shared, goalV .shared ps, lastV .shared l, l, gb, as, rfl, al, rfl, ?_⟩))⟩))
                refine ⟨(show 2 ≤ sizeLine by decide), ?_⟩
                refine ⟨.shared, l, gb, as, rfl, al, ?_⟩
                refine ⟨_, toPyD_bls [readsB .shared l gb as, readsB .shared l gb as], sm_bls (by show 2 ≤ 1000; decide), ?_⟩
                refine ⟨(show 2 ≤ sizeLine by decide), _, toPyD_bls [readsB .shared l gb as, readsB .shared l gb as], sm_bls (by show 2 ≤ 1000; decide), ?_⟩
                refine ite_F (e0 _) ?_
                refine ⟨_, toPyD_bls as, sm_bls al, ?_⟩
                refine ite_F (e0 _) ?_
                exact ⟨_, m6, (by repeat' first | exact .nil | refine .eq ?_ | refine .no ?_), Nat.le_refl _, _, _, _, _, _, rfl⟩
              | sides =>
                refine .inr (.inr (.inr ⟨rfl, hf, ps, bksV .sides, goalV .sides ps, lastV .sides l, l, gb, as, rfl, al, rfl, .inr (.inr (.inr ⟨rfl, hf, ps, bksV .sides, goalV .sides ps, lastV .sides l, l, gb, as, rfl, al, rfl, ?_⟩))⟩))
                refine ⟨(show 2 ≤ sizeLine by decide), ?_⟩
                refine ⟨.sides, l, gb, as, rfl, al, ?_⟩
                refine ⟨_, toPyD_bls [readsB .sides l gb as, readsB .sides l gb as], sm_bls (by show 2 ≤ 1000; decide), ?_⟩
                refine ⟨(show 2 ≤ sizeLine by decide), _, toPyD_bls [readsB .sides l gb as, readsB .sides l gb as], sm_bls (by show 2 ≤ 1000; decide), ?_⟩
                refine ite_F (e0 _) ?_
                refine ⟨_, toPyD_bls as, sm_bls al, ?_⟩
                refine ite_F (e0 _) ?_
                exact ⟨_, m6, (by repeat' first | exact .nil | refine .eq ?_ | refine .no ?_), Nat.le_refl _, _, _, _, _, _, rfl⟩
            · rintro ρ4 ⟨w10, v11, v12, v13, v14, rfl⟩
              exact ⟨_, m6, (.eq (.eq (.eq (.eq (.eq (.eq (.eq (.eq (.eq (.no (.no (.no (.no (.no (.no .nil))))))))))))))), Nat.le_refl _, none, none, none, none, none, none, rfl⟩
          · rintro ρ3 ⟨v9, v10, v11, v12, v13, v14, rfl⟩
            exact ⟨_, m6, (.eq (.eq (.eq (.no (.no (.no (.no (.no (.no (.no (.no (.no (.no (.no (.no .nil))))))))))))))), Nat.le_refl _, m6, by omega, rfl⟩
        · rintro ρ2 ⟨m2, hm2, rfl⟩
          have hm2 : m - 200 * 2 ≤ m2 := hm2
          exact ⟨_, m2, (.eq (.eq (.no (.no (.no (.no (.no (.no (.no (.no (.no (.no (.no (.no (.no .nil))))))))))))))), Nat.le_refl _, m2, by omega, rfl⟩
      · rintro ρ ⟨m, hm, rfl⟩
        exact rfl
    · have e : d = .bl true := q
      subst e
      rw [rv_bl rv]
      exact k H'
end
end Rg
namespace Rg
open PySem PySem.Spec PyProof.Rows L2
theorem hsays {w : World} {K : PySem.W.Frag} {h : Heap} {mg : Str → Option Value} (X : K.In h) (G : h.Ns mainGlobals mg) (c : He.SaysX hfacts hdefs [] [] hmore w h K) (cc : He.SaysC hcms K) (cs : He.SaysS hsups K) : Tx K mg where
  f_len := He.free_ok X G (c.t.d.fact 0 (f := .free "len") rfl)
  f_int := He.free_ok X G (c.t.d.fact 1 (f := .free "int") rfl)
  f_abs := He.free_ok X G (c.t.d.fact 2 (f := .free "abs") rfl)
  f_isinstance := He.free_ok X G (c.t.d.fact 3 (f := .free "isinstance") rfl)
  f_str := He.free_ok X G (c.t.d.fact 4 (f := .free "str") rfl)
  f_bool := He.free_ok X G (c.t.d.fact 5 (f := .free "bool") rfl)
  f_list := He.free_ok X G (c.t.d.fact 6 (f := .free "list") rfl)
  f_tuple := He.free_ok X G (c.t.d.fact 7 (f := .free "tuple") rfl)
  f_all := He.free_ok X G (c.t.d.fact 8 (f := .free "all") rfl)
  f_any := He.free_ok X G (c.t.d.fact 9 (f := .free "any") rfl)
  f_range := He.free_ok X G (c.t.d.fact 10 (f := .free "range") rfl)
  f_repr := He.free_ok X G (c.t.d.fact 11 (f := .free "repr") rfl)
  f_enumerate := He.free_ok X G (c.t.d.fact 12 (f := .free "enumerate") rfl)
  f_dict := He.free_ok X G (c.t.d.fact 13 (f := .free "dict") rfl)
  f_sum := He.free_ok X G (c.t.d.fact 14 (f := .free "sum") rfl)
  f_set := He.free_ok X G (c.t.d.fact 15 (f := .free "set") rfl)
  f_super := He.free_ok X G (c.t.d.fact 16 (f := .free "super") rfl)
  g_LETTERS := let ⟨t, e⟩ := He.str_ok X G (c.t.d.fact 17 (f := .str "LETTERS" "abcdefghijklmnopqrstuvwxyz") rfl); ⟨_, e, t, rfl⟩
  g_MOST_SIGNS := let ⟨t, e⟩ := He.int_ok X G (c.t.d.fact 18 (f := .int "MOST_SIGNS" 4) rfl); ⟨_, e, t, rfl⟩
  g_MOST_WEIGHT := let ⟨t, e⟩ := He.int_ok X G (c.t.d.fact 19 (f := .int "MOST_WEIGHT" 9) rfl); ⟨_, e, t, rfl⟩
  g_MOST_STRETCH := let ⟨t, e⟩ := He.int_ok X G (c.t.d.fact 20 (f := .int "MOST_STRETCH" 4) rfl); ⟨_, e, t, rfl⟩
  g_MOST_RULES := let ⟨t, e⟩ := He.int_ok X G (c.t.d.fact 21 (f := .int "MOST_RULES" 8) rfl); ⟨_, e, t, rfl⟩
  g_Weights := He.glo_ok X G (c.t.d.fact 22 (f := .glo "Weights") rfl)
  cl_Weights := He.cls_ok (c.t.d.fact 23 (f := .cls "Weights") rfl)
  mk_Weights := He.mkr_ok (c.t.d.fact 24 (f := .mkr "Weights") rfl)
  n_Weights_weight_by := He.noat_ok (c.t.d.fact 25 (f := .noat "Weights" "weight_by") rfl)
  n_Weights_pairs := He.noat_ok (c.t.d.fact 26 (f := .noat "Weights" "pairs") rfl)
  n_Weights_signs := He.noat_ok (c.t.d.fact 27 (f := .noat "Weights" "signs") rfl)
  g_Rule := He.glo_ok X G (c.t.d.fact 28 (f := .glo "Rule") rfl)
  cl_Rule := He.cls_ok (c.t.d.fact 29 (f := .cls "Rule") rfl)
  mk_Rule := He.mkr_ok (c.t.d.fact 30 (f := .mkr "Rule") rfl)
  n_Rule_old := He.noat_ok (c.t.d.fact 31 (f := .noat "Rule" "old") rfl)
  n_Rule_new := He.noat_ok (c.t.d.fact 32 (f := .noat "Rule" "new") rfl)
  n_Rule_left := He.noat_ok (c.t.d.fact 33 (f := .noat "Rule" "left") rfl)
  n_Rule_right := He.noat_ok (c.t.d.fact 34 (f := .noat "Rule" "right") rfl)
  g_Book := He.glo_ok X G (c.t.d.fact 35 (f := .glo "Book") rfl)
  cl_Book := He.cls_ok (c.t.d.fact 36 (f := .cls "Book") rfl)
  mk_Book := He.mkr_ok (c.t.d.fact 37 (f := .mkr "Book") rfl)
  n_Book_weights := He.noat_ok (c.t.d.fact 38 (f := .noat "Book" "weights") rfl)
  n_Book_rules := He.noat_ok (c.t.d.fact 39 (f := .noat "Book" "rules") rfl)
  g_Machine := He.glo_ok X G (c.t.d.fact 40 (f := .glo "Machine") rfl)
  cl_Machine := He.cls_ok (c.t.d.fact 41 (f := .cls "Machine") rfl)
  mk_Machine := He.mkr_ok (c.t.d.fact 42 (f := .mkr "Machine") rfl)
  n_Machine_signs := He.noat_ok (c.t.d.fact 43 (f := .noat "Machine" "signs") rfl)
  n_Machine_steps := He.noat_ok (c.t.d.fact 44 (f := .noat "Machine" "steps") rfl)
  n_Machine_told := He.noat_ok (c.t.d.fact 45 (f := .noat "Machine" "told") rfl)
  g_Game := He.glo_ok X G (c.t.d.fact 46 (f := .glo "Game") rfl)
  cl_Game := He.cls_ok (c.t.d.fact 47 (f := .cls "Game") rfl)
  g_Alone := He.glo_ok X G (c.t.d.fact 48 (f := .glo "Alone") rfl)
  cl_Alone := He.cls_ok (c.t.d.fact 49 (f := .cls "Alone") rfl)
  g_Duel := He.glo_ok X G (c.t.d.fact 50 (f := .glo "Duel") rfl)
  cl_Duel := He.cls_ok (c.t.d.fact 51 (f := .cls "Duel") rfl)
  g_Some := He.glo_ok X G (c.t.d.fact 52 (f := .glo "Some") rfl)
  cl_Some := He.cls_ok (c.t.d.fact 53 (f := .cls "Some") rfl)
  mk_Some := He.mkr_ok (c.t.d.fact 54 (f := .mkr "Some") rfl)
  n_Some_books := He.noat_ok (c.t.d.fact 55 (f := .noat "Some" "books") rfl)
  n_Some_weights := He.noat_ok (c.t.d.fact 56 (f := .noat "Some" "weights") rfl)
  n_Some_seats := He.noat_ok (c.t.d.fact 57 (f := .noat "Some" "seats") rfl)
  n_Some_goal := He.noat_ok (c.t.d.fact 58 (f := .noat "Some" "goal") rfl)
  n_Some_last := He.noat_ok (c.t.d.fact 59 (f := .noat "Some" "last") rfl)
  g_Every := He.glo_ok X G (c.t.d.fact 60 (f := .glo "Every") rfl)
  cl_Every := He.cls_ok (c.t.d.fact 61 (f := .cls "Every") rfl)
  mk_Every := He.mkr_ok (c.t.d.fact 62 (f := .mkr "Every") rfl)
  n_Every_books := He.noat_ok (c.t.d.fact 63 (f := .noat "Every" "books") rfl)
  n_Every_weights := He.noat_ok (c.t.d.fact 64 (f := .noat "Every" "weights") rfl)
  n_Every_seats := He.noat_ok (c.t.d.fact 65 (f := .noat "Every" "seats") rfl)
  n_Every_goal := He.noat_ok (c.t.d.fact 66 (f := .noat "Every" "goal") rfl)
  n_Every_last := He.noat_ok (c.t.d.fact 67 (f := .noat "Every" "last") rfl)
  g_Shared := He.glo_ok X G (c.t.d.fact 68 (f := .glo "Shared") rfl)
  cl_Shared := He.cls_ok (c.t.d.fact 69 (f := .cls "Shared") rfl)
  mk_Shared := He.mkr_ok (c.t.d.fact 70 (f := .mkr "Shared") rfl)
  n_Shared_books := He.noat_ok (c.t.d.fact 71 (f := .noat "Shared" "books") rfl)
  n_Shared_weights := He.noat_ok (c.t.d.fact 72 (f := .noat "Shared" "weights") rfl)
  n_Shared_seats := He.noat_ok (c.t.d.fact 73 (f := .noat "Shared" "seats") rfl)
  n_Shared_goal := He.noat_ok (c.t.d.fact 74 (f := .noat "Shared" "goal") rfl)
  n_Shared_last := He.noat_ok (c.t.d.fact 75 (f := .noat "Shared" "last") rfl)
  g_Sides := He.glo_ok X G (c.t.d.fact 76 (f := .glo "Sides") rfl)
  cl_Sides := He.cls_ok (c.t.d.fact 77 (f := .cls "Sides") rfl)
  mk_Sides := He.mkr_ok (c.t.d.fact 78 (f := .mkr "Sides") rfl)
  n_Sides_books := He.noat_ok (c.t.d.fact 79 (f := .noat "Sides" "books") rfl)
  n_Sides_weights := He.noat_ok (c.t.d.fact 80 (f := .noat "Sides" "weights") rfl)
  n_Sides_seats := He.noat_ok (c.t.d.fact 81 (f := .noat "Sides" "seats") rfl)
  n_Sides_goal := He.noat_ok (c.t.d.fact 82 (f := .noat "Sides" "goal") rfl)
  n_Sides_last := He.noat_ok (c.t.d.fact 83 (f := .noat "Sides" "last") rfl)
  g_GameError := He.glo_ok X G (c.t.d.fact 84 (f := .glo "GameError") rfl)
  g_BadInput := He.glo_ok X G (c.t.d.fact 85 (f := .glo "BadInput") rfl)
  g_NoAnswer := He.glo_ok X G (c.t.d.fact 86 (f := .glo "NoAnswer") rfl)
  g_BadSigns := He.glo_ok X G (c.t.d.fact 87 (f := .glo "BadSigns") rfl)
  g_BadRow := He.glo_ok X G (c.t.d.fact 88 (f := .glo "BadRow") rfl)
  g_BadRule := He.glo_ok X G (c.t.d.fact 89 (f := .glo "BadRule") rfl)
  g_BadBook := He.glo_ok X G (c.t.d.fact 90 (f := .glo "BadBook") rfl)
  g_Heavier := He.glo_ok X G (c.t.d.fact 91 (f := .glo "Heavier") rfl)
  g_Unlessened := He.glo_ok X G (c.t.d.fact 92 (f := .glo "Unlessened") rfl)
  g_BadMove := He.glo_ok X G (c.t.d.fact 93 (f := .glo "BadMove") rfl)
  g_BadMachine := He.glo_ok X G (c.t.d.fact 94 (f := .glo "BadMachine") rfl)
  g_BadGame := He.glo_ok X G (c.t.d.fact 95 (f := .glo "BadGame") rfl)
  g_OtherSigns := He.glo_ok X G (c.t.d.fact 96 (f := .glo "OtherSigns") rfl)
  g_BadNumber := He.glo_ok X G (c.t.d.fact 97 (f := .glo "BadNumber") rfl)
  g_BadText := He.glo_ok X G (c.t.d.fact 98 (f := .glo "BadText") rfl)
  g_TooMany := He.glo_ok X G (c.t.d.fact 99 (f := .glo "TooMany") rfl)
  g_draw := He.glo_ok X G (c.t.d.fact 100 (f := .glo "_law_draw") rfl)
  d_draw := c.t.d.def_ 0 (d := hd_draw) rfl
  g_pen := He.glo_ok X G (c.t.d.fact 101 (f := .glo "_law_pen") rfl)
  d_pen := c.t.d.def_ 1 (d := hd_pen) rfl
  g_pick := He.glo_ok X G (c.t.d.fact 102 (f := .glo "_law_pick") rfl)
  d_pick := c.t.d.def_ 2 (d := hd_pick) rfl
  g_isInt := He.glo_ok X G (c.t.d.fact 103 (f := .glo "is_integer") rfl)
  d_isInt := c.t.d.def_ 3 (d := hd_isInt) rfl
  g_isLetter := He.glo_ok X G (c.t.d.fact 104 (f := .glo "is_letter") rfl)
  d_isLetter := c.t.d.def_ 4 (d := hd_isLetter) rfl
  g_isRow := He.glo_ok X G (c.t.d.fact 105 (f := .glo "is_row") rfl)
  d_isRow := c.t.d.def_ 5 (d := hd_isRow) rfl
  g_needRow := He.glo_ok X G (c.t.d.fact 106 (f := .glo "need_row") rfl)
  d_needRow := c.t.d.def_ 6 (d := hd_needRow) rfl
  g_weightOf := He.glo_ok X G (c.t.d.fact 107 (f := .glo "weight_of") rfl)
  d_weightOf := c.t.d.def_ 7 (d := hd_weightOf) rfl
  g_isStretch := He.glo_ok X G (c.t.d.fact 108 (f := .glo "is_stretch") rfl)
  d_isStretch := c.t.d.def_ 8 (d := hd_isStretch) rfl
  m_bget := He.meth_ok (c.t.d.fact 109 (f := .meth "Book" "__getitem__") rfl)
  d_bget := c.t.d.def_ 9 (d := hd_bget) rfl
  d_winit := c.t.d.def_ 10 (d := hd_winit) rfl
  m_wlen := He.meth_ok (c.t.d.fact 110 (f := .meth "Weights" "__len__") rfl)
  d_wlen := c.t.d.def_ 11 (d := hd_wlen) rfl
  m_wget := He.meth_ok (c.t.d.fact 111 (f := .meth "Weights" "__getitem__") rfl)
  d_wget := c.t.d.def_ 12 (d := hd_wget) rfl
  m_weq := He.meth_ok (c.t.d.fact 112 (f := .meth "Weights" "__eq__") rfl)
  d_weq := c.t.d.def_ 13 (d := hd_weq) rfl
  d_rinit := c.t.d.def_ 14 (d := hd_rinit) rfl
  m_req := He.meth_ok (c.t.d.fact 113 (f := .meth "Rule" "__eq__") rfl)
  d_req := c.t.d.def_ 15 (d := hd_req) rfl
  g_lighter := He.glo_ok X G (c.t.d.fact 114 (f := .glo "need_lighter") rfl)
  d_lighter := c.t.d.def_ 16 (d := hd_lighter) rfl
  d_binit := c.t.d.def_ 17 (d := hd_binit) rfl
  g_isWhole := He.glo_ok X G (c.t.d.fact 115 (f := .glo "is_whole") rfl)
  d_isWhole := c.t.d.def_ 18 (d := hd_isWhole) rfl
  g_needSigns := He.glo_ok X G (c.t.d.fact 116 (f := .glo "need_signs") rfl)
  d_needSigns := c.t.d.def_ 19 (d := hd_needSigns) rfl
  g_isStep := He.glo_ok X G (c.t.d.fact 117 (f := .glo "is_step") rfl)
  d_isStep := c.t.d.def_ 20 (d := hd_isStep) rfl
  d_init := c.t.d.def_ 21 (d := hd_init) rfl
  g_needBook := He.glo_ok X G (c.t.d.fact 118 (f := .glo "need_book") rfl)
  d_needBook := c.t.d.def_ 22 (d := hd_needBook) rfl
  g_needLast := He.glo_ok X G (c.t.d.fact 119 (f := .glo "need_last") rfl)
  d_needLast := c.t.d.def_ 23 (d := hd_needLast) rfl
  d_ginit := c.t.d.def_ 24 (d := hd_ginit) rfl
  m_somer := He.meth_ok (c.t.d.fact 120 (f := .meth "Some" "reads") rfl)
  d_somer := c.t.d.def_ 25 (d := hd_somer) rfl
  m_everyr := He.meth_ok (c.t.d.fact 121 (f := .meth "Every" "reads") rfl)
  d_everyr := c.t.d.def_ 26 (d := hd_everyr) rfl
  m_duelr := He.meth_ok (c.t.d.fact 122 (f := .meth "Duel" "reads") rfl)
  d_duelr := c.t.d.def_ 27 (d := hd_duelr) rfl
  g_ground := He.glo_ok X G (c.t.d.fact 123 (f := .glo "_law_ground") rfl)
  d_ground := c.t.d.def_ 28 (d := hd_ground) rfl
  g_reads := He.glo_ok X G (c.t.d.fact 124 (f := .glo "_law_reads") rfl)
  d_reads := c.t.d.def_ 29 (d := hd_reads) rfl
  g_lists := He.glo_ok X G (c.t.d.fact 125 (f := .glo "_law_lists") rfl)
  d_lists := c.t.d.def_ 30 (d := hd_lists) rfl
  g_made := He.glo_ok X G (c.t.d.fact 126 (f := .glo "_law_made") rfl)
  d_made := c.t.d.def_ 31 (d := hd_made) rfl
  g_law := He.glo_ok X G (c.t.d.fact 127 (f := .glo "law") rfl)
  d_law := c.t.d.def_ 32 (d := hd_law) rfl
  d_xBadSigns := c.t.d.def_ 33 (d := hd_xBadSigns) rfl
  d_xBadRule := c.t.d.def_ 34 (d := hd_xBadRule) rfl
  d_xBadBook := c.t.d.def_ 35 (d := hd_xBadBook) rfl
  d_xHeavier := c.t.d.def_ 36 (d := hd_xHeavier) rfl
  d_xUnlessened := c.t.d.def_ 37 (d := hd_xUnlessened) rfl
  d_xBadMachine := c.t.d.def_ 38 (d := hd_xBadMachine) rfl
  d_xBadGame := c.t.d.def_ 39 (d := hd_xBadGame) rfl
  d_xOtherSigns := c.t.d.def_ 40 (d := hd_xOtherSigns) rfl
  getIn_Book := (Bool.and_eq_true_iff.mp (Bool.and_eq_true_iff.mp c.more).1).1
  getIn_Weights := (Bool.and_eq_true_iff.mp (Bool.and_eq_true_iff.mp (Bool.and_eq_true_iff.mp c.more).1).2).1
  sysB := (Bool.and_eq_true_iff.mp (Bool.and_eq_true_iff.mp (Bool.and_eq_true_iff.mp (Bool.and_eq_true_iff.mp c.more).1).2).2).1
  first_Book := (Bool.and_eq_true_iff.mp (Bool.and_eq_true_iff.mp (Bool.and_eq_true_iff.mp (Bool.and_eq_true_iff.mp (Bool.and_eq_true_iff.mp c.more).1).2).2).2).1
  cnB := (Bool.and_eq_true_iff.mp (Bool.and_eq_true_iff.mp (Bool.and_eq_true_iff.mp (Bool.and_eq_true_iff.mp (Bool.and_eq_true_iff.mp (Bool.and_eq_true_iff.mp c.more).1).2).2).2).2).1
  ctB := (Bool.and_eq_true_iff.mp (Bool.and_eq_true_iff.mp (Bool.and_eq_true_iff.mp (Bool.and_eq_true_iff.mp (Bool.and_eq_true_iff.mp (Bool.and_eq_true_iff.mp (Bool.and_eq_true_iff.mp c.more).1).2).2).2).2).2).1
  ob_Weights := (Bool.and_eq_true_iff.mp (Bool.and_eq_true_iff.mp (Bool.and_eq_true_iff.mp (Bool.and_eq_true_iff.mp (Bool.and_eq_true_iff.mp (Bool.and_eq_true_iff.mp (Bool.and_eq_true_iff.mp (Bool.and_eq_true_iff.mp c.more).1).2).2).2).2).2).2).1
  ca_Weights := (Bool.and_eq_true_iff.mp (Bool.and_eq_true_iff.mp (Bool.and_eq_true_iff.mp (Bool.and_eq_true_iff.mp (Bool.and_eq_true_iff.mp (Bool.and_eq_true_iff.mp (Bool.and_eq_true_iff.mp (Bool.and_eq_true_iff.mp (Bool.and_eq_true_iff.mp c.more).1).2).2).2).2).2).2).2).1
  ki_Weights := (Bool.and_eq_true_iff.mp (Bool.and_eq_true_iff.mp (Bool.and_eq_true_iff.mp (Bool.and_eq_true_iff.mp (Bool.and_eq_true_iff.mp (Bool.and_eq_true_iff.mp (Bool.and_eq_true_iff.mp (Bool.and_eq_true_iff.mp (Bool.and_eq_true_iff.mp (Bool.and_eq_true_iff.mp c.more).1).2).2).2).2).2).2).2).2).1
  kn_Weights := (Bool.and_eq_true_iff.mp (Bool.and_eq_true_iff.mp (Bool.and_eq_true_iff.mp (Bool.and_eq_true_iff.mp (Bool.and_eq_true_iff.mp (Bool.and_eq_true_iff.mp (Bool.and_eq_true_iff.mp (Bool.and_eq_true_iff.mp (Bool.and_eq_true_iff.mp (Bool.and_eq_true_iff.mp (Bool.and_eq_true_iff.mp c.more).1).2).2).2).2).2).2).2).2).2).1
  nf_Weights := (Bool.and_eq_true_iff.mp (Bool.and_eq_true_iff.mp (Bool.and_eq_true_iff.mp c.more).2).1).1
  nn_Weights := (Bool.and_eq_true_iff.mp (Bool.and_eq_true_iff.mp (Bool.and_eq_true_iff.mp (Bool.and_eq_true_iff.mp c.more).2).1).2).1
  ob_Rule := (Bool.and_eq_true_iff.mp (Bool.and_eq_true_iff.mp (Bool.and_eq_true_iff.mp (Bool.and_eq_true_iff.mp (Bool.and_eq_true_iff.mp c.more).2).1).2).2).1
  ca_Rule := (Bool.and_eq_true_iff.mp (Bool.and_eq_true_iff.mp (Bool.and_eq_true_iff.mp (Bool.and_eq_true_iff.mp (Bool.and_eq_true_iff.mp (Bool.and_eq_true_iff.mp c.more).2).1).2).2).2).1
  ki_Rule := (Bool.and_eq_true_iff.mp (Bool.and_eq_true_iff.mp (Bool.and_eq_true_iff.mp (Bool.and_eq_true_iff.mp (Bool.and_eq_true_iff.mp (Bool.and_eq_true_iff.mp (Bool.and_eq_true_iff.mp c.more).2).1).2).2).2).2).1
  kn_Rule := (Bool.and_eq_true_iff.mp (Bool.and_eq_true_iff.mp (Bool.and_eq_true_iff.mp (Bool.and_eq_true_iff.mp (Bool.and_eq_true_iff.mp (Bool.and_eq_true_iff.mp (Bool.and_eq_true_iff.mp (Bool.and_eq_true_iff.mp c.more).2).1).2).2).2).2).2).1
  nf_Rule := (Bool.and_eq_true_iff.mp (Bool.and_eq_true_iff.mp (Bool.and_eq_true_iff.mp (Bool.and_eq_true_iff.mp (Bool.and_eq_true_iff.mp (Bool.and_eq_true_iff.mp (Bool.and_eq_true_iff.mp (Bool.and_eq_true_iff.mp (Bool.and_eq_true_iff.mp c.more).2).1).2).2).2).2).2).2).1
  nn_Rule := (Bool.and_eq_true_iff.mp (Bool.and_eq_true_iff.mp (Bool.and_eq_true_iff.mp (Bool.and_eq_true_iff.mp (Bool.and_eq_true_iff.mp (Bool.and_eq_true_iff.mp (Bool.and_eq_true_iff.mp (Bool.and_eq_true_iff.mp (Bool.and_eq_true_iff.mp (Bool.and_eq_true_iff.mp c.more).2).1).2).2).2).2).2).2).2).1
  ob_Book := (Bool.and_eq_true_iff.mp (Bool.and_eq_true_iff.mp (Bool.and_eq_true_iff.mp (Bool.and_eq_true_iff.mp (Bool.and_eq_true_iff.mp (Bool.and_eq_true_iff.mp (Bool.and_eq_true_iff.mp (Bool.and_eq_true_iff.mp (Bool.and_eq_true_iff.mp (Bool.and_eq_true_iff.mp (Bool.and_eq_true_iff.mp c.more).2).1).2).2).2).2).2).2).2).2).1
  ca_Book := (Bool.and_eq_true_iff.mp (Bool.and_eq_true_iff.mp (Bool.and_eq_true_iff.mp (Bool.and_eq_true_iff.mp (Bool.and_eq_true_iff.mp (Bool.and_eq_true_iff.mp (Bool.and_eq_true_iff.mp (Bool.and_eq_true_iff.mp (Bool.and_eq_true_iff.mp (Bool.and_eq_true_iff.mp (Bool.and_eq_true_iff.mp (Bool.and_eq_true_iff.mp c.more).2).1).2).2).2).2).2).2).2).2).2).1
  ki_Book := (Bool.and_eq_true_iff.mp (Bool.and_eq_true_iff.mp (Bool.and_eq_true_iff.mp (Bool.and_eq_true_iff.mp c.more).2).2).1).1
  kn_Book := (Bool.and_eq_true_iff.mp (Bool.and_eq_true_iff.mp (Bool.and_eq_true_iff.mp (Bool.and_eq_true_iff.mp (Bool.and_eq_true_iff.mp c.more).2).2).1).2).1
  nf_Book := (Bool.and_eq_true_iff.mp (Bool.and_eq_true_iff.mp (Bool.and_eq_true_iff.mp (Bool.and_eq_true_iff.mp (Bool.and_eq_true_iff.mp (Bool.and_eq_true_iff.mp c.more).2).2).1).2).2).1
  nn_Book := (Bool.and_eq_true_iff.mp (Bool.and_eq_true_iff.mp (Bool.and_eq_true_iff.mp (Bool.and_eq_true_iff.mp (Bool.and_eq_true_iff.mp (Bool.and_eq_true_iff.mp (Bool.and_eq_true_iff.mp c.more).2).2).1).2).2).2).1
  ob_Machine := (Bool.and_eq_true_iff.mp (Bool.and_eq_true_iff.mp (Bool.and_eq_true_iff.mp (Bool.and_eq_true_iff.mp (Bool.and_eq_true_iff.mp (Bool.and_eq_true_iff.mp (Bool.and_eq_true_iff.mp (Bool.and_eq_true_iff.mp c.more).2).2).1).2).2).2).2).1
  ca_Machine := (Bool.and_eq_true_iff.mp (Bool.and_eq_true_iff.mp (Bool.and_eq_true_iff.mp (Bool.and_eq_true_iff.mp (Bool.and_eq_true_iff.mp (Bool.and_eq_true_iff.mp (Bool.and_eq_true_iff.mp (Bool.and_eq_true_iff.mp (Bool.and_eq_true_iff.mp c.more).2).2).1).2).2).2).2).2).1
  ki_Machine := (Bool.and_eq_true_iff.mp (Bool.and_eq_true_iff.mp (Bool.and_eq_true_iff.mp (Bool.and_eq_true_iff.mp (Bool.and_eq_true_iff.mp (Bool.and_eq_true_iff.mp (Bool.and_eq_true_iff.mp (Bool.and_eq_true_iff.mp (Bool.and_eq_true_iff.mp (Bool.and_eq_true_iff.mp c.more).2).2).1).2).2).2).2).2).2).1
  kn_Machine := (Bool.and_eq_true_iff.mp (Bool.and_eq_true_iff.mp (Bool.and_eq_true_iff.mp (Bool.and_eq_true_iff.mp (Bool.and_eq_true_iff.mp (Bool.and_eq_true_iff.mp (Bool.and_eq_true_iff.mp (Bool.and_eq_true_iff.mp (Bool.and_eq_true_iff.mp (Bool.and_eq_true_iff.mp (Bool.and_eq_true_iff.mp c.more).2).2).1).2).2).2).2).2).2).2).1
  nf_Machine := (Bool.and_eq_true_iff.mp (Bool.and_eq_true_iff.mp (Bool.and_eq_true_iff.mp (Bool.and_eq_true_iff.mp (Bool.and_eq_true_iff.mp (Bool.and_eq_true_iff.mp (Bool.and_eq_true_iff.mp (Bool.and_eq_true_iff.mp (Bool.and_eq_true_iff.mp (Bool.and_eq_true_iff.mp (Bool.and_eq_true_iff.mp (Bool.and_eq_true_iff.mp c.more).2).2).1).2).2).2).2).2).2).2).2).1
  nn_Machine := (Bool.and_eq_true_iff.mp (Bool.and_eq_true_iff.mp (Bool.and_eq_true_iff.mp (Bool.and_eq_true_iff.mp (Bool.and_eq_true_iff.mp (Bool.and_eq_true_iff.mp (Bool.and_eq_true_iff.mp (Bool.and_eq_true_iff.mp (Bool.and_eq_true_iff.mp (Bool.and_eq_true_iff.mp (Bool.and_eq_true_iff.mp (Bool.and_eq_true_iff.mp (Bool.and_eq_true_iff.mp c.more).2).2).1).2).2).2).2).2).2).2).2).2).1
  ob_Some := (Bool.and_eq_true_iff.mp (Bool.and_eq_true_iff.mp (Bool.and_eq_true_iff.mp (Bool.and_eq_true_iff.mp (Bool.and_eq_true_iff.mp c.more).2).2).2).1).1
  ca_Some := (Bool.and_eq_true_iff.mp (Bool.and_eq_true_iff.mp (Bool.and_eq_true_iff.mp (Bool.and_eq_true_iff.mp (Bool.and_eq_true_iff.mp (Bool.and_eq_true_iff.mp c.more).2).2).2).1).2).1
  kg_Some := (Bool.and_eq_true_iff.mp (Bool.and_eq_true_iff.mp (Bool.and_eq_true_iff.mp (Bool.and_eq_true_iff.mp (Bool.and_eq_true_iff.mp (Bool.and_eq_true_iff.mp (Bool.and_eq_true_iff.mp c.more).2).2).2).1).2).2).1
  ob_Every := (Bool.and_eq_true_iff.mp (Bool.and_eq_true_iff.mp (Bool.and_eq_true_iff.mp (Bool.and_eq_true_iff.mp (Bool.and_eq_true_iff.mp (Bool.and_eq_true_iff.mp (Bool.and_eq_true_iff.mp (Bool.and_eq_true_iff.mp c.more).2).2).2).1).2).2).2).1
  ca_Every := (Bool.and_eq_true_iff.mp (Bool.and_eq_true_iff.mp (Bool.and_eq_true_iff.mp (Bool.and_eq_true_iff.mp (Bool.and_eq_true_iff.mp (Bool.and_eq_true_iff.mp (Bool.and_eq_true_iff.mp (Bool.and_eq_true_iff.mp (Bool.and_eq_true_iff.mp c.more).2).2).2).1).2).2).2).2).1
  kg_Every := (Bool.and_eq_true_iff.mp (Bool.and_eq_true_iff.mp (Bool.and_eq_true_iff.mp (Bool.and_eq_true_iff.mp (Bool.and_eq_true_iff.mp (Bool.and_eq_true_iff.mp (Bool.and_eq_true_iff.mp (Bool.and_eq_true_iff.mp (Bool.and_eq_true_iff.mp (Bool.and_eq_true_iff.mp c.more).2).2).2).1).2).2).2).2).2).1
  ob_Shared := (Bool.and_eq_true_iff.mp (Bool.and_eq_true_iff.mp (Bool.and_eq_true_iff.mp (Bool.and_eq_true_iff.mp (Bool.and_eq_true_iff.mp (Bool.and_eq_true_iff.mp (Bool.and_eq_true_iff.mp (Bool.and_eq_true_iff.mp (Bool.and_eq_true_iff.mp (Bool.and_eq_true_iff.mp (Bool.and_eq_true_iff.mp c.more).2).2).2).1).2).2).2).2).2).2).1
  ca_Shared := (Bool.and_eq_true_iff.mp (Bool.and_eq_true_iff.mp (Bool.and_eq_true_iff.mp (Bool.and_eq_true_iff.mp (Bool.and_eq_true_iff.mp (Bool.and_eq_true_iff.mp (Bool.and_eq_true_iff.mp (Bool.and_eq_true_iff.mp (Bool.and_eq_true_iff.mp (Bool.and_eq_true_iff.mp (Bool.and_eq_true_iff.mp (Bool.and_eq_true_iff.mp c.more).2).2).2).1).2).2).2).2).2).2).2).1
  kg_Shared := (Bool.and_eq_true_iff.mp (Bool.and_eq_true_iff.mp (Bool.and_eq_true_iff.mp (Bool.and_eq_true_iff.mp (Bool.and_eq_true_iff.mp (Bool.and_eq_true_iff.mp (Bool.and_eq_true_iff.mp (Bool.and_eq_true_iff.mp (Bool.and_eq_true_iff.mp (Bool.and_eq_true_iff.mp (Bool.and_eq_true_iff.mp (Bool.and_eq_true_iff.mp (Bool.and_eq_true_iff.mp c.more).2).2).2).1).2).2).2).2).2).2).2).2).1
  ob_Sides := (Bool.and_eq_true_iff.mp (Bool.and_eq_true_iff.mp (Bool.and_eq_true_iff.mp (Bool.and_eq_true_iff.mp (Bool.and_eq_true_iff.mp (Bool.and_eq_true_iff.mp (Bool.and_eq_true_iff.mp (Bool.and_eq_true_iff.mp (Bool.and_eq_true_iff.mp (Bool.and_eq_true_iff.mp (Bool.and_eq_true_iff.mp (Bool.and_eq_true_iff.mp (Bool.and_eq_true_iff.mp (Bool.and_eq_true_iff.mp c.more).2).2).2).1).2).2).2).2).2).2).2).2).2).1
  ca_Sides := (Bool.and_eq_true_iff.mp (Bool.and_eq_true_iff.mp (Bool.and_eq_true_iff.mp (Bool.and_eq_true_iff.mp (Bool.and_eq_true_iff.mp (Bool.and_eq_true_iff.mp c.more).2).2).2).2).1).1
  kg_Sides := (Bool.and_eq_true_iff.mp (Bool.and_eq_true_iff.mp (Bool.and_eq_true_iff.mp (Bool.and_eq_true_iff.mp (Bool.and_eq_true_iff.mp (Bool.and_eq_true_iff.mp (Bool.and_eq_true_iff.mp c.more).2).2).2).2).1).2).1
  su_Some := (Bool.and_eq_true_iff.mp (Bool.and_eq_true_iff.mp (Bool.and_eq_true_iff.mp (Bool.and_eq_true_iff.mp (Bool.and_eq_true_iff.mp (Bool.and_eq_true_iff.mp (Bool.and_eq_true_iff.mp (Bool.and_eq_true_iff.mp c.more).2).2).2).2).1).2).2).1
  in_Some := (Bool.and_eq_true_iff.mp (Bool.and_eq_true_iff.mp (Bool.and_eq_true_iff.mp (Bool.and_eq_true_iff.mp (Bool.and_eq_true_iff.mp (Bool.and_eq_true_iff.mp (Bool.and_eq_true_iff.mp (Bool.and_eq_true_iff.mp (Bool.and_eq_true_iff.mp c.more).2).2).2).2).1).2).2).2).1
  su_Every := (Bool.and_eq_true_iff.mp (Bool.and_eq_true_iff.mp (Bool.and_eq_true_iff.mp (Bool.and_eq_true_iff.mp (Bool.and_eq_true_iff.mp (Bool.and_eq_true_iff.mp (Bool.and_eq_true_iff.mp (Bool.and_eq_true_iff.mp (Bool.and_eq_true_iff.mp (Bool.and_eq_true_iff.mp c.more).2).2).2).2).1).2).2).2).2).1
  in_Every := (Bool.and_eq_true_iff.mp (Bool.and_eq_true_iff.mp (Bool.and_eq_true_iff.mp (Bool.and_eq_true_iff.mp (Bool.and_eq_true_iff.mp (Bool.and_eq_true_iff.mp (Bool.and_eq_true_iff.mp (Bool.and_eq_true_iff.mp (Bool.and_eq_true_iff.mp (Bool.and_eq_true_iff.mp (Bool.and_eq_true_iff.mp c.more).2).2).2).2).1).2).2).2).2).2).1
  su_Shared := (Bool.and_eq_true_iff.mp (Bool.and_eq_true_iff.mp (Bool.and_eq_true_iff.mp (Bool.and_eq_true_iff.mp (Bool.and_eq_true_iff.mp (Bool.and_eq_true_iff.mp (Bool.and_eq_true_iff.mp (Bool.and_eq_true_iff.mp (Bool.and_eq_true_iff.mp (Bool.and_eq_true_iff.mp (Bool.and_eq_true_iff.mp (Bool.and_eq_true_iff.mp c.more).2).2).2).2).1).2).2).2).2).2).2).1
  su_Sides := (Bool.and_eq_true_iff.mp (Bool.and_eq_true_iff.mp (Bool.and_eq_true_iff.mp (Bool.and_eq_true_iff.mp (Bool.and_eq_true_iff.mp (Bool.and_eq_true_iff.mp (Bool.and_eq_true_iff.mp (Bool.and_eq_true_iff.mp (Bool.and_eq_true_iff.mp (Bool.and_eq_true_iff.mp (Bool.and_eq_true_iff.mp (Bool.and_eq_true_iff.mp (Bool.and_eq_true_iff.mp c.more).2).2).2).2).1).2).2).2).2).2).2).2).1
  rd_Shared := (Bool.and_eq_true_iff.mp (Bool.and_eq_true_iff.mp (Bool.and_eq_true_iff.mp (Bool.and_eq_true_iff.mp (Bool.and_eq_true_iff.mp (Bool.and_eq_true_iff.mp (Bool.and_eq_true_iff.mp (Bool.and_eq_true_iff.mp (Bool.and_eq_true_iff.mp (Bool.and_eq_true_iff.mp (Bool.and_eq_true_iff.mp (Bool.and_eq_true_iff.mp (Bool.and_eq_true_iff.mp (Bool.and_eq_true_iff.mp c.more).2).2).2).2).1).2).2).2).2).2).2).2).2).1
  rd_Sides := (Bool.and_eq_true_iff.mp (Bool.and_eq_true_iff.mp (Bool.and_eq_true_iff.mp (Bool.and_eq_true_iff.mp (Bool.and_eq_true_iff.mp (Bool.and_eq_true_iff.mp (Bool.and_eq_true_iff.mp (Bool.and_eq_true_iff.mp (Bool.and_eq_true_iff.mp (Bool.and_eq_true_iff.mp (Bool.and_eq_true_iff.mp (Bool.and_eq_true_iff.mp (Bool.and_eq_true_iff.mp (Bool.and_eq_true_iff.mp (Bool.and_eq_true_iff.mp c.more).2).2).2).2).1).2).2).2).2).2).2).2).2).2).1
  kn_Game := (Bool.and_eq_true_iff.mp (Bool.and_eq_true_iff.mp (Bool.and_eq_true_iff.mp (Bool.and_eq_true_iff.mp (Bool.and_eq_true_iff.mp (Bool.and_eq_true_iff.mp (Bool.and_eq_true_iff.mp c.more).2).2).2).2).2).1).1
  cm_wof := (Bool.and_eq_true_iff.mp (Bool.and_eq_true_iff.mp (Bool.and_eq_true_iff.mp (Bool.and_eq_true_iff.mp (Bool.and_eq_true_iff.mp (Bool.and_eq_true_iff.mp (Bool.and_eq_true_iff.mp (Bool.and_eq_true_iff.mp c.more).2).2).2).2).2).1).2).1
  cm_bof := (Bool.and_eq_true_iff.mp (Bool.and_eq_true_iff.mp (Bool.and_eq_true_iff.mp (Bool.and_eq_true_iff.mp (Bool.and_eq_true_iff.mp (Bool.and_eq_true_iff.mp (Bool.and_eq_true_iff.mp (Bool.and_eq_true_iff.mp (Bool.and_eq_true_iff.mp c.more).2).2).2).2).2).1).2).2).1
  cm_mevery := (Bool.and_eq_true_iff.mp (Bool.and_eq_true_iff.mp (Bool.and_eq_true_iff.mp (Bool.and_eq_true_iff.mp (Bool.and_eq_true_iff.mp (Bool.and_eq_true_iff.mp (Bool.and_eq_true_iff.mp (Bool.and_eq_true_iff.mp (Bool.and_eq_true_iff.mp (Bool.and_eq_true_iff.mp c.more).2).2).2).2).2).1).2).2).2).1
  cm_mnone := (Bool.and_eq_true_iff.mp (Bool.and_eq_true_iff.mp (Bool.and_eq_true_iff.mp (Bool.and_eq_true_iff.mp (Bool.and_eq_true_iff.mp (Bool.and_eq_true_iff.mp (Bool.and_eq_true_iff.mp (Bool.and_eq_true_iff.mp (Bool.and_eq_true_iff.mp (Bool.and_eq_true_iff.mp (Bool.and_eq_true_iff.mp c.more).2).2).2).2).2).1).2).2).2).2).1
  sp_ainit := (Bool.and_eq_true_iff.mp (Bool.and_eq_true_iff.mp (Bool.and_eq_true_iff.mp (Bool.and_eq_true_iff.mp (Bool.and_eq_true_iff.mp (Bool.and_eq_true_iff.mp (Bool.and_eq_true_iff.mp (Bool.and_eq_true_iff.mp (Bool.and_eq_true_iff.mp (Bool.and_eq_true_iff.mp (Bool.and_eq_true_iff.mp (Bool.and_eq_true_iff.mp c.more).2).2).2).2).2).1).2).2).2).2).2).1
  sp_shinit := (Bool.and_eq_true_iff.mp (Bool.and_eq_true_iff.mp (Bool.and_eq_true_iff.mp (Bool.and_eq_true_iff.mp (Bool.and_eq_true_iff.mp (Bool.and_eq_true_iff.mp (Bool.and_eq_true_iff.mp (Bool.and_eq_true_iff.mp (Bool.and_eq_true_iff.mp (Bool.and_eq_true_iff.mp (Bool.and_eq_true_iff.mp (Bool.and_eq_true_iff.mp (Bool.and_eq_true_iff.mp c.more).2).2).2).2).2).1).2).2).2).2).2).2).1
  sp_siinit := (Bool.and_eq_true_iff.mp (Bool.and_eq_true_iff.mp (Bool.and_eq_true_iff.mp (Bool.and_eq_true_iff.mp (Bool.and_eq_true_iff.mp (Bool.and_eq_true_iff.mp (Bool.and_eq_true_iff.mp (Bool.and_eq_true_iff.mp (Bool.and_eq_true_iff.mp (Bool.and_eq_true_iff.mp (Bool.and_eq_true_iff.mp (Bool.and_eq_true_iff.mp (Bool.and_eq_true_iff.mp (Bool.and_eq_true_iff.mp c.more).2).2).2).2).2).1).2).2).2).2).2).2).2).1
  xM := (Bool.and_eq_true_iff.mp (Bool.and_eq_true_iff.mp (Bool.and_eq_true_iff.mp (Bool.and_eq_true_iff.mp (Bool.and_eq_true_iff.mp (Bool.and_eq_true_iff.mp (Bool.and_eq_true_iff.mp (Bool.and_eq_true_iff.mp (Bool.and_eq_true_iff.mp (Bool.and_eq_true_iff.mp (Bool.and_eq_true_iff.mp (Bool.and_eq_true_iff.mp (Bool.and_eq_true_iff.mp (Bool.and_eq_true_iff.mp (Bool.and_eq_true_iff.mp c.more).2).2).2).2).2).1).2).2).2).2).2).2).2).2).1
  xK := (Bool.and_eq_true_iff.mp (Bool.and_eq_true_iff.mp (Bool.and_eq_true_iff.mp (Bool.and_eq_true_iff.mp (Bool.and_eq_true_iff.mp (Bool.and_eq_true_iff.mp (Bool.and_eq_true_iff.mp (Bool.and_eq_true_iff.mp (Bool.and_eq_true_iff.mp (Bool.and_eq_true_iff.mp (Bool.and_eq_true_iff.mp (Bool.and_eq_true_iff.mp (Bool.and_eq_true_iff.mp (Bool.and_eq_true_iff.mp (Bool.and_eq_true_iff.mp (Bool.and_eq_true_iff.mp c.more).2).2).2).2).2).1).2).2).2).2).2).2).2).2).2).1
  xE := (Bool.and_eq_true_iff.mp (Bool.and_eq_true_iff.mp (Bool.and_eq_true_iff.mp (Bool.and_eq_true_iff.mp (Bool.and_eq_true_iff.mp (Bool.and_eq_true_iff.mp (Bool.and_eq_true_iff.mp (Bool.and_eq_true_iff.mp c.more).2).2).2).2).2).2).1).1
  xo_BadSigns := (Bool.and_eq_true_iff.mp (Bool.and_eq_true_iff.mp (Bool.and_eq_true_iff.mp (Bool.and_eq_true_iff.mp (Bool.and_eq_true_iff.mp (Bool.and_eq_true_iff.mp (Bool.and_eq_true_iff.mp (Bool.and_eq_true_iff.mp (Bool.and_eq_true_iff.mp c.more).2).2).2).2).2).2).1).2).1
  xi_BadSigns := (Bool.and_eq_true_iff.mp (Bool.and_eq_true_iff.mp (Bool.and_eq_true_iff.mp (Bool.and_eq_true_iff.mp (Bool.and_eq_true_iff.mp (Bool.and_eq_true_iff.mp (Bool.and_eq_true_iff.mp (Bool.and_eq_true_iff.mp (Bool.and_eq_true_iff.mp (Bool.and_eq_true_iff.mp c.more).2).2).2).2).2).2).1).2).2).1
  xo_BadRule := (Bool.and_eq_true_iff.mp (Bool.and_eq_true_iff.mp (Bool.and_eq_true_iff.mp (Bool.and_eq_true_iff.mp (Bool.and_eq_true_iff.mp (Bool.and_eq_true_iff.mp (Bool.and_eq_true_iff.mp (Bool.and_eq_true_iff.mp (Bool.and_eq_true_iff.mp (Bool.and_eq_true_iff.mp (Bool.and_eq_true_iff.mp c.more).2).2).2).2).2).2).1).2).2).2).1
  xi_BadRule := (Bool.and_eq_true_iff.mp (Bool.and_eq_true_iff.mp (Bool.and_eq_true_iff.mp (Bool.and_eq_true_iff.mp (Bool.and_eq_true_iff.mp (Bool.and_eq_true_iff.mp (Bool.and_eq_true_iff.mp (Bool.and_eq_true_iff.mp (Bool.and_eq_true_iff.mp (Bool.and_eq_true_iff.mp (Bool.and_eq_true_iff.mp (Bool.and_eq_true_iff.mp c.more).2).2).2).2).2).2).1).2).2).2).2).1
  xo_BadBook := (Bool.and_eq_true_iff.mp (Bool.and_eq_true_iff.mp (Bool.and_eq_true_iff.mp (Bool.and_eq_true_iff.mp (Bool.and_eq_true_iff.mp (Bool.and_eq_true_iff.mp (Bool.and_eq_true_iff.mp (Bool.and_eq_true_iff.mp (Bool.and_eq_true_iff.mp (Bool.and_eq_true_iff.mp (Bool.and_eq_true_iff.mp (Bool.and_eq_true_iff.mp (Bool.and_eq_true_iff.mp c.more).2).2).2).2).2).2).1).2).2).2).2).2).1
  xi_BadBook := (Bool.and_eq_true_iff.mp (Bool.and_eq_true_iff.mp (Bool.and_eq_true_iff.mp (Bool.and_eq_true_iff.mp (Bool.and_eq_true_iff.mp (Bool.and_eq_true_iff.mp (Bool.and_eq_true_iff.mp (Bool.and_eq_true_iff.mp (Bool.and_eq_true_iff.mp (Bool.and_eq_true_iff.mp (Bool.and_eq_true_iff.mp (Bool.and_eq_true_iff.mp (Bool.and_eq_true_iff.mp (Bool.and_eq_true_iff.mp c.more).2).2).2).2).2).2).1).2).2).2).2).2).2).1
  xo_Heavier := (Bool.and_eq_true_iff.mp (Bool.and_eq_true_iff.mp (Bool.and_eq_true_iff.mp (Bool.and_eq_true_iff.mp (Bool.and_eq_true_iff.mp (Bool.and_eq_true_iff.mp (Bool.and_eq_true_iff.mp (Bool.and_eq_true_iff.mp (Bool.and_eq_true_iff.mp (Bool.and_eq_true_iff.mp (Bool.and_eq_true_iff.mp (Bool.and_eq_true_iff.mp (Bool.and_eq_true_iff.mp (Bool.and_eq_true_iff.mp (Bool.and_eq_true_iff.mp c.more).2).2).2).2).2).2).1).2).2).2).2).2).2).2).1
  xi_Heavier := (Bool.and_eq_true_iff.mp (Bool.and_eq_true_iff.mp (Bool.and_eq_true_iff.mp (Bool.and_eq_true_iff.mp (Bool.and_eq_true_iff.mp (Bool.and_eq_true_iff.mp (Bool.and_eq_true_iff.mp (Bool.and_eq_true_iff.mp (Bool.and_eq_true_iff.mp (Bool.and_eq_true_iff.mp (Bool.and_eq_true_iff.mp (Bool.and_eq_true_iff.mp (Bool.and_eq_true_iff.mp (Bool.and_eq_true_iff.mp (Bool.and_eq_true_iff.mp (Bool.and_eq_true_iff.mp c.more).2).2).2).2).2).2).1).2).2).2).2).2).2).2).2).1
  xo_Unlessened := (Bool.and_eq_true_iff.mp (Bool.and_eq_true_iff.mp (Bool.and_eq_true_iff.mp (Bool.and_eq_true_iff.mp (Bool.and_eq_true_iff.mp (Bool.and_eq_true_iff.mp (Bool.and_eq_true_iff.mp (Bool.and_eq_true_iff.mp (Bool.and_eq_true_iff.mp (Bool.and_eq_true_iff.mp (Bool.and_eq_true_iff.mp (Bool.and_eq_true_iff.mp (Bool.and_eq_true_iff.mp (Bool.and_eq_true_iff.mp (Bool.and_eq_true_iff.mp (Bool.and_eq_true_iff.mp (Bool.and_eq_true_iff.mp c.more).2).2).2).2).2).2).1).2).2).2).2).2).2).2).2).2).1
  xi_Unlessened := (Bool.and_eq_true_iff.mp (Bool.and_eq_true_iff.mp (Bool.and_eq_true_iff.mp (Bool.and_eq_true_iff.mp (Bool.and_eq_true_iff.mp (Bool.and_eq_true_iff.mp (Bool.and_eq_true_iff.mp (Bool.and_eq_true_iff.mp (Bool.and_eq_true_iff.mp c.more).2).2).2).2).2).2).2).1).1
  xo_BadMachine := (Bool.and_eq_true_iff.mp (Bool.and_eq_true_iff.mp (Bool.and_eq_true_iff.mp (Bool.and_eq_true_iff.mp (Bool.and_eq_true_iff.mp (Bool.and_eq_true_iff.mp (Bool.and_eq_true_iff.mp (Bool.and_eq_true_iff.mp (Bool.and_eq_true_iff.mp (Bool.and_eq_true_iff.mp c.more).2).2).2).2).2).2).2).1).2).1
  xi_BadMachine := (Bool.and_eq_true_iff.mp (Bool.and_eq_true_iff.mp (Bool.and_eq_true_iff.mp (Bool.and_eq_true_iff.mp (Bool.and_eq_true_iff.mp (Bool.and_eq_true_iff.mp (Bool.and_eq_true_iff.mp (Bool.and_eq_true_iff.mp (Bool.and_eq_true_iff.mp (Bool.and_eq_true_iff.mp (Bool.and_eq_true_iff.mp c.more).2).2).2).2).2).2).2).1).2).2).1
  xo_BadGame := (Bool.and_eq_true_iff.mp (Bool.and_eq_true_iff.mp (Bool.and_eq_true_iff.mp (Bool.and_eq_true_iff.mp (Bool.and_eq_true_iff.mp (Bool.and_eq_true_iff.mp (Bool.and_eq_true_iff.mp (Bool.and_eq_true_iff.mp (Bool.and_eq_true_iff.mp (Bool.and_eq_true_iff.mp (Bool.and_eq_true_iff.mp (Bool.and_eq_true_iff.mp c.more).2).2).2).2).2).2).2).1).2).2).2).1
  xi_BadGame := (Bool.and_eq_true_iff.mp (Bool.and_eq_true_iff.mp (Bool.and_eq_true_iff.mp (Bool.and_eq_true_iff.mp (Bool.and_eq_true_iff.mp (Bool.and_eq_true_iff.mp (Bool.and_eq_true_iff.mp (Bool.and_eq_true_iff.mp (Bool.and_eq_true_iff.mp (Bool.and_eq_true_iff.mp (Bool.and_eq_true_iff.mp (Bool.and_eq_true_iff.mp (Bool.and_eq_true_iff.mp c.more).2).2).2).2).2).2).2).1).2).2).2).2).1
  xo_OtherSigns := (Bool.and_eq_true_iff.mp (Bool.and_eq_true_iff.mp (Bool.and_eq_true_iff.mp (Bool.and_eq_true_iff.mp (Bool.and_eq_true_iff.mp (Bool.and_eq_true_iff.mp (Bool.and_eq_true_iff.mp (Bool.and_eq_true_iff.mp (Bool.and_eq_true_iff.mp (Bool.and_eq_true_iff.mp (Bool.and_eq_true_iff.mp (Bool.and_eq_true_iff.mp (Bool.and_eq_true_iff.mp (Bool.and_eq_true_iff.mp c.more).2).2).2).2).2).2).2).1).2).2).2).2).2).1
  xi_OtherSigns := (Bool.and_eq_true_iff.mp (Bool.and_eq_true_iff.mp (Bool.and_eq_true_iff.mp (Bool.and_eq_true_iff.mp (Bool.and_eq_true_iff.mp (Bool.and_eq_true_iff.mp (Bool.and_eq_true_iff.mp (Bool.and_eq_true_iff.mp (Bool.and_eq_true_iff.mp (Bool.and_eq_true_iff.mp (Bool.and_eq_true_iff.mp (Bool.and_eq_true_iff.mp (Bool.and_eq_true_iff.mp (Bool.and_eq_true_iff.mp (Bool.and_eq_true_iff.mp c.more).2).2).2).2).2).2).2).1).2).2).2).2).2).2).1
  xf_at := (Bool.and_eq_true_iff.mp (Bool.and_eq_true_iff.mp (Bool.and_eq_true_iff.mp (Bool.and_eq_true_iff.mp (Bool.and_eq_true_iff.mp (Bool.and_eq_true_iff.mp (Bool.and_eq_true_iff.mp (Bool.and_eq_true_iff.mp (Bool.and_eq_true_iff.mp (Bool.and_eq_true_iff.mp (Bool.and_eq_true_iff.mp (Bool.and_eq_true_iff.mp (Bool.and_eq_true_iff.mp (Bool.and_eq_true_iff.mp (Bool.and_eq_true_iff.mp (Bool.and_eq_true_iff.mp c.more).2).2).2).2).2).2).2).1).2).2).2).2).2).2).2).1
  xf_new := (Bool.and_eq_true_iff.mp (Bool.and_eq_true_iff.mp (Bool.and_eq_true_iff.mp (Bool.and_eq_true_iff.mp (Bool.and_eq_true_iff.mp (Bool.and_eq_true_iff.mp (Bool.and_eq_true_iff.mp (Bool.and_eq_true_iff.mp (Bool.and_eq_true_iff.mp (Bool.and_eq_true_iff.mp (Bool.and_eq_true_iff.mp (Bool.and_eq_true_iff.mp (Bool.and_eq_true_iff.mp (Bool.and_eq_true_iff.mp (Bool.and_eq_true_iff.mp (Bool.and_eq_true_iff.mp (Bool.and_eq_true_iff.mp c.more).2).2).2).2).2).2).2).1).2).2).2).2).2).2).2).2).1
  xf_old := (Bool.and_eq_true_iff.mp (Bool.and_eq_true_iff.mp (Bool.and_eq_true_iff.mp (Bool.and_eq_true_iff.mp (Bool.and_eq_true_iff.mp (Bool.and_eq_true_iff.mp (Bool.and_eq_true_iff.mp (Bool.and_eq_true_iff.mp (Bool.and_eq_true_iff.mp (Bool.and_eq_true_iff.mp (Bool.and_eq_true_iff.mp (Bool.and_eq_true_iff.mp (Bool.and_eq_true_iff.mp (Bool.and_eq_true_iff.mp (Bool.and_eq_true_iff.mp (Bool.and_eq_true_iff.mp (Bool.and_eq_true_iff.mp (Bool.and_eq_true_iff.mp c.more).2).2).2).2).2).2).2).1).2).2).2).2).2).2).2).2).2).1
  xf_part := (Bool.and_eq_true_iff.mp (Bool.and_eq_true_iff.mp (Bool.and_eq_true_iff.mp (Bool.and_eq_true_iff.mp (Bool.and_eq_true_iff.mp (Bool.and_eq_true_iff.mp (Bool.and_eq_true_iff.mp (Bool.and_eq_true_iff.mp (Bool.and_eq_true_iff.mp (Bool.and_eq_true_iff.mp c.more).2).2).2).2).2).2).2).2).1).1
  d_wof := cc.def_ 0 (d := hd_wof) rfl
  d_bof := cc.def_ 1 (d := hd_bof) rfl
  d_mevery := cc.def_ 2 (d := hd_mevery) rfl
  d_mnone := cc.def_ 3 (d := hd_mnone) rfl
  d_ainit := saysS_def cs 0 (d := hd_ainit) (Bool.and_eq_true_iff.mp (Bool.and_eq_true_iff.mp (Bool.and_eq_true_iff.mp (Bool.and_eq_true_iff.mp (Bool.and_eq_true_iff.mp (Bool.and_eq_true_iff.mp (Bool.and_eq_true_iff.mp (Bool.and_eq_true_iff.mp (Bool.and_eq_true_iff.mp (Bool.and_eq_true_iff.mp (Bool.and_eq_true_iff.mp (Bool.and_eq_true_iff.mp c.more).2).2).2).2).2).1).2).2).2).2).2).1 rfl
  d_shinit := saysS_def cs 1 (d := hd_shinit) (Bool.and_eq_true_iff.mp (Bool.and_eq_true_iff.mp (Bool.and_eq_true_iff.mp (Bool.and_eq_true_iff.mp (Bool.and_eq_true_iff.mp (Bool.and_eq_true_iff.mp (Bool.and_eq_true_iff.mp (Bool.and_eq_true_iff.mp (Bool.and_eq_true_iff.mp (Bool.and_eq_true_iff.mp (Bool.and_eq_true_iff.mp (Bool.and_eq_true_iff.mp (Bool.and_eq_true_iff.mp c.more).2).2).2).2).2).1).2).2).2).2).2).2).1 rfl
  d_siinit := saysS_def cs 2 (d := hd_siinit) (Bool.and_eq_true_iff.mp (Bool.and_eq_true_iff.mp (Bool.and_eq_true_iff.mp (Bool.and_eq_true_iff.mp (Bool.and_eq_true_iff.mp (Bool.and_eq_true_iff.mp (Bool.and_eq_true_iff.mp (Bool.and_eq_true_iff.mp (Bool.and_eq_true_iff.mp (Bool.and_eq_true_iff.mp (Bool.and_eq_true_iff.mp (Bool.and_eq_true_iff.mp (Bool.and_eq_true_iff.mp (Bool.and_eq_true_iff.mp c.more).2).2).2).2).2).1).2).2).2).2).2).2).2).1 rfl
end Rg
open PySem PySem.W PySem.Calls PyProof.Rows
set_option maxHeartbeats 0 in
theorem PySem.Challenge.cw_rowgames_k30_equations_read_off_holds : PySem.Challenge.rw_rowgames_k30_equations_read_off.Holds := by
  w_on; o_law
  refine HandSHeadRun.head_any (r := Rg.hrow) (q := view Rg.hrow.prog [74]) (H := Rg.hhook) (ob := Rg.hobs) (M := 20000) (loose := Rg.hnames) (d := HandSHeadRun.topDef Rg.hrow.prog 74) (kwd := []) Rg.hobs_eq
    (by kernel_rfl) (fun s => by kernel_rfl) Rg.hrun (by kernel_rfl) (by kernel_rfl) (by kernel_rfl) (by rfl) (by first | assumption | decide +kernel) (by decide +kernel) ⟨rfl, rfl, rfl, rfl, rfl, by decide +kernel⟩ ?wit ?walk
  case wit => w_witness2
  case walk =>
    refine Rg.walk_ofG (l := PySem.Challenge.rw_rowgames_k30_equations_read_off) (n := 63) (k := 20) (x := "_law_script") rfl (by decide) (by kernel_rfl) ⟨rfl, by decide, by decide⟩ ?_
    intro w mg fa h Y G g0
    obtain ⟨K, KX, c, cc, cs⟩ := Y
    have T := Rg.hsays KX G c cc cs
    have hS : L2.SupC Rg.hrow.prog := ⟨by decide +kernel, by decide +kernel⟩
    have g1 : mg ("law" : PySem.Str) = some (.ref fa) := by
      have e : (HandSHeadRun.topDef Rg.hrow.prog 74).name = ("law" : PySem.Str) := by kernel_rfl
      rw [e] at g0
      exact g0
    have e := g1.symm.trans T.g_law
    cases e
    obtain ⟨fd, F⟩ := T.d_law
    have b := L2.FunD.bindsA (ps := ["_law_script"]) F fun _ _ _ _ _ _ us hl => match us, hl with | [_], _ => rfl
    exact ⟨K, fd, Rg.spLaw K, KX, fun s v => b s [v] rfl, fun H a ns hl _ hS => ⟨a, ns, rfl, hS, fun _ => rfl⟩, fun base _ _ => Rg.ok_law F T hS⟩
