import PyProof.Rows.All
import Wide.All
import OpenK.AllK
import Wide.FinOn
import HandS.ForMost
import HandS.Defaults
import HandS.IsInst
import HandS.Walk
import HandS.Codes
import HandS.DictComp
import HandS.MakeKwOnly
import HandS.Property
import HandS.Replace
import HandS.TupSets
import HandS.HeadEnd
import HandS.HeadHook1
import HandS.HeadHook2
import HandS.HeadHook4
import HandS.Head0
import HandS.Head1
import HandS.Head2
import KE.KOpsOwn
import PySem.Challenge.RW_rowgames_k01_errors
import HandS.ClsMeth
import HandS.Star
import HandS.HeadNt
import PyProof.EqAt
import PyProof.EqKinds
import PyProof.TupleCall
import PyProof.Draws
import PyProof.EnumMake
import PyProof.EnumFor
import PyProof.ReprRoads
import PyProof.StrLaws
import PyProof.CallFns
import PyProof.Rows.SetFrom
import PyProof.ListStr
import PyProof.Rows.StrLawsPart
import HandS.Zip
import KE.GoesZip
import KE.GoesMore
import KE.GoesEnum
import KE.KItemsList
import HandS.SlotsOwn
import HandS.Flow
import OpenK.KMeth
import OpenK.KOps
import KE.KFmtOwn
import HandS.Deep
import KE.KDictKeyed
import KE.KeyNested
import HandS.ForExc
import HandS.ExcInit
import HandS.ExcIs
import HandS.ExcField
import HandS.TryMany
import HandS.Lambda
import HandS.Text
import HandS.Conv
import HandS.ExcValue
import KE.KExcIs
import HandS.Style
import HandS.EndTab
import HandS.NestedK
import HandS.List
import HandS.GenList
import PyProof.ForAny
import PyProof.ListMulRight
import HandS.NoneIn
import HandS.FStr
import HandS.WordsDict
import HandS.RaiseMore
import HandS.ExcCtx
import HandS.HotCalls
import HandS.SuiteRaise
import HandS.RaiseFrom
import HandS.ExcInitHot
import KE.KCallOwn
import PyProof.SumAnyB
import PyProof.WalksMore
import HandS.TupAny
import HandS.Wide
import HandS.Set
import HandS.SetFor
import KE.KDictList
import HandS.DictEq
import HandS.OwnEq
import HandS.More
import KE.KStateDown
import KE.KSortTup
set_option Elab.async false
set_option linter.all false
set_option maxRecDepth 100000
set_option maxHeartbeats 4000000
set_option pp.maxSteps 1500
set_option pp.deepTerms false
set_option pp.deepTerms.threshold 8
set_option Elab.async false
set_option linter.all false
set_option maxRecDepth 100000
set_option maxHeartbeats 4000000
namespace Rg
open PySem PySem.Spec PyProof.Rows L2
def qnObj (P : Addr) (o : Obj) : Option Str := match o.data with
  | .fields vs => match vs.toList, vs.getD 11 .none with
    | _ :: .str n _ :: _, .ref a => if a = P then some n else none
    | _, _ => none
  | _ => none
def qnK (K : PySem.W.Frag) (P : Addr) : Str := (K.findSome? fun p => qnObj P p.2).getD ""
abbrev ExT := List (Str × List Str)
def exmB (K : PySem.W.Frag) (T : ExT) : Bool := T.all fun p => T.all fun q => decide (PySem.W.exmOne K (.ref (He.ga K p.1)) (.ref (He.ga K q.1)) = some (decide (q.1 ∈ p.2)))
def oexB (K : PySem.W.Frag) (C : Addr) : Bool := (match K.lookup C with
  | some ⟨.type "type", _, .cls cd, sl⟩ => (match cd.mro, sl.toList with
    | .ref C' :: bm, [_, _, _, _, some (.builtin n), _] => decide (C' = C) && (decide (n = "ValueError.__new__") && (cd.hasDict && (!cd.hasDel && PySem.HandSPX.refsVE bm)))
    | _, _ => false)
  | _ => false) && (He.eqO (PySem.W.findIn K (.ref C) "__setattr__") (some (some (.builtin "object.__setattr__"))) && (decide (PySem.W.subIn K (.ref C) (.type "BaseException") = some true) &&
  (decide (PySem.W.typeIn K (.ref C) = some (.type "type")) && PySem.W.keepIn K (.ref C))))
def excCB (K : PySem.W.Frag) (D : Addr) : Bool := He.eqO (PySem.W.findIn K (.ref D) "__getattribute__") (some (some (.builtin "BaseException.__getattribute__"))) && (He.eqO (PySem.W.findIn K (.ref D) "__getattr__") (some none) &&
  (decide (PySem.W.subIn K (.ref D) (.type "BaseException") = some true) && (PySem.W.hasDictIn K D && (He.eqO (PySem.W.findIn K (.ref D) "__class__") (some (some (.builtin "object.__class__"))) &&
  (He.eqO (PySem.W.specialIn K (.builtin "object.__class__") "__get__") (some (some (.builtin "getset_descriptor.__get__"))) && (decide (PySem.W.takesIn K (.builtin "object.__class__") = some true) && decide (PySem.W.mroIn K D (.type "object") = some true)))))))
def excsB (K : PySem.W.Frag) (T : ExT) : Bool := T.all fun p => excCB K (He.ga K p.1)
def tyNames : List String := ["NoneType", "str", "tuple", "list", "int", "bool", "dict"]
def kitXB (K : PySem.W.Frag) (T : ExT) : Bool := (T.all fun p => T.all fun q => decide (PySem.W.kitOne K (.ref (He.ga K p.1)) (.ref (He.ga K q.1)) = some (decide (q.1 ∈ p.2)))) && (tyNames.all fun n => T.all fun q => decide (PySem.W.kitOne K (.type n) (.ref (He.ga K q.1)) = some false))
def fldXB (K : PySem.W.Frag) (f : Str) (Cs : List Str) : Bool := Cs.all fun C => excCB K (He.ga K C) && He.eqO (PySem.W.findIn K (.ref (He.ga K C)) f) (some none)
def kitVB (K : PySem.W.Frag) (T : ExT) : Bool := T.all fun p => decide (PySem.W.kitOne K (.ref (He.ga K p.1)) (.type "ValueError") = some true)
def sysB (K : PySem.W.Frag) : Bool := match K.lookup sysModules with
  | some ⟨.type c, _, .dict _ _, _⟩ => decide (c = "dict")
  | _ => false
end Rg
namespace He
open PySem PySem.Spec PyProof.Rows L2
/-- what is looked at: what the names reach, the interpreter's own statics, the dict of the modules -/
def asY (g : Addr → Option Obj) (n : Nat) : List Addr := He5.asA g n ++ [sysModules]
abbrev AlY : Type := AlX × (Bool × List He5.FnW)
def obsY (n : Nat) (fa : List Fa) (fn : List DefD) (ts : List Tab) (tf : List Defn) (ex : PySem.W.Frag → Bool) (cs : List He5.DefA) (g : Addr → Option Obj) : AlY :=
  ((obsT fa fn ts (frT g (asY g n)), ex (frT g (asY g n)) && tabsB g tf (frT g (asY g n))), (cs.all fun d => d.ok (frT g (asY g n)), cs.map fun d => He5.fnA (frT g (asY g n)) (d.at_ (frT g (asY g n)))))
def valY (fn : List DefD) (ts : List Tab) (cs : List He5.DefA) (w : World) : AlY := (valX fn ts w, (true, cs.map He5.DefA.val))
def SaysC (cs : List He5.DefA) (K : PySem.W.Frag) : Prop := (cs.all fun d => d.ok K) = true ∧ (cs.map fun d => He5.fnA K (d.at_ K)) = cs.map He5.DefA.val
theorem SaysC.def_ {cs : List He5.DefA} {K : PySem.W.Frag} (c : SaysC cs K) (i : Nat) {d : He5.DefA} (h : cs[i]? = some d := by rfl) : ∃ fd, L2.FunD K d.name d.qual d.params d.body d.scope (d.dvs K) (d.kws K) (d.at_ K) fd := by
  have e2 : (cs.map fun d => He5.fnA K (d.at_ K))[i]? = (cs.map He5.DefA.val)[i]? := by rw [c.2]
  rw [List.getElem?_map, List.getElem?_map, h] at e2
  exact He5.DefA.funD (Option.some.inj e2) (List.all_eq_true.mp c.1 d (List.mem_of_getElem? h))
theorem saysX_of' {as : List Addr} {fa : List Fa} {fn : List DefD} {ts : List Tab} {tf : List Defn} {ex : PySem.W.Frag → Bool} {w : World} {h : Heap} (e1 : obsT fa fn ts (frT h.get? as) = valT fn ts w) (e2 : (ex (frT h.get? as) && tabsB h.get? tf (frT h.get? as)) = true) : SaysX fa fn ts tf ex w h (frT h.get? as) := by
  obtain ⟨h1, h2⟩ := ba e2
  have key : ∀ p ∈ tf, PySem.W.codeHdIn (frT h.get? as) (cT (frT h.get? as) p).1 (cT (frT h.get? as) p).2 = true ∧ ∃ o, h.get? (cT (frT h.get? as) p).2 = some o ∧ emptyTab o = true := fun p hp => by
    obtain ⟨h3, h4⟩ := ba (List.all_eq_true.mp h2 p hp)
    refine ⟨h3, ?_⟩
    cases q : h.get? (cT (frT h.get? as) p).2 with
    | none =>
      rw [q] at h4
      cases h4
    | some o =>
      rw [q] at h4
      exact ⟨o, rfl, h4⟩
  exact ⟨e1, h1, fun p hp => (key p hp).1, fun p hp => by
    obtain ⟨_, o, q, z⟩ := key p hp
    exact frT_none q z, fun p hp => by
    obtain ⟨_, o, q, z⟩ := key p hp
    rw [q, emptyTab_eq z]⟩
def hookY (n : Nat) (fa : List Fa) (fn : List DefD) (ts : List Tab) (tf : List Defn) (ex : PySem.W.Frag → Bool) (cs : List He5.DefA) : PySem.W.Hook where
  α := AlY
  obs := fun s => obsY n fa fn ts tf ex cs s.heap.get?
  val := fun w => valY fn ts cs w
  says := fun w h => ∃ K : PySem.W.Frag, K.In h ∧ SaysX fa fn ts tf ex w h K ∧ SaysC cs K
  of := fun _ _ e => ⟨_, frT_in, saysX_of' (congrArg (fun z : AlY => z.1.1) e) (congrArg (fun z : AlY => z.1.2) e), congrArg (fun z : AlY => z.2.1) e, congrArg (fun z : AlY => z.2.2) e⟩
  keeps := fun _ _ _ ⟨K, hK, c, cc⟩ k => ⟨K, PySem.W.Frag.In.keeps hK k, ⟨c.t, c.more, c.hd, c.out, fun p hp => k _ _ (c.empty p hp)⟩, cc⟩
theorem obsY_eq {n : Nat} {fa : List Fa} {fn : List DefD} {ts : List Tab} {tf : List Defn} {ex : PySem.W.Frag → Bool} {cs : List He5.DefA} {g : Addr → Option Obj} {s : Shared} (h : ∀ a, g a = s.heap.get? a) : obsY n fa fn ts tf ex cs g = (hookY n fa fn ts tf ex cs).obs s := by
  have e : g = s.heap.get? := funext h
  rw [e] <;> rfl
end He
namespace PySem.W
open PySem PySem.Calls PyProof.Rows
end PySem.W

set_option Elab.async false
set_option linter.all false
set_option maxRecDepth 100000
set_option maxHeartbeats 4000000
namespace Rg
open PySem PySem.W PySem.Calls PyProof.Rows HandSHeadRun
section
variable {α : Type}
def fc0 {β : Type} (x : β) (k : β → α) : α := k x
theorem fc0_eq {β : Type} (x : β) (k : β → α) : fc0 x k = k x := rfl
def fcB (b : Bool) (k : Bool → α) : α := match b with
  | true => k true
  | false => k false
theorem fcB_eq (b : Bool) (k : Bool → α) : fcB b k = k b := by cases b <;> rfl
def fcI (i : Int) (k : Int → α) : α := match i with
  | .ofNat n => frNat n fun n => k (.ofNat n)
  | .negSucc n => frNat n fun n => k (.negSucc n)
theorem fcI_eq (i : Int) (k : Int → α) : fcI i k = k i := by
  cases i with
  | ofNat n => exact frNat_eq n (fun n => k (.ofNat n))
  | negSucc n => exact frNat_eq n (fun n => k (.negSucc n))
def fcO {β : Type} (f : β → (β → α) → α) (o : Option β) (k : Option β → α) : α := match o with
  | none => k none
  | some x => f x fun x => k (some x)
theorem fcO_eq {β : Type} {f : β → (β → α) → α} (hf : ∀ x k, f x k = k x) (o : Option β) (k : Option β → α) : fcO f o k = k o := by
  cases o with
  | none => rfl
  | some x => exact hf x _
def fcL {β : Type} (f : β → (β → α) → α) : List β → (List β → α) → α
  | [], k => k []
  | x :: r, k => f x fun x => fcL f r fun r => k (x :: r)
theorem fcL_eq {β : Type} {f : β → (β → α) → α} (hf : ∀ x k, f x k = k x) : ∀ (l : List β) (k : List β → α), fcL f l k = k l
  | [], _ => rfl
  | x :: r, k => by
    show f x (fun x => fcL f r fun r => k (x :: r)) = _
    rw [hf, fcL_eq hf r]
def fcA {β : Type} (f : β → (β → α) → α) (a : Array β) (k : Array β → α) : α := match a with
  | ⟨l⟩ => fcL f l fun l => k ⟨l⟩
theorem fcA_eq {β : Type} {f : β → (β → α) → α} (hf : ∀ x k, f x k = k x) (a : Array β) (k : Array β → α) : fcA f a k = k a := by
  obtain ⟨l⟩ := a
  exact fcL_eq hf l _
def fcP {β γ : Type} (f : β → (β → α) → α) (g : γ → (γ → α) → α) (p : β × γ) (k : β × γ → α) : α := match p with
  | (a, b) => f a fun a => g b fun b => k (a, b)
theorem fcP_eq {β γ : Type} {f : β → (β → α) → α} {g : γ → (γ → α) → α} (hf : ∀ x k, f x k = k x) (hg : ∀ x k, g x k = k x) (p : β × γ) (k : β × γ → α) : fcP f g p k = k p := by
  obtain ⟨a, b⟩ := p
  show f a (fun a => g b fun b => k (a, b)) = _
  rw [hf, hg]

def fcV (x : Value) (k : Value → α) : α := match x with
  | Value.none => k Value.none
  | Value.ellipsis => k Value.ellipsis
  | Value.notImplemented => k Value.notImplemented
  | Value.bool x0 => fc0 x0 fun x0 => k (Value.bool x0)
  | Value.int x0 x1 => fc0 x0 fun x0 => frNat x1 fun x1 => k (Value.int x0 x1)
  | Value.float x0 x1 => fc0 x0 fun x0 => frNat x1 fun x1 => k (Value.float x0 x1)
  | Value.str x0 x1 => fc0 x0 fun x0 => frNat x1 fun x1 => k (Value.str x0 x1)
  | Value.bytes x0 x1 => fc0 x0 fun x0 => frNat x1 fun x1 => k (Value.bytes x0 x1)
  | Value.type x0 => fc0 x0 fun x0 => k (Value.type x0)
  | Value.builtin x0 => fc0 x0 fun x0 => k (Value.builtin x0)
  | Value.ref x0 => frNat x0 fun x0 => k (Value.ref x0)
theorem fcV_eq (x : Value) (k : Value → α) : fcV x k = k x := by
  cases x with
  | none =>
    rfl
  | ellipsis =>
    rfl
  | notImplemented =>
    rfl
  | bool x0 =>
    show (fc0 x0 fun x0 => k (Value.bool x0)) = _
    rfl
  | int x0 x1 =>
    show (fc0 x0 fun x0 => frNat x1 fun x1 => k (Value.int x0 x1)) = _
    simp only [frNat_eq, fc0_eq]
  | float x0 x1 =>
    show (fc0 x0 fun x0 => frNat x1 fun x1 => k (Value.float x0 x1)) = _
    simp only [frNat_eq, fc0_eq]
  | str x0 x1 =>
    show (fc0 x0 fun x0 => frNat x1 fun x1 => k (Value.str x0 x1)) = _
    simp only [frNat_eq, fc0_eq]
  | bytes x0 x1 =>
    show (fc0 x0 fun x0 => frNat x1 fun x1 => k (Value.bytes x0 x1)) = _
    simp only [frNat_eq, fc0_eq]
  | type x0 =>
    show (fc0 x0 fun x0 => k (Value.type x0)) = _
    rfl
  | builtin x0 =>
    show (fc0 x0 fun x0 => k (Value.builtin x0)) = _
    rfl
  | ref x0 =>
    show (frNat x0 fun x0 => k (Value.ref x0)) = _
    simp only [frNat_eq, fc0_eq]
def fcE (x : DictEntry) (k : DictEntry → α) : α := match x with
  | DictEntry.mk x0 x1 x2 => fc0 x0 fun x0 => fcV x1 fun x1 => fcV x2 fun x2 => k (DictEntry.mk x0 x1 x2)
theorem fcE_eq (x : DictEntry) (k : DictEntry → α) : fcE x k = k x := by
  cases x with
  | mk x0 x1 x2 =>
    show (fc0 x0 fun x0 => fcV x1 fun x1 => fcV x2 fun x2 => k (DictEntry.mk x0 x1 x2)) = _
    simp only [fcV_eq, fc0_eq]
def fcCd (x : ClassData) (k : ClassData → α) : α := match x with
  | ClassData.mk x0 x1 x2 x3 x4 x5 x6 x7 x8 x9 x10 => fc0 x0 fun x0 => (fcL fcV) x1 fun x1 => (fcL fcV) x2 fun x2 => frNat x3 fun x3 => fc0 x4 fun x4 => fcB x5 fun x5 => (fcL fc0) x6 fun x6 => (fcL fcV) x7 fun x7 => fcB x8 fun x8 => (fcO fcB) x9 fun x9 => fcB x10 fun x10 => k (ClassData.mk x0 x1 x2 x3 x4 x5 x6 x7 x8 x9 x10)
theorem fcCd_eq (x : ClassData) (k : ClassData → α) : fcCd x k = k x := by
  cases x with
  | mk x0 x1 x2 x3 x4 x5 x6 x7 x8 x9 x10 =>
    show (fc0 x0 fun x0 => (fcL fcV) x1 fun x1 => (fcL fcV) x2 fun x2 => frNat x3 fun x3 => fc0 x4 fun x4 => fcB x5 fun x5 => (fcL fc0) x6 fun x6 => (fcL fcV) x7 fun x7 => fcB x8 fun x8 => (fcO fcB) x9 fun x9 => fcB x10 fun x10 => k (ClassData.mk x0 x1 x2 x3 x4 x5 x6 x7 x8 x9 x10)) = _
    simp only [(fcL_eq fcV_eq), frNat_eq, fcB_eq, (fcL_eq fc0_eq), (fcO_eq fcB_eq), fc0_eq]
def fcBd (x : FuncBody) (k : FuncBody → α) : α := match x with
  | FuncBody.stmts x0 => fc0 x0 fun x0 => k (FuncBody.stmts x0)
  | FuncBody.expr x0 => fc0 x0 fun x0 => k (FuncBody.expr x0)
theorem fcBd_eq (x : FuncBody) (k : FuncBody → α) : fcBd x k = k x := by
  cases x with
  | stmts x0 =>
    show (fc0 x0 fun x0 => k (FuncBody.stmts x0)) = _
    rfl
  | expr x0 =>
    show (fc0 x0 fun x0 => k (FuncBody.expr x0)) = _
    rfl
def fcFd (x : FuncData) (k : FuncData → α) : α := match x with
  | FuncData.mk x0 x1 x2 x3 x4 x5 x6 x7 x8 x9 x10 x11 x12 x13 x14 => fc0 x0 fun x0 => fc0 x1 fun x1 => fc0 x2 fun x2 => fcBd x3 fun x3 => fc0 x4 fun x4 => frNat x5 fun x5 => (fcL (fcP fc0 frNat)) x6 fun x6 => fcV x7 fun x7 => fcV x8 fun x8 => fcV x9 fun x9 => fcV x10 fun x10 => (fcO frNat) x11 fun x11 => fcV x12 fun x12 => fcV x13 fun x13 => frNat x14 fun x14 => k (FuncData.mk x0 x1 x2 x3 x4 x5 x6 x7 x8 x9 x10 x11 x12 x13 x14)
theorem fcFd_eq (x : FuncData) (k : FuncData → α) : fcFd x k = k x := by
  cases x with
  | mk x0 x1 x2 x3 x4 x5 x6 x7 x8 x9 x10 x11 x12 x13 x14 =>
    show (fc0 x0 fun x0 => fc0 x1 fun x1 => fc0 x2 fun x2 => fcBd x3 fun x3 => fc0 x4 fun x4 => frNat x5 fun x5 => (fcL (fcP fc0 frNat)) x6 fun x6 => fcV x7 fun x7 => fcV x8 fun x8 => fcV x9 fun x9 => fcV x10 fun x10 => (fcO frNat) x11 fun x11 => fcV x12 fun x12 => fcV x13 fun x13 => frNat x14 fun x14 => k (FuncData.mk x0 x1 x2 x3 x4 x5 x6 x7 x8 x9 x10 x11 x12 x13 x14)) = _
    simp only [fcBd_eq, frNat_eq, (fcL_eq (fcP_eq fc0_eq frNat_eq)), fcV_eq, (fcO_eq frNat_eq), fc0_eq]
def fcD (x : Data) (k : Data → α) : α := match x with
  | Data.plain => k Data.plain
  | Data.prim x0 => fcV x0 fun x0 => k (Data.prim x0)
  | Data.seq x0 x1 => (fcA fcV) x0 fun x0 => frNat x1 fun x1 => k (Data.seq x0 x1)
  | Data.dict x0 x1 => (fcA fcE) x0 fun x0 => frNat x1 fun x1 => k (Data.dict x0 x1)
  | Data.set x0 x1 x2 => (fcA (fcP fc0 fcV)) x0 fun x0 => frNat x1 fun x1 => fc0 x2 fun x2 => k (Data.set x0 x1 x2)
  | Data.bytearray x0 x1 => fc0 x0 fun x0 => frNat x1 fun x1 => k (Data.bytearray x0 x1)
  | Data.cell x0 => (fcO fcV) x0 fun x0 => k (Data.cell x0)
  | Data.func x0 => fcFd x0 fun x0 => k (Data.func x0)
  | Data.cls x0 => fcCd x0 fun x0 => k (Data.cls x0)
  | Data.fields x0 => (fcA fcV) x0 fun x0 => k (Data.fields x0)
  | Data.freed => k Data.freed
theorem fcD_eq (x : Data) (k : Data → α) : fcD x k = k x := by
  cases x with
  | plain =>
    rfl
  | prim x0 =>
    show (fcV x0 fun x0 => k (Data.prim x0)) = _
    simp only [fcV_eq, fc0_eq]
  | seq x0 x1 =>
    show ((fcA fcV) x0 fun x0 => frNat x1 fun x1 => k (Data.seq x0 x1)) = _
    simp only [(fcA_eq fcV_eq), frNat_eq, fc0_eq]
  | dict x0 x1 =>
    show ((fcA fcE) x0 fun x0 => frNat x1 fun x1 => k (Data.dict x0 x1)) = _
    simp only [(fcA_eq fcE_eq), frNat_eq, fc0_eq]
  | set x0 x1 x2 =>
    show ((fcA (fcP fc0 fcV)) x0 fun x0 => frNat x1 fun x1 => fc0 x2 fun x2 => k (Data.set x0 x1 x2)) = _
    simp only [(fcA_eq (fcP_eq fc0_eq fcV_eq)), frNat_eq, fc0_eq]
  | bytearray x0 x1 =>
    show (fc0 x0 fun x0 => frNat x1 fun x1 => k (Data.bytearray x0 x1)) = _
    simp only [frNat_eq, fc0_eq]
  | cell x0 =>
    show ((fcO fcV) x0 fun x0 => k (Data.cell x0)) = _
    simp only [(fcO_eq fcV_eq), fc0_eq]
  | func x0 =>
    show (fcFd x0 fun x0 => k (Data.func x0)) = _
    simp only [fcFd_eq, fc0_eq]
  | cls x0 =>
    show (fcCd x0 fun x0 => k (Data.cls x0)) = _
    simp only [fcCd_eq, fc0_eq]
  | fields x0 =>
    show ((fcA fcV) x0 fun x0 => k (Data.fields x0)) = _
    simp only [(fcA_eq fcV_eq), fc0_eq]
  | freed =>
    rfl
def fcOb (x : Obj) (k : Obj → α) : α := match x with
  | Obj.mk x0 x1 x2 x3 => fcV x0 fun x0 => (fcO frNat) x1 fun x1 => fcD x2 fun x2 => (fcA (fcO fcV)) x3 fun x3 => k (Obj.mk x0 x1 x2 x3)
theorem fcOb_eq (x : Obj) (k : Obj → α) : fcOb x k = k x := by
  cases x with
  | mk x0 x1 x2 x3 =>
    show (fcV x0 fun x0 => (fcO frNat) x1 fun x1 => fcD x2 fun x2 => (fcA (fcO fcV)) x3 fun x3 => k (Obj.mk x0 x1 x2 x3)) = _
    simp only [fcV_eq, (fcO_eq frNat_eq), fcD_eq, (fcA_eq (fcO_eq fcV_eq)), fc0_eq]
def fcT : PySem.W.BT → (PySem.W.BT → α) → α
  | .nil, k => k .nil
  | .node v l r, k => fcOb v fun v => fcT l fun l => fcT r fun r => k (.node v l r)
theorem fcT_eq : ∀ (t : PySem.W.BT) (k : PySem.W.BT → α), fcT t k = k t
  | .nil, _ => rfl
  | .node v l r, k => by
    show fcOb v (fun v => fcT l fun l => fcT r fun r => k (.node v l r)) = _
    rw [fcOb_eq, fcT_eq l, fcT_eq r]
def fcLf (x : Life) (k : Life → α) : α := match x with
  | Life.mk x0 x1 x2 x3 x4 x5 x6 x7 x8 x9 x10 x11 x12 x13 x14 x15 x16 x17 x18 x19 x20 x21 => (fcL frNat) x0 fun x0 => (fcL frNat) x1 fun x1 => (fcL frNat) x2 fun x2 => frNat x3 fun x3 => (fcL (fcP frNat frNat)) x4 fun x4 => (fcL frNat) x5 fun x5 => fcB x6 fun x6 => (fcA frNat) x7 fun x7 => (fcL frNat) x8 fun x8 => frNat x9 fun x9 => fcB x10 fun x10 => fcB x11 fun x11 => fcB x12 fun x12 => fcI x13 fun x13 => (fcL fcI) x14 fun x14 => fcB x15 fun x15 => frNat x16 fun x16 => fcB x17 fun x17 => (fcL frNat) x18 fun x18 => (fcL frNat) x19 fun x19 => frNat x20 fun x20 => fcB x21 fun x21 => k (Life.mk x0 x1 x2 x3 x4 x5 x6 x7 x8 x9 x10 x11 x12 x13 x14 x15 x16 x17 x18 x19 x20 x21)
theorem fcLf_eq (x : Life) (k : Life → α) : fcLf x k = k x := by
  cases x with
  | mk x0 x1 x2 x3 x4 x5 x6 x7 x8 x9 x10 x11 x12 x13 x14 x15 x16 x17 x18 x19 x20 x21 =>
    show ((fcL frNat) x0 fun x0 => (fcL frNat) x1 fun x1 => (fcL frNat) x2 fun x2 => frNat x3 fun x3 => (fcL (fcP frNat frNat)) x4 fun x4 => (fcL frNat) x5 fun x5 => fcB x6 fun x6 => (fcA frNat) x7 fun x7 => (fcL frNat) x8 fun x8 => frNat x9 fun x9 => fcB x10 fun x10 => fcB x11 fun x11 => fcB x12 fun x12 => fcI x13 fun x13 => (fcL fcI) x14 fun x14 => fcB x15 fun x15 => frNat x16 fun x16 => fcB x17 fun x17 => (fcL frNat) x18 fun x18 => (fcL frNat) x19 fun x19 => frNat x20 fun x20 => fcB x21 fun x21 => k (Life.mk x0 x1 x2 x3 x4 x5 x6 x7 x8 x9 x10 x11 x12 x13 x14 x15 x16 x17 x18 x19 x20 x21)) = _
    simp only [(fcL_eq frNat_eq), frNat_eq, (fcL_eq (fcP_eq frNat_eq frNat_eq)), fcB_eq, (fcA_eq frNat_eq), fcI_eq, (fcL_eq fcI_eq), fc0_eq]
def fcDr (x : Drawn) (k : Drawn → α) : α := match x with
  | Drawn.mk x0 x1 x2 x3 => frNat x0 fun x0 => frNat x1 fun x1 => frNat x2 fun x2 => frNat x3 fun x3 => k (Drawn.mk x0 x1 x2 x3)
theorem fcDr_eq (x : Drawn) (k : Drawn → α) : fcDr x k = k x := by
  cases x with
  | mk x0 x1 x2 x3 =>
    show (frNat x0 fun x0 => frNat x1 fun x1 => frNat x2 fun x2 => frNat x3 fun x3 => k (Drawn.mk x0 x1 x2 x3)) = _
    simp only [frNat_eq, fc0_eq]
def fcSh (x : SharedT) (k : SharedT → α) : α := match x with
  | SharedT.mk x0 x1 x2 x3 x4 x5 x6 => fcT x0 fun x0 => frNat x1 fun x1 => fcLf x2 fun x2 => (fcA fc0) x3 fun x3 => fcDr x4 fun x4 => frNat x5 fun x5 => fc0 x6 fun x6 => k (SharedT.mk x0 x1 x2 x3 x4 x5 x6)
theorem fcSh_eq (x : SharedT) (k : SharedT → α) : fcSh x k = k x := by
  cases x with
  | mk x0 x1 x2 x3 x4 x5 x6 =>
    show (fcT x0 fun x0 => frNat x1 fun x1 => fcLf x2 fun x2 => (fcA fc0) x3 fun x3 => fcDr x4 fun x4 => frNat x5 fun x5 => fc0 x6 fun x6 => k (SharedT.mk x0 x1 x2 x3 x4 x5 x6)) = _
    simp only [fcT_eq, frNat_eq, fcLf_eq, (fcA_eq fc0_eq), fcDr_eq, fc0_eq]
end
/-- so many steps, none of them the last -/
def goP (st : SharedT → Thread → Option (SharedT × Thread)) (n0 : Nat) (ann : Option Value) : Nat → SharedT → Thread → Option (SharedT × Thread)
  | 0, s, t => some (s, t)
  | m + 1, s, t => match through t with
    | true => none
    | false => match stepOk n0 ann t with
      | false => none
      | true => match st s t with
        | some (s', t') => frS s' fun s' => goP st n0 ann m s' t'
        | none => none
theorem goP_ok {st : SharedT → Thread → Option (SharedT × Thread)} {n0 k : Nat} {ann : Option Value} : ∀ {m : Nat} {s : SharedT} {t : Thread} {x : SharedT × Thread}, goP st n0 ann m s t = some x → goF st n0 ann (k + m) s t = goF st n0 ann k x.1 x.2
  | 0, s, t, x, h => by
    cases h
    rfl
  | m + 1, s, t, x, h => by
    have h1 : (match through t with
      | true => none
      | false => match stepOk n0 ann t with
        | false => none
        | true => match st s t with
          | some (s', t') => frS s' fun s' => goP st n0 ann m s' t'
          | none => none) = some x := h
    show (match through t with
      | true => some s
      | false => match stepOk n0 ann t with
        | false => none
        | true => match st s t with
          | some (s', t') => frS s' fun s' => goF st n0 ann (k + m) s' t'
          | none => none) = _
    cases ht : through t with
    | true =>
      rw [ht] at h1
      cases h1
    | false =>
      rw [ht] at h1
      cases hk : stepOk n0 ann t with
      | false =>
        rw [hk] at h1
        cases h1
      | true =>
        rw [hk] at h1
        cases hs : st s t with
        | none =>
          rw [hs] at h1
          cases h1
        | some r =>
          obtain ⟨s2, t2⟩ := r
          rw [hs] at h1
          have h3 : (frS s2 fun s' => goP st n0 ann m s' t2) = some x := h1
          rw [frS_eq] at h3
          show (frS s2 fun s' => goF st n0 ann (k + m) s' t2) = _
          rw [frS_eq]
          exact goP_ok h3
/-- so many steps from the boot -/
noncomputable def endP (st : SharedT → Thread → Option (SharedT × Thread)) (m : Nat) (p : Program) (w : World) (os : OsState) : Option (SharedT × Thread) := match putAll (boot_heap w.params).objs.toList .nil 0 with
  | some (t, n) => frNat n fun n0 => goP st n0 (bootAnn w) m (bootT w os (t, n0)) (topStub p)
  | none => none
/-- how many objects the boot lays -/
noncomputable def bootN (w : World) : Nat := match putAll (boot_heap w.params).objs.toList .nil 0 with
  | some (_, n) => n
  | none => 0
theorem endP_ok {st : SharedT → Thread → Option (SharedT × Thread)} {m k : Nat} {p : Program} {w : World} {os : OsState} {x : SharedT × Thread} (h : endP st m p w os = some x) : endF st (k + m) p w os = goF st (bootN w) (bootAnn w) k x.1 x.2 := by
  unfold endP at h
  unfold endF bootN
  cases e : putAll (boot_heap w.params).objs.toList .nil 0 with
  | none =>
    rw [e] at h
    cases h
  | some r =>
    obtain ⟨t, n⟩ := r
    rw [e] at h
    have h1 : (frNat n fun n0 => goP st n0 (bootAnn w) m (bootT w os (t, n0)) (topStub p)) = some x := h
    rw [frNat_eq] at h1
    show (frNat n fun n0 => goF st n0 (bootAnn w) (k + m) (bootT w os (t, n0)) (topStub p)) = _
    rw [frNat_eq]
    exact goP_ok h1
structure Cap (r : Option (SharedT × Thread)) where
  v : SharedT × Thread
  h : r = some v
def myq (_ _ _ : Nat) : Sem Unit := .pure ()
def ctx0 : Ctx := { code := .builtin "" {}, handled := none, own := none, below := [], past := none }
def ar0 : Around := { handled := ctx0.handled, depth := frameCount ctx0.below + ctx0.code.weight, units := ctx0.units }
def myCmp (p : Program) (w : World) : Nat → Nat → (Bool → Shared → Prop) → Shared → Prop := fun _ _ C s => wpAny (model p w) ar0 (myq 0 0 0) (fun _ s' => C true s') (fun _ _ => False) s
theorem myCmp_get {p : Program} {w : World} {i j : Nat} {C : Bool → Shared → Prop} {s : Shared} (h : myCmp p w i j C s) : C true s := by
  have h1 : wpAny (model p w) ar0 (myq 0 0 0) (fun _ s' => C true s') (fun _ _ => False) s := h
  have h2 := h1 ctx0 default ⟨rfl, Nat.le_refl _, (fun l e => nomatch e), (fun g e => nomatch e), Nat.le_refl _⟩
  exact h2
theorem my_wp2 {p : Program} {w : World} {i j k : Nat} {s : Shared} {x : Option (SharedT × Thread)} {m : SharedT × Thread} (h : x = some m) : wpAny (model p w) ar0 (myq i j k) (fun _ s' => KasNext (myCmp p w) (fun _ => .ret x) (fun x _ => x = some m) true s') (fun _ _ => False) s := fun Γ q hI => h
/-- the run, its end forced -/
def treeR (r : Option (SharedT × Thread)) : KasT (Option (SharedT × Thread)) := match r with
  | some (s, t) => fcSh s fun s => .ask 0 0 fun _ => .ret (some (s, t))
  | none => .ret none
theorem cap_ok {p : Program} {w : World} {r : Option (SharedT × Thread)} {m : SharedT × Thread} {s : Shared} (h : KasT.kasWp (myCmp p w) (treeR r) (fun x _ => x = some m) s) : r = some m := by
  cases r with
  | none => exact h
  | some x =>
    obtain ⟨a, t⟩ := x
    have h1 : KasT.kasWp (myCmp p w) (fcSh a fun s => .ask 0 0 fun _ => .ret (some (s, t))) (fun x _ => x = some m) s := h
    rw [fcSh_eq] at h1
    exact myCmp_get h1
end Rg

set_option Elab.async false
set_option linter.all false
set_option maxRecDepth 100000
set_option maxHeartbeats 4000000
set_option pp.maxSteps 1500
set_option pp.deepTerms false
set_option pp.deepTerms.threshold 8
namespace Rg
open PySem PySem.Spec PyProof.Rows L2

def topS (i : Nat) : Stmt := PySem.Challenge.pw_rowgames_k01_errors.main.body.getD i (.Pass ⟨0, 0, 0, 0⟩)
abbrev s_draw : Stmt := topS 48
abbrev s_pen : Stmt := topS 47
abbrev s_pick : Stmt := topS 49
abbrev s_isInt : Stmt := topS 30
abbrev s_isLetter : Stmt := topS 31
abbrev s_isRow : Stmt := topS 32
abbrev s_needRow : Stmt := topS 33
abbrev s_weightOf : Stmt := topS 35
abbrev s_isStretch : Stmt := topS 39
abbrev s_winit : Stmt := inClass (topS 36) 0
abbrev s_wlen : Stmt := inClass (topS 36) 2
abbrev s_wget : Stmt := inClass (topS 36) 5
abbrev s_weq : Stmt := inClass (topS 36) 6
abbrev s_wcall : Stmt := inClass (topS 36) 7
abbrev s_rinit : Stmt := inClass (topS 40) 1
abbrev s_req : Stmt := inClass (topS 40) 9
abbrev s_lighter : Stmt := topS 44
abbrev s_binit : Stmt := inClass (topS 45) 1
abbrev s_blen : Stmt := inClass (topS 45) 4
abbrev s_bget : Stmt := inClass (topS 45) 6
abbrev s_value : Stmt := topS 51
abbrev s_inputs : Stmt := topS 52
abbrev s_field : Stmt := topS 53
abbrev s_group : Stmt := topS 54
abbrev s_kinds : Stmt := topS 55
abbrev s_named : Stmt := topS 56
abbrev s_heavier : Stmt := topS 57
abbrev s_law : Stmt := topS 58
abbrev s_xBadSigns : Stmt := inClass (topS 5) 0
abbrev s_xBadRow : Stmt := inClass (topS 6) 0
abbrev s_xBadRule : Stmt := inClass (topS 7) 0
abbrev s_xBadBook : Stmt := inClass (topS 8) 0
abbrev s_xHeavier : Stmt := inClass (topS 9) 0
abbrev s_xUnlessened : Stmt := inClass (topS 10) 0
abbrev s_xBadMove : Stmt := inClass (topS 11) 0
abbrev s_xBadMachine : Stmt := inClass (topS 12) 0
abbrev s_xBadGame : Stmt := inClass (topS 13) 0
abbrev s_xBadSeat : Stmt := inClass (topS 14) 0
abbrev s_xOtherSigns : Stmt := inClass (topS 15) 0
abbrev s_xBadNumber : Stmt := inClass (topS 16) 0
abbrev s_xBadText : Stmt := inClass (topS 17) 0
abbrev s_xBadLine : Stmt := inClass (topS 18) 0
abbrev s_xTooMany : Stmt := inClass (topS 19) 0
abbrev s_xNoMove : Stmt := inClass (topS 20) 0
abbrev s_xNotWon : Stmt := inClass (topS 21) 0
abbrev s_xNotRight : Stmt := inClass (topS 22) 0
abbrev s_xNotKept : Stmt := inClass (topS 23) 0
abbrev s_xNotThere : Stmt := inClass (topS 24) 0
abbrev a_Weights (K : PySem.W.Frag) : Addr := He.ga K "Weights"
abbrev a_Rule (K : PySem.W.Frag) : Addr := He.ga K "Rule"
abbrev a_Book (K : PySem.W.Frag) : Addr := He.ga K "Book"
abbrev a_GameError (K : PySem.W.Frag) : Addr := He.ga K "GameError"
abbrev a_BadInput (K : PySem.W.Frag) : Addr := He.ga K "BadInput"
abbrev a_NoAnswer (K : PySem.W.Frag) : Addr := He.ga K "NoAnswer"
abbrev a_BadSigns (K : PySem.W.Frag) : Addr := He.ga K "BadSigns"
abbrev a_BadRow (K : PySem.W.Frag) : Addr := He.ga K "BadRow"
abbrev a_BadRule (K : PySem.W.Frag) : Addr := He.ga K "BadRule"
abbrev a_BadBook (K : PySem.W.Frag) : Addr := He.ga K "BadBook"
abbrev a_Heavier (K : PySem.W.Frag) : Addr := He.ga K "Heavier"
abbrev a_Unlessened (K : PySem.W.Frag) : Addr := He.ga K "Unlessened"
abbrev a_BadMove (K : PySem.W.Frag) : Addr := He.ga K "BadMove"
abbrev a_BadMachine (K : PySem.W.Frag) : Addr := He.ga K "BadMachine"
abbrev a_BadGame (K : PySem.W.Frag) : Addr := He.ga K "BadGame"
abbrev a_BadSeat (K : PySem.W.Frag) : Addr := He.ga K "BadSeat"
abbrev a_OtherSigns (K : PySem.W.Frag) : Addr := He.ga K "OtherSigns"
abbrev a_BadNumber (K : PySem.W.Frag) : Addr := He.ga K "BadNumber"
abbrev a_BadText (K : PySem.W.Frag) : Addr := He.ga K "BadText"
abbrev a_BadLine (K : PySem.W.Frag) : Addr := He.ga K "BadLine"
abbrev a_TooMany (K : PySem.W.Frag) : Addr := He.ga K "TooMany"
abbrev a_NoMove (K : PySem.W.Frag) : Addr := He.ga K "NoMove"
abbrev a_NotWon (K : PySem.W.Frag) : Addr := He.ga K "NotWon"
abbrev a_NotRight (K : PySem.W.Frag) : Addr := He.ga K "NotRight"
abbrev a_NotKept (K : PySem.W.Frag) : Addr := He.ga K "NotKept"
abbrev a_NotThere (K : PySem.W.Frag) : Addr := He.ga K "NotThere"
abbrev a_NothingPlayed (K : PySem.W.Frag) : Addr := He.ga K "NothingPlayed"
def exT : ExT := [("GameError", ["GameError"]), ("BadInput", ["BadInput", "GameError"]), ("NoAnswer", ["NoAnswer", "GameError"]), ("BadSigns", ["BadSigns", "BadInput", "GameError"]), ("BadRow", ["BadRow", "BadInput", "GameError"]), ("BadRule", ["BadRule", "BadInput", "GameError"]), ("BadBook", ["BadBook", "BadInput", "GameError"]), ("Heavier", ["Heavier", "BadInput", "GameError"]), ("Unlessened", ["Unlessened", "BadInput", "GameError"]), ("BadMove", ["BadMove", "BadInput", "GameError"]), ("BadMachine", ["BadMachine", "BadInput", "GameError"]), ("BadGame", ["BadGame", "BadInput", "GameError"]), ("BadSeat", ["BadSeat", "BadInput", "GameError"]), ("OtherSigns", ["OtherSigns", "BadInput", "GameError"]), ("BadNumber", ["BadNumber", "BadInput", "GameError"]), ("BadText", ["BadText", "BadInput", "GameError"]), ("BadLine", ["BadLine", "BadInput", "GameError"]), ("TooMany", ["TooMany", "NoAnswer", "GameError"]), ("NoMove", ["NoMove", "NoAnswer", "GameError"]), ("NotWon", ["NotWon", "NoAnswer", "GameError"]), ("NotRight", ["NotRight", "NoAnswer", "GameError"]), ("NotKept", ["NotKept", "NoAnswer", "GameError"]), ("NotThere", ["NotThere", "NoAnswer", "GameError"]), ("NothingPlayed", ["NothingPlayed", "NoAnswer", "GameError"])]
end Rg
namespace Rg
open PySem PySem.Spec PyProof.Rows L2

def hd_draw : He.DefD := ⟨("_law_draw", none), "_law_draw", "_law_draw", defArgs s_draw, defBody s_draw, defScope s_draw, [], []⟩
def hd_pen : He.DefD := ⟨("_law_pen", none), "_law_pen", "_law_pen", defArgs s_pen, defBody s_pen, defScope s_pen, [], []⟩
def hd_pick : He.DefD := ⟨("_law_pick", none), "_law_pick", "_law_pick", defArgs s_pick, defBody s_pick, defScope s_pick, [], []⟩
def hd_isInt : He.DefD := ⟨("is_integer", none), "is_integer", "is_integer", defArgs s_isInt, defBody s_isInt, defScope s_isInt, [], []⟩
def hd_isLetter : He.DefD := ⟨("is_letter", none), "is_letter", "is_letter", defArgs s_isLetter, defBody s_isLetter, defScope s_isLetter, [], []⟩
def hd_isRow : He.DefD := ⟨("is_row", none), "is_row", "is_row", defArgs s_isRow, defBody s_isRow, defScope s_isRow, [], []⟩
def hd_needRow : He.DefD := ⟨("need_row", none), "need_row", "need_row", defArgs s_needRow, defBody s_needRow, defScope s_needRow, [], []⟩
def hd_weightOf : He.DefD := ⟨("weight_of", none), "weight_of", "weight_of", defArgs s_weightOf, defBody s_weightOf, defScope s_weightOf, [], []⟩
def hd_isStretch : He.DefD := ⟨("is_stretch", none), "is_stretch", "is_stretch", defArgs s_isStretch, defBody s_isStretch, defScope s_isStretch, [], []⟩
def hd_winit : He.DefD := ⟨("Weights", some "__init__"), "__init__", "Weights.__init__", defArgs s_winit, defBody s_winit, defScope s_winit, [], []⟩
def hd_wlen : He.DefD := ⟨("Weights", some "__len__"), "__len__", "Weights.__len__", defArgs s_wlen, defBody s_wlen, defScope s_wlen, [], []⟩
def hd_wget : He.DefD := ⟨("Weights", some "__getitem__"), "__getitem__", "Weights.__getitem__", defArgs s_wget, defBody s_wget, defScope s_wget, [], []⟩
def hd_weq : He.DefD := ⟨("Weights", some "__eq__"), "__eq__", "Weights.__eq__", defArgs s_weq, defBody s_weq, defScope s_weq, [], []⟩
def hd_wcall : He.DefD := ⟨("Weights", some "__call__"), "__call__", "Weights.__call__", defArgs s_wcall, defBody s_wcall, defScope s_wcall, [], []⟩
def hd_rinit : He.DefD := ⟨("Rule", some "__init__"), "__init__", "Rule.__init__", defArgs s_rinit, defBody s_rinit, defScope s_rinit, [], [("left", .bl false), ("right", .bl false)]⟩
def hd_req : He.DefD := ⟨("Rule", some "__eq__"), "__eq__", "Rule.__eq__", defArgs s_req, defBody s_req, defScope s_req, [], []⟩
def hd_lighter : He.DefD := ⟨("need_lighter", none), "need_lighter", "need_lighter", defArgs s_lighter, defBody s_lighter, defScope s_lighter, [], []⟩
def hd_binit : He.DefD := ⟨("Book", some "__init__"), "__init__", "Book.__init__", defArgs s_binit, defBody s_binit, defScope s_binit, [], []⟩
def hd_blen : He.DefD := ⟨("Book", some "__len__"), "__len__", "Book.__len__", defArgs s_blen, defBody s_blen, defScope s_blen, [], []⟩
def hd_bget : He.DefD := ⟨("Book", some "__getitem__"), "__getitem__", "Book.__getitem__", defArgs s_bget, defBody s_bget, defScope s_bget, [], []⟩
def hd_value : He.DefD := ⟨("_law_value", none), "_law_value", "_law_value", defArgs s_value, defBody s_value, defScope s_value, [], []⟩
def hd_inputs : He.DefD := ⟨("_law_inputs", none), "_law_inputs", "_law_inputs", defArgs s_inputs, defBody s_inputs, defScope s_inputs, [], []⟩
def hd_field : He.DefD := ⟨("_law_field", none), "_law_field", "_law_field", defArgs s_field, defBody s_field, defScope s_field, [], []⟩
def hd_group : He.DefD := ⟨("_law_group", none), "_law_group", "_law_group", defArgs s_group, defBody s_group, defScope s_group, [], []⟩
def hd_kinds : He.DefD := ⟨("_law_kinds", none), "_law_kinds", "_law_kinds", defArgs s_kinds, defBody s_kinds, defScope s_kinds, [], []⟩
def hd_named : He.DefD := ⟨("_law_named_right", none), "_law_named_right", "_law_named_right", defArgs s_named, defBody s_named, defScope s_named, [], []⟩
def hd_heavier : He.DefD := ⟨("_law_heavier", none), "_law_heavier", "_law_heavier", defArgs s_heavier, defBody s_heavier, defScope s_heavier, [], []⟩
def hd_law : He.DefD := ⟨("law", none), "law", "law", defArgs s_law, defBody s_law, defScope s_law, [], []⟩
def hd_xBadSigns : He.DefD := ⟨("BadSigns", some "__init__"), "__init__", "BadSigns.__init__", defArgs s_xBadSigns, defBody s_xBadSigns, defScope s_xBadSigns, [], []⟩
def hd_xBadRow : He.DefD := ⟨("BadRow", some "__init__"), "__init__", "BadRow.__init__", defArgs s_xBadRow, defBody s_xBadRow, defScope s_xBadRow, [], []⟩
def hd_xBadRule : He.DefD := ⟨("BadRule", some "__init__"), "__init__", "BadRule.__init__", defArgs s_xBadRule, defBody s_xBadRule, defScope s_xBadRule, [], []⟩
def hd_xBadBook : He.DefD := ⟨("BadBook", some "__init__"), "__init__", "BadBook.__init__", defArgs s_xBadBook, defBody s_xBadBook, defScope s_xBadBook, [], []⟩
def hd_xHeavier : He.DefD := ⟨("Heavier", some "__init__"), "__init__", "Heavier.__init__", defArgs s_xHeavier, defBody s_xHeavier, defScope s_xHeavier, [], []⟩
def hd_xUnlessened : He.DefD := ⟨("Unlessened", some "__init__"), "__init__", "Unlessened.__init__", defArgs s_xUnlessened, defBody s_xUnlessened, defScope s_xUnlessened, [], []⟩
def hd_xBadMove : He.DefD := ⟨("BadMove", some "__init__"), "__init__", "BadMove.__init__", defArgs s_xBadMove, defBody s_xBadMove, defScope s_xBadMove, [], []⟩
def hd_xBadMachine : He.DefD := ⟨("BadMachine", some "__init__"), "__init__", "BadMachine.__init__", defArgs s_xBadMachine, defBody s_xBadMachine, defScope s_xBadMachine, [], []⟩
def hd_xBadGame : He.DefD := ⟨("BadGame", some "__init__"), "__init__", "BadGame.__init__", defArgs s_xBadGame, defBody s_xBadGame, defScope s_xBadGame, [], []⟩
def hd_xBadSeat : He.DefD := ⟨("BadSeat", some "__init__"), "__init__", "BadSeat.__init__", defArgs s_xBadSeat, defBody s_xBadSeat, defScope s_xBadSeat, [], []⟩
def hd_xOtherSigns : He.DefD := ⟨("OtherSigns", some "__init__"), "__init__", "OtherSigns.__init__", defArgs s_xOtherSigns, defBody s_xOtherSigns, defScope s_xOtherSigns, [], []⟩
def hd_xBadNumber : He.DefD := ⟨("BadNumber", some "__init__"), "__init__", "BadNumber.__init__", defArgs s_xBadNumber, defBody s_xBadNumber, defScope s_xBadNumber, [], []⟩
def hd_xBadText : He.DefD := ⟨("BadText", some "__init__"), "__init__", "BadText.__init__", defArgs s_xBadText, defBody s_xBadText, defScope s_xBadText, [], []⟩
def hd_xBadLine : He.DefD := ⟨("BadLine", some "__init__"), "__init__", "BadLine.__init__", defArgs s_xBadLine, defBody s_xBadLine, defScope s_xBadLine, [], []⟩
def hd_xTooMany : He.DefD := ⟨("TooMany", some "__init__"), "__init__", "TooMany.__init__", defArgs s_xTooMany, defBody s_xTooMany, defScope s_xTooMany, [], []⟩
def hd_xNoMove : He.DefD := ⟨("NoMove", some "__init__"), "__init__", "NoMove.__init__", defArgs s_xNoMove, defBody s_xNoMove, defScope s_xNoMove, [], []⟩
def hd_xNotWon : He.DefD := ⟨("NotWon", some "__init__"), "__init__", "NotWon.__init__", defArgs s_xNotWon, defBody s_xNotWon, defScope s_xNotWon, [], []⟩
def hd_xNotRight : He.DefD := ⟨("NotRight", some "__init__"), "__init__", "NotRight.__init__", defArgs s_xNotRight, defBody s_xNotRight, defScope s_xNotRight, [], []⟩
def hd_xNotKept : He.DefD := ⟨("NotKept", some "__init__"), "__init__", "NotKept.__init__", defArgs s_xNotKept, defBody s_xNotKept, defScope s_xNotKept, [], []⟩
def hd_xNotThere : He.DefD := ⟨("NotThere", some "__init__"), "__init__", "NotThere.__init__", defArgs s_xNotThere, defBody s_xNotThere, defScope s_xNotThere, [], []⟩
def hcms : List He5.DefA := []
def hdefs : List He.DefD := [hd_draw, hd_pen, hd_pick, hd_isInt, hd_isLetter, hd_isRow, hd_needRow, hd_weightOf, hd_isStretch, hd_winit, hd_wlen, hd_wget, hd_weq, hd_wcall, hd_rinit, hd_req, hd_lighter, hd_binit, hd_blen, hd_bget, hd_value, hd_inputs, hd_field, hd_group, hd_kinds, hd_named, hd_heavier, hd_law, hd_xBadSigns, hd_xBadRow, hd_xBadRule, hd_xBadBook, hd_xHeavier, hd_xUnlessened, hd_xBadMove, hd_xBadMachine, hd_xBadGame, hd_xBadSeat, hd_xOtherSigns, hd_xBadNumber, hd_xBadText, hd_xBadLine, hd_xTooMany, hd_xNoMove, hd_xNotWon, hd_xNotRight, hd_xNotKept, hd_xNotThere]
def hfacts : List He.Fa := [.free "len", .free "int", .free "abs", .free "isinstance", .free "str", .free "bool", .free "list", .free "tuple", .free "all", .free "any", .free "range", .free "repr", .free "enumerate", .free "dict", .free "sum", .free "set", .free "ValueError", .str "LETTERS" "abcdefghijklmnopqrstuvwxyz", .int "MOST_SIGNS" 4, .int "MOST_WEIGHT" 9, .int "MOST_STRETCH" 4, .int "MOST_RULES" 8, .glo "Weights", .cls "Weights", .mkr "Weights", .noat "Weights" "weight_by", .noat "Weights" "pairs", .noat "Weights" "signs", .glo "Rule", .cls "Rule", .mkr "Rule", .noat "Rule" "old", .noat "Rule" "new", .noat "Rule" "left", .noat "Rule" "right", .glo "Book", .cls "Book", .mkr "Book", .noat "Book" "weights", .noat "Book" "rules", .glo "GameError", .glo "BadInput", .glo "NoAnswer", .glo "BadSigns", .glo "BadRow", .glo "BadRule", .glo "BadBook", .glo "Heavier", .glo "Unlessened", .glo "BadMove", .glo "BadMachine", .glo "BadGame", .glo "BadSeat", .glo "OtherSigns", .glo "BadNumber", .glo "BadText", .glo "BadLine", .glo "TooMany", .glo "NoMove", .glo "NotWon", .glo "NotRight", .glo "NotKept", .glo "NotThere", .glo "NothingPlayed", .glo "_law_draw", .glo "_law_pen", .glo "_law_pick", .glo "is_integer", .glo "is_letter", .glo "is_row", .glo "need_row", .glo "weight_of", .glo "is_stretch", .meth "Weights" "__len__", .meth "Weights" "__getitem__", .meth "Weights" "__eq__", .meth "Weights" "__call__", .meth "Rule" "__eq__", .glo "need_lighter", .meth "Book" "__len__", .meth "Book" "__getitem__", .glo "_law_value", .glo "_law_inputs", .glo "_law_field", .glo "_law_group", .glo "_law_kinds", .glo "_law_named_right", .glo "_law_heavier", .glo "law"]
def hmore (K : PySem.W.Frag) : Bool := (PySem.W.fnIn K (He.ma K (a_Weights K) "__getitem__") && (PySem.W.fnIn K (He.ma K (a_Book K) "__getitem__") && (sysB K && (PySem.W.fnIn K (He.ma K (a_Weights K) "__call__") && (kitVB K exT && (He.eqO (PySem.W.specialIn K (.builtin "object.__class__") "__get__") (some (some (.builtin "getset_descriptor.__get__"))) && (decide (PySem.W.takesIn K (.builtin "object.__class__") = some true) && (PySem.W.excIn K (a_NothingPlayed K) PySem.HandSPX.veTail "ValueError.__new__" && (PySem.W.keepIn K (.ref (a_NothingPlayed K)) && (PySem.W.excIn K (a_GameError K) PySem.HandSPX.veTail "ValueError.__new__" && (PySem.W.keepIn K (.ref (a_GameError K)) && (decide (PySem.W.mroIn K (a_Weights K) (.type "object") = some true) && (He.eqO (PySem.W.findIn K (.ref (a_Weights K)) "__class__") (some (some (.builtin "object.__class__"))) && (decide (PySem.W.kitOne K (.ref (a_Weights K)) (.ref (a_Weights K)) = some true) && ((tyNames.all fun n => decide (PySem.W.kitOne K (.type n) (.ref (a_Weights K)) = some false)) && (PySem.W.notFirst K (a_Weights K) (.ref (a_Weights K)) && ((tyNames.all fun n => PySem.W.notFirst K (a_Weights K) (.type n)) && (decide (PySem.W.mroIn K (a_Rule K) (.type "object") = some true) && (He.eqO (PySem.W.findIn K (.ref (a_Rule K)) "__class__") (some (some (.builtin "object.__class__"))) && (decide (PySem.W.kitOne K (.ref (a_Rule K)) (.ref (a_Rule K)) = some true) && ((tyNames.all fun n => decide (PySem.W.kitOne K (.type n) (.ref (a_Rule K)) = some false)) && (PySem.W.notFirst K (a_Rule K) (.ref (a_Rule K)) && ((tyNames.all fun n => PySem.W.notFirst K (a_Rule K) (.type n)) && (decide (PySem.W.mroIn K (a_Book K) (.type "object") = some true) && (He.eqO (PySem.W.findIn K (.ref (a_Book K)) "__class__") (some (some (.builtin "object.__class__"))) && (decide (PySem.W.kitOne K (.ref (a_Book K)) (.ref (a_Book K)) = some true) && ((tyNames.all fun n => decide (PySem.W.kitOne K (.type n) (.ref (a_Book K)) = some false)) && (PySem.W.notFirst K (a_Book K) (.ref (a_Book K)) && ((tyNames.all fun n => PySem.W.notFirst K (a_Book K) (.type n)) && (exmB K exT && (kitXB K exT && (excsB K exT && (oexB K (a_BadSigns K) && ((He.eqO (PySem.W.findIn K (.ref (a_BadSigns K)) "__init__") (some (some (.ref (He.ma K (a_BadSigns K) "__init__")))) && decide (PySem.W.typeIn K (.ref (He.ma K (a_BadSigns K) "__init__")) = some (.type "function"))) && (oexB K (a_BadRow K) && ((He.eqO (PySem.W.findIn K (.ref (a_BadRow K)) "__init__") (some (some (.ref (He.ma K (a_BadRow K) "__init__")))) && decide (PySem.W.typeIn K (.ref (He.ma K (a_BadRow K) "__init__")) = some (.type "function"))) && (oexB K (a_BadRule K) && ((He.eqO (PySem.W.findIn K (.ref (a_BadRule K)) "__init__") (some (some (.ref (He.ma K (a_BadRule K) "__init__")))) && decide (PySem.W.typeIn K (.ref (He.ma K (a_BadRule K) "__init__")) = some (.type "function"))) && (oexB K (a_BadBook K) && ((He.eqO (PySem.W.findIn K (.ref (a_BadBook K)) "__init__") (some (some (.ref (He.ma K (a_BadBook K) "__init__")))) && decide (PySem.W.typeIn K (.ref (He.ma K (a_BadBook K) "__init__")) = some (.type "function"))) && (oexB K (a_Heavier K) && ((He.eqO (PySem.W.findIn K (.ref (a_Heavier K)) "__init__") (some (some (.ref (He.ma K (a_Heavier K) "__init__")))) && decide (PySem.W.typeIn K (.ref (He.ma K (a_Heavier K) "__init__")) = some (.type "function"))) && (oexB K (a_Unlessened K) && ((He.eqO (PySem.W.findIn K (.ref (a_Unlessened K)) "__init__") (some (some (.ref (He.ma K (a_Unlessened K) "__init__")))) && decide (PySem.W.typeIn K (.ref (He.ma K (a_Unlessened K) "__init__")) = some (.type "function"))) && (oexB K (a_BadMove K) && ((He.eqO (PySem.W.findIn K (.ref (a_BadMove K)) "__init__") (some (some (.ref (He.ma K (a_BadMove K) "__init__")))) && decide (PySem.W.typeIn K (.ref (He.ma K (a_BadMove K) "__init__")) = some (.type "function"))) && (oexB K (a_BadMachine K) && ((He.eqO (PySem.W.findIn K (.ref (a_BadMachine K)) "__init__") (some (some (.ref (He.ma K (a_BadMachine K) "__init__")))) && decide (PySem.W.typeIn K (.ref (He.ma K (a_BadMachine K) "__init__")) = some (.type "function"))) && (oexB K (a_BadGame K) && ((He.eqO (PySem.W.findIn K (.ref (a_BadGame K)) "__init__") (some (some (.ref (He.ma K (a_BadGame K) "__init__")))) && decide (PySem.W.typeIn K (.ref (He.ma K (a_BadGame K) "__init__")) = some (.type "function"))) && (oexB K (a_BadSeat K) && ((He.eqO (PySem.W.findIn K (.ref (a_BadSeat K)) "__init__") (some (some (.ref (He.ma K (a_BadSeat K) "__init__")))) && decide (PySem.W.typeIn K (.ref (He.ma K (a_BadSeat K) "__init__")) = some (.type "function"))) && (oexB K (a_OtherSigns K) && ((He.eqO (PySem.W.findIn K (.ref (a_OtherSigns K)) "__init__") (some (some (.ref (He.ma K (a_OtherSigns K) "__init__")))) && decide (PySem.W.typeIn K (.ref (He.ma K (a_OtherSigns K) "__init__")) = some (.type "function"))) && (oexB K (a_BadNumber K) && ((He.eqO (PySem.W.findIn K (.ref (a_BadNumber K)) "__init__") (some (some (.ref (He.ma K (a_BadNumber K) "__init__")))) && decide (PySem.W.typeIn K (.ref (He.ma K (a_BadNumber K) "__init__")) = some (.type "function"))) && (oexB K (a_BadText K) && ((He.eqO (PySem.W.findIn K (.ref (a_BadText K)) "__init__") (some (some (.ref (He.ma K (a_BadText K) "__init__")))) && decide (PySem.W.typeIn K (.ref (He.ma K (a_BadText K) "__init__")) = some (.type "function"))) && (oexB K (a_BadLine K) && ((He.eqO (PySem.W.findIn K (.ref (a_BadLine K)) "__init__") (some (some (.ref (He.ma K (a_BadLine K) "__init__")))) && decide (PySem.W.typeIn K (.ref (He.ma K (a_BadLine K) "__init__")) = some (.type "function"))) && (oexB K (a_TooMany K) && ((He.eqO (PySem.W.findIn K (.ref (a_TooMany K)) "__init__") (some (some (.ref (He.ma K (a_TooMany K) "__init__")))) && decide (PySem.W.typeIn K (.ref (He.ma K (a_TooMany K) "__init__")) = some (.type "function"))) && (oexB K (a_NoMove K) && ((He.eqO (PySem.W.findIn K (.ref (a_NoMove K)) "__init__") (some (some (.ref (He.ma K (a_NoMove K) "__init__")))) && decide (PySem.W.typeIn K (.ref (He.ma K (a_NoMove K) "__init__")) = some (.type "function"))) && (oexB K (a_NotWon K) && ((He.eqO (PySem.W.findIn K (.ref (a_NotWon K)) "__init__") (some (some (.ref (He.ma K (a_NotWon K) "__init__")))) && decide (PySem.W.typeIn K (.ref (He.ma K (a_NotWon K) "__init__")) = some (.type "function"))) && (oexB K (a_NotRight K) && ((He.eqO (PySem.W.findIn K (.ref (a_NotRight K)) "__init__") (some (some (.ref (He.ma K (a_NotRight K) "__init__")))) && decide (PySem.W.typeIn K (.ref (He.ma K (a_NotRight K) "__init__")) = some (.type "function"))) && (oexB K (a_NotKept K) && ((He.eqO (PySem.W.findIn K (.ref (a_NotKept K)) "__init__") (some (some (.ref (He.ma K (a_NotKept K) "__init__")))) && decide (PySem.W.typeIn K (.ref (He.ma K (a_NotKept K) "__init__")) = some (.type "function"))) && (oexB K (a_NotThere K) && ((He.eqO (PySem.W.findIn K (.ref (a_NotThere K)) "__init__") (some (some (.ref (He.ma K (a_NotThere K) "__init__")))) && decide (PySem.W.typeIn K (.ref (He.ma K (a_NotThere K) "__init__")) = some (.type "function"))) && (fldXB K "at" ["BadRow", "BadBook", "Heavier"] && (fldXB K "line" ["BadText"] && (fldXB K "most" ["TooMany"] && (fldXB K "new" ["Unlessened"] && (fldXB K "old" ["Unlessened"] && (fldXB K "part" ["BadSigns", "BadRule", "BadMove", "BadMachine", "BadGame", "OtherSigns", "BadNumber"] && (fldXB K "row" ["NoMove", "NotWon", "NotRight", "NotKept"] && (fldXB K "seat" ["BadSeat", "NotRight"] && (fldXB K "what" ["TooMany", "NotThere"] && (fldXB K "word" ["BadText", "BadLine"] && true))))))))))))))))))))))))))))))))))))))))))))))))))))))))))))))))))))))))))))))))))
abbrev hrow : PySem.W.OpenRow := PySem.W.OpenLaw.row PySem.Challenge.rw_rowgames_k01_errors
abbrev hhook : PySem.W.Hook := He.hookY 7 hfacts hdefs [] [] hmore hcms
def hobs (s : PySem.W.SharedT) : He.AlY := He.obsY 7 hfacts hdefs [] [] hmore hcms (HandSHeadRun.getT s)
theorem hobs_eq (s : PySem.W.SharedT) : hobs s = hhook.obs s.abs := He.obsY_eq (HandSHeadRun.getT_eq s)
def hnames0 : List PySem.Str := ["_wall", "GameError", "BadInput", "NoAnswer", "BadSigns", "BadRow", "BadRule", "BadBook", "Heavier", "Unlessened", "BadMove", "BadMachine", "BadGame", "BadSeat", "OtherSigns", "BadNumber", "BadText", "BadLine", "TooMany", "NoMove", "NotWon", "NotRight", "NotKept", "NotThere", "NothingPlayed", "LETTERS", "MOST_SIGNS", "MOST_WEIGHT", "is_integer", "is_letter"]
def hnames1 : List PySem.Str := ["is_row", "need_row", "rows_of", "weight_of", "Weights", "MOST_STRETCH", "is_stretch", "Rule", "MOST_RULES", "moves_of", "need_lighter", "Book", "_law_pen", "_law_draw", "_law_pick", "_law_text", "_law_value", "_law_inputs", "_law_field", "_law_group", "_law_kinds", "_law_named_right", "_law_heavier"]
def hnames : List PySem.Str := hnames0 ++ hnames1
set_option maxHeartbeats 0 in
noncomputable def hcut1 (w : World) (os : OsState) : Cap (endP (HandSHeadRun.stepQ (HandSHeadRun.denQ HandSHeadRun.tabQ) hrow.prog w) 4000 hrow.prog w os) := by
  refine' ⟨_, cap_ok (p := hrow.prog) (w := w) (s := {}) _⟩
  rotate_left
  kat_step
  exact my_wp2 rfl
set_option maxHeartbeats 0 in
noncomputable def hcut2 (w : World) (os : OsState) : Cap (goP (HandSHeadRun.stepQ (HandSHeadRun.denQ HandSHeadRun.tabQ) hrow.prog w) (bootN w) (HandSHeadRun.bootAnn w) 4000 (hcut1 w os).v.1 (hcut1 w os).v.2) := by
  refine' ⟨_, cap_ok (p := hrow.prog) (w := w) (s := {}) _⟩
  rotate_left
  kat_step
  exact my_wp2 rfl
open PySem.W PySem.Calls HandSHeadRun in
set_option maxHeartbeats 0 in
theorem hend (w : World) (os : OsState) : (HandSHeadRun.goF (HandSHeadRun.stepQ (HandSHeadRun.denQ HandSHeadRun.tabQ) hrow.prog w) (bootN w) (HandSHeadRun.bootAnn w) 12000 (hcut2 w os).v.1 (hcut2 w os).v.2).map (fun s : PySem.W.SharedT => (HandSHeadRun.looksF hrow.prog (boot_heap w.params) s.abs, HandSHeadRun.seenQ (PySem.W.view hrow.prog [58]) hnames (PySem.importedModules hrow.prog.main.body) (fun s => PySem.W.xlAt (PySem.W.view hrow.prog [58]) [] s && PySem.W.recOk hrow.toRowW.records s) s.abs, hobs s)) = some (true, PySem.W.openGood (PySem.W.view hrow.prog [58]) hnames, hhook.val w) := by
  kernel_rfl
theorem hjoin (w : World) (os : OsState) : HandSHeadRun.endF (HandSHeadRun.stepQ (HandSHeadRun.denQ HandSHeadRun.tabQ) hrow.prog w) 20000 hrow.prog w os = HandSHeadRun.goF (HandSHeadRun.stepQ (HandSHeadRun.denQ HandSHeadRun.tabQ) hrow.prog w) (bootN w) (HandSHeadRun.bootAnn w) 12000 (hcut2 w os).v.1 (hcut2 w os).v.2 :=
  ((endP_ok (k := 16000) (hcut1 w os).h).trans (goP_ok (k := 12000) (hcut2 w os).h))
theorem hrun (w : World) : HandSHeadRun.RunEq hrow (PySem.W.view hrow.prog [58]) hhook hobs 20000 hnames w := by
  intro os
  rw [hjoin]
  exact hend w os
end Rg
set_option Elab.async false
set_option linter.all false
set_option maxRecDepth 100000
set_option maxHeartbeats 4000000
set_option pp.maxSteps 1500
set_option pp.deepTerms false
set_option pp.deepTerms.threshold 8
set_option Elab.async false
set_option linter.all false
set_option maxRecDepth 100000
set_option maxHeartbeats 2000000
namespace Rg
open PySem PySem.Spec PyProof.Rows L2

structure Step (W : Addr → Prop) (D H D' H' : Hp) : Prop where
  dd : Same D D'
  dh : Same D' H'
  kp : ∀ b o, ¬ W b → H b = some o → H' b = some o
  ns : ∀ b, H b ≠ none → H' b ≠ none
  fr : ∀ b, H b ≠ none → D b = none → D' b = none
abbrev NoW : Addr → Prop := fun _ => False
section
variable {W W' : Addr → Prop} {D H D1 H1 D2 H2 : Hp} {K : PySem.W.Frag}
theorem Step.refl (h : Same D H) : Step W D H D H := ⟨Same.refl D, h, fun _ _ _ e => e, fun _ e => e, fun _ _ e => e⟩
theorem Step.trans (a : Step W D H D1 H1) (b : Step W D1 H1 D2 H2) : Step W D H D2 H2 :=
  ⟨a.dd.trans b.dd, b.dh, fun c o hc e => b.kp c o hc (a.kp c o hc e), fun c e => b.ns c (a.ns c e), fun c e d => b.fr c (a.ns c e) (a.fr c e d)⟩
theorem Step.mono (a : Step W D H D1 H1) (h : ∀ b, W b → W' b) : Step W' D H D1 H1 :=
  ⟨a.dd, a.dh, fun c o hc e => a.kp c o (fun z => hc (h c z)) e, a.ns, a.fr⟩
theorem Step.any (a : Step NoW D H D1 H1) : Step W D H D1 H1 := a.mono fun _ z => z.elim
theorem same_new {p : Addr} {o : HO} (h : H p = none) : Same H (upd H p o) := fun b u e => by
  rw [upd_ne (ne_of_none e h)]
  exact e
theorem upd_ne_none {p b : Addr} {o : HO} (h : H b ≠ none) : upd H p o b ≠ none := by
  by_cases e : b = p
  · rw [e, upd_same]
    exact fun z => by cases z
  · rw [upd_ne e]
    exact h
/-- a new object, to stay -/
theorem Step.new {p : Addr} {o : HO} (s : Same D H) (h : H p = none) : Step W D H (upd D p o) (upd H p o) := by
  have hd : D p = none := s.free h
  refine ⟨same_new hd, fun b u e => ?_, fun b u _ e => same_new h b u e, fun b e => upd_ne_none e, fun b e d => ?_⟩
  · by_cases q : b = p
    · rw [q, upd_same] at e ⊢
      exact e
    · rw [upd_ne q] at e ⊢
      exact s b u e
  · have q : b ≠ p := fun z => e (z ▸ h)
    rw [upd_ne q]
    exact d
/-- a new object, not (yet) to stay -/
theorem Step.tmp {p : Addr} {o : HO} (s : Same D H) (h : H p = none) : Step W D H D (upd H p o) :=
  ⟨Same.refl D, s.trans (same_new h), fun b u _ e => same_new h b u e, fun b e => upd_ne_none e, fun _ _ d => d⟩
/-- an object that came behind the start is settled -/
theorem Step.settle {p : Addr} {o : HO} (a : Step W D H D1 H1) (h0 : H p = none) (h1 : H1 p = some o) (hd : D1 p = none) : Step W D H (upd D1 p o) H1 := by
  refine ⟨a.dd.trans (same_new hd), fun b u e => ?_, a.kp, a.ns, fun b e d => ?_⟩
  · by_cases q : b = p
    · rw [q, upd_same] at e
      rw [q, h1]
      exact e
    · rw [upd_ne q] at e
      exact a.dh b u e
  · have q : b ≠ p := fun z => e (z ▸ h0)
    rw [upd_ne q]
    exact a.fr b e d
/-- an object outside D that may be written (it is W's, or it came behind the start) changes -/
theorem Step.write {p : Addr} {o : HO} (a : Step W D H D1 H1) (hw : W p ∨ H p = none) (hd : D1 p = none) : Step W D H D1 (upd H1 p o) := by
  refine ⟨a.dd, fun b u e => ?_, fun b u hb e => ?_, fun b e => upd_ne_none (a.ns b e), a.fr⟩
  · have q : b ≠ p := fun z => by
      rw [z, hd] at e
      cases e
    rw [upd_ne q]
    exact a.dh b u e
  · have q : b ≠ p := fun z => by
      rcases hw with w | w
      · exact hb (z ▸ w)
      · rw [z, w] at e
        cases e
    rw [upd_ne q]
    exact a.kp b u hb e
theorem Step.free {p : Addr} (a : Step W D H D1 H1) (h : H1 p = none) : H p = none := by
  cases e : H p with
  | none => rfl
  | some o => exact absurd h (a.ns p (by rw [e]; exact fun z => by cases z))
end

theorem sqT_mono {K : PySem.W.Frag} {D D' : Hp} {a : Addr} {xs : List V} (e : Same D D') (h : SqT K D a xs) : SqT K D' a xs := by
  rcases h with (h | ⟨o, h⟩) | h
  · exact .inl (.inl (e _ _ h))
  · exact .inl (.inr ⟨o, e _ _ h⟩)
  · exact .inr h
section
variable {K : PySem.W.Frag} {D : Hp}
theorem dpAll_ints : ∀ ns : List Int, DpAll K D (ns.map V.int) (ns.map PyData.int)
  | [] => .nil
  | n :: r => .cons (.int n) (dpAll_ints r)
end

structure PenAt (K : PySem.W.Frag) (D H : Hp) (p : Addr) (n : Nat) : Prop where
  out : D p = none
  ex : ∃ (q : Addr) (ns : List Int) (t g : Int), H p = some (.lst [.ref q, .int t, .int g]) ∧ SqL K D q (ns.map V.int) ∧ 0 ≤ t ∧ t + n ≤ 1000000
theorem PenAt.less {K : PySem.W.Frag} {D H : Hp} {p : Addr} {n m : Nat} (h : PenAt K D H p n) (hm : m ≤ n) : PenAt K D H p m := by
  obtain ⟨o, q, ns, t, g, h1, h2, h3, h4⟩ := h
  exact ⟨o, q, ns, t, g, h1, h2, h3, by omega⟩
theorem PenAt.there {K : PySem.W.Frag} {D H : Hp} {p : Addr} {n : Nat} (h : PenAt K D H p n) : H p ≠ none := by
  obtain ⟨o, q, ns, t, g, h1, h2, h3, h4⟩ := h
  rw [h1]
  exact fun z => by cases z
/-- a step that does not write the pen leaves it -/
theorem PenAt.keep {K : PySem.W.Frag} {W : Addr → Prop} {D H D' H' : Hp} {p : Addr} {n : Nat} (h : PenAt K D H p n) (s : Step W D H D' H') (hw : ¬ W p) : PenAt K D' H' p n := by
  have hn := h.there
  obtain ⟨o, q, ns, t, g, h1, h2, h3, h4⟩ := h
  exact ⟨s.fr p hn o, q, ns, t, g, s.kp p _ hw h1, s.dd.seq h2, h3, h4⟩
/-- draw(pen, many): a number below many -/
def spDraw (K : PySem.W.Frag) : Sp := fun vs H Q _ => ∃ (D : Hp) (p : Addr) (m : Int) (n : Nat), vs = [.ref p, .int m] ∧ Same D H ∧ PenAt K D H p (n + 1) ∧ 1 ≤ m ∧ m < 1000000 ∧
  ∀ (H' : Hp) (r : Int), Step (· = p) D H D H' → PenAt K D H' p n → 0 ≤ r → r < m → Q (.int r) H'

structure CalX (P : Program) (w : World) (K : PySem.W.Frag) (mg : Str → Option Value) (base : Heap) (CX : CXT) (k : Nat) (x : Str) (sp : Sp) : Prop where
  ex : ∃ (f : Addr) (fd : FuncData) (ps : List Str), FnOk P w K mg base CX k f fd ps sp ∧ mg x = some (.ref f) ∧ PySem.W.keepIn K (.ref f) = true ∧ Binds K fd ps []
section
variable {X : Cx} {CX : CXT} {k j : Nat} {sp : Sp} {E : XK} {x : Str} {p pos : Pos} {e : Expr} {es : List Expr} {t : TA}
theorem pe_cX (c : CalX X.prog X.w X.K X.mg X.base CX k x sp) (hr : Room j X.A) (hk : k ≤ j) (hg : Gl X x) (hx : Passes CX X E) (ha : PA X (e :: es) t)
    (hdb : (x == ("__debug__" : Str)) = false := by decide) (he : starEach (e :: es) X.env = (false, eval e X.env) :: starEach es X.env := by rfl) (hpl : (backTo pos (starEach es X.env)).any (·.1) = false := by rfl) :
    PE X (.Call (.Name x p) (e :: es) [] pos) (tCall sp [] E t) := by
  obtain ⟨f, fd, ps, F, g, kp, b⟩ := c.ex
  exact pe_call F (hr.mono hk) hg g kp b .nil hx ha hdb he hpl
end
end Rg

set_option Elab.async false
set_option linter.all false
set_option maxRecDepth 100000
set_option maxHeartbeats 2000000
namespace Rg
open PySem PySem.Spec PyProof.Rows L2
theorem strTy (x : Str) : strIterType x = "str_ascii_iterator" ∨ strIterType x = "str_iterator" := by
  unfold strIterType
  split
  · exact .inl rfl
  · exact .inr rfl
theorem drawsStr {P : Program} {w : World} {A : Around} (hh : A.handled = none) (it : Addr) (x : Str) (t : Tok) {ty : String} (hty : ty = "str_ascii_iterator" ∨ ty = "str_iterator") :
    Draws P w A it [it] x.cps.size (fun i v => ∃ c u, x.cps[i]? = some c ∧ v = .str ⟨#[c]⟩ u) (fun i h => h.IsStrIter it ty x t i) := by
  rcases hty with rfl | rfl
  · exact Draws.strAscii hh it x t
  · exact Draws.strWide hh it x t
end Rg

set_option Elab.async false
set_option linter.all false
set_option maxRecDepth 100000
set_option maxHeartbeats 2000000
namespace Rg
open PySem PySem.Spec PyProof.Rows L2
structure Sm (n c : Nat) (d : PyData) : Prop where
  dp : d.depth ≤ n
  sh : d.showable = true
  nd : d.hasDict = false
  ln : d.shown.length ≤ c
theorem Sm.mono {n c n' c' : Nat} {d : PyData} (h : Sm n c d) (hn : n ≤ n') (hc : c ≤ c') : Sm n' c' d := ⟨Nat.le_trans h.dp hn, h.sh, h.nd, Nat.le_trans h.ln hc⟩
theorem sm_none : Sm 0 5 .none := ⟨Nat.le_refl _, rfl, rfl, by decide +kernel⟩
theorem sm_bool (b : Bool) : Sm 0 5 (.bool b) := ⟨Nat.le_refl _, rfl, rfl, by cases b <;> decide +kernel⟩
theorem sm_int {i : Int} (h : i.natAbs.log2 < 1920) : Sm 0 1921 (.int i) :=
  ⟨Nat.le_refl _, by simp [PyData.showable, h], rfl, by simp only [PyData.shown]; exact PyProof.Rows.int_text_len_1921 h⟩
theorem sm_str {x : Str} {l : Nat} (h : ∀ c ∈ x.cps.toList, c < 16 ^ 8) (hl : x.length ≤ l) : Sm 0 (10 * l + 2) (.str x) := by
  refine ⟨Nat.le_refl _, rfl, rfl, ?_⟩
  have e := StrLaws.reprText_len x h
  simp only [PyData.shown]
  omega
theorem textFrom_le : ∀ (ts : List Str) (k : Nat) (acc : Str), (textFrom k acc ts).length ≤ acc.length + piled ts
  | [], _, _ => Nat.le_add_right _ _
  | t :: r, k, acc => by
    have ih := textFrom_le r (k + 1) (acc ++ (if k > 0 then ", " else "" : String) ++ t)
    have e2 : ((if k > 0 then ", " else "" : String) : Str).length ≤ 2 := by split <;> decide +kernel
    show (textFrom (k + 1) (acc ++ (if k > 0 then ", " else "" : String) ++ t) r).length ≤ _
    rw [strLen_append, strLen_append] at ih
    rw [piled_cons]
    omega
theorem listText_le (ts : List Str) : (listText ts).length ≤ piled ts + 2 := by
  have h := textFrom_le ts 0 "["
  have e1 : (("[" : String) : Str).length = 1 := rfl
  have e2 : (("]" : String) : Str).length = 1 := rfl
  unfold listText
  rw [strLen_append, e2]
  omega
theorem tupleText_le (ts : List Str) : (tupleText ts).length ≤ piled ts + 3 := by
  have e3 : (((if ts.length == 1 then ",)" else ")" : String) : Str)).length ≤ 2 := by split <;> decide +kernel
  have e1 : ((("(" : String) : Str)).length = 1 := rfl
  unfold tupleText
  rw [strLen_append, strLen_append, e1]
  cases ts with
  | nil =>
    have e4 : (Str.join ", " []).length = 0 := by decide +kernel
    rw [e4]
    omega
  | cons t r =>
    have := join_length_add (t :: r) (by simp)
    omega
end Rg

set_option Elab.async false
set_option linter.all false
set_option maxRecDepth 100000
set_option maxHeartbeats 2000000
namespace Rg
open PySem PySem.Spec PyProof.Rows L2
structure FnG (P : Program) (w : World) (K : PySem.W.Frag) (mg : Str → Option Value) (base : Heap) (CX : CXT) (k : Nat) (f : Addr) (fd : FuncData) (ps : List Str) (sp : Sp) : Prop where
  len : ∀ vs H Q E, sp vs H Q E → vs.length = ps.length
  run : ∀ (A : Around) (outer : List Env) (s : Shared) (H : Hp) (args : Args) (us : List Value) (vs : List V) (Q : VK) (E : XK),
    Room k A → A.guards = some [] → Env0 P w K mg base A outer s H → BindsTo s fd args (ps.zip us) → Vals vs us → sp vs H Q E →
    codeAny (model P w) A (.call (.ref f) args) (CR CX outer P w H s Q E) s
theorem FnG.of {P : Program} {w : World} {K : PySem.W.Frag} {mg : Str → Option Value} {base : Heap} {CX : CXT} {k : Nat} {f : Addr} {fd : FuncData} {ps : List Str} {sp : Sp}
    (F : FnOk P w K mg base CX k f fd ps sp) : FnG P w K mg base CX k f fd ps sp :=
  ⟨F.len, fun A outer s H args us vs Q E hr _ e0 hb r h => F.run A outer s H args us vs Q E hr e0 hb r h⟩
section
variable {P : Program} {w : World} {K : PySem.W.Frag} {mg : Str → Option Value} {base : Heap}
theorem fn_ofG {CX : CXT} {k : Nat} {f : Addr} {name qual : Str} {params : Arguments} {body : List Stmt} {scope : Scope} {dV kV doc pm cdv ct oc : Value} {an od : Option Addr} {osl : Array (Option Value)} {N ps : List Str} {sp : Sp}
    (lk : K.lookup f = some ⟨oc, od, .func (PySem.W.fnOf name qual params body scope dV kV doc pm an cdv ct), osl⟩)
    (hcd : PySem.W.codeIn K cdv qual = true) (S : FnScope N ps scope) (len : ∀ vs H Q E, sp vs H Q E → vs.length = ps.length)
    (hbody : ∀ (A : Around) (outer : List Env) (s : Shared) (H : Hp) (vs : List V) (Q : VK) (E : XK), Room k (A.deeper (envOfC qual scope s.heap.objs.size f cdv)) → A.guards = some [] → sp vs H Q E →
      ∃ t, PSs (cxOf CX P w K mg base N qual scope f cdv A outer s H E) body t ∧ t { nx := fun _ H' => Q .non H', rt := Q } (start N vs) H) :
    FnG P w K mg base CX (k + 1) f (PySem.W.fnOf name qual params body scope dV kV doc pm an cdv ct) ps sp := by
  constructor
  · exact len
  · intro A outer s H args us vs Q E hr hgd e0 hb r hsp
    have kin : K.In s.heap := e0.mod.kin.keeps fun b o q => (e0.bs b o q).1
    have nol : s.heap.NoLimit := e0.mod.nolimit.keeps fun b o q => (e0.bs b o q).1
    have kinds : ∀ y ∈ ps.zip us, scope.names.lookup y.1 = some .local ∨ (scope.names.lookup y.1 = some .cell ∧ ((cellsFrom (s.heap.objs.size + 1) scope.names []).lookup y.1).isSome = true) := by
      rintro ⟨n, v⟩ hy
      have hp := S.par n (List.of_mem_zip hy).1
      exact hp.elim Or.inl fun c => Or.inr ⟨c, PySem.W.cellsFrom_some _ _ _ (.inl c)⟩
    refine codeAny_call_function hr.depth (kin _ _ lk) rfl S.co S.gen rfl (PySem.W.codeRec_of kin hcd) (hb _ _ _ _ ?_)
    refine wpAny_newFunctionEnv_cells S.kind kinds fun env he s1 x => ?_
    subst he
    refine ⟨nol.keeps x.toInCall.keep, codeAny_func ?_⟩
    obtain ⟨t, ht, hq⟩ := hbody A outer s H vs Q E (hr.deeper _) hgd hsp
    have J := inv_start (CX := CX) (E := E) S hr.hd e0 (len _ _ _ _ hsp) r x
    refine wpAny_mono (ht.run [] s1 _ H _ J hq) ?_ fun e s' z => z
    intro fl s' z
    cases fl with
    | ret u =>
      obtain ⟨v, σ', H', J', rv, q⟩ := z
      exact ⟨v, H', J'.os, J'.bare, J'.base, J'.hok, rv, q⟩
    | next =>
      obtain ⟨σ', H', J', q⟩ := z
      exact ⟨.non, H', J'.os, J'.bare, J'.base, J'.hok, rfl, q⟩
    | brk =>
      obtain ⟨_, _, _, q⟩ := z
      exact q.elim
    | cont =>
      obtain ⟨_, _, _, q⟩ := z
      exact q.elim
theorem FunD.okG {CX : CXT} {x qual : Str} {params : Arguments} {body : List Stmt} {scope : Scope} {dvs : List V} {kws : List (Str × V)} {f : Addr} {fd : FuncData} {N ps : List Str} {k : Nat} {sp : Sp}
    (F : FunD K x qual params body scope dvs kws f fd) (S : FnScope N ps scope) (len : ∀ vs H Q E, sp vs H Q E → vs.length = ps.length)
    (hbody : ∀ (cdv : Value) (A : Around) (outer : List Env) (s : Shared) (H : Hp) (vs : List V) (Q : VK) (E : XK), Room k (A.deeper (envOfC qual scope s.heap.objs.size f cdv)) → A.guards = some [] → sp vs H Q E →
      ∃ t, PSs (cxOf CX P w K mg base N qual scope f cdv A outer s H E) body t ∧ t { nx := fun _ H' => Q .non H', rt := Q } (start N vs) H) :
    FnG P w K mg base CX (k + 1) f fd ps sp := by
  obtain ⟨oc, od, dV, kV, doc, pm, an, cdv, ct, osl, rfl, lk, hcd, _, _⟩ := F.ex
  exact fn_ofG lk hcd S len fun A outer s H vs Q E hr hgd hsp => hbody cdv A outer s H vs Q E hr hgd hsp
end
structure CalG (P : Program) (w : World) (K : PySem.W.Frag) (mg : Str → Option Value) (base : Heap) (CX : CXT) (k : Nat) (x : Str) (sp : Sp) : Prop where
  ex : ∃ (f : Addr) (fd : FuncData) (ps : List Str), FnG P w K mg base CX k f fd ps sp ∧ mg x = some (.ref f) ∧ PySem.W.keepIn K (.ref f) = true ∧ Binds K fd ps []
section
variable {X : Cx} {CX : CXT} {k j : Nat} {sp : Sp} {E : XK} {x : Str} {p pos : Pos} {e : Expr} {es : List Expr} {t : TA}
theorem pe_cG (c : CalG X.prog X.w X.K X.mg X.base CX k x sp) (hgd : X.A.guards = some []) (hr : Room j X.A) (hk : k ≤ j) (hg : Gl X x) (hx : Passes CX X E) (ha : PA X (e :: es) t)
    (hdb : (x == ("__debug__" : Str)) = false := by decide) (he : starEach (e :: es) X.env = (false, eval e X.env) :: starEach es X.env := by rfl) (hpl : (backTo pos (starEach es X.env)).any (·.1) = false := by rfl) :
    PE X (.Call (.Name x p) (e :: es) [] pos) (tCall sp [] E t) := by
  obtain ⟨f, fd, ps, F, g, kp, b⟩ := c.ex
  constructor
  intro pins s σ H Q I h
  refine wpAny_Call_Name_kw (ld_glob I hg g ?_ hdb)
  refine PySem.W.callWith_K (h₀ := X.base) I.ok.mod.kin kp (thn (ha.run pos pins s σ H _ I h) fun us s1 z => ?_) he hpl
  obtain ⟨vs, H1, I1, r, q⟩ := z
  refine ⟨I1.kIn, ?_⟩
  rw [List.append_nil] at q
  have hl : us.length = ps.length := r.length.symm.trans (F.len _ _ _ _ q)
  have bt := b s1 us I1.kIn (by rw [List.append_nil]; exact hl)
  rw [List.append_nil] at bt
  refine wpAny_call (codeAny_mono (F.run X.A X.stack s1 H1 ⟨us, []⟩ us vs Q E (hr.mono hk) hgd I1.env0 bt r q) fun o s' hq => ?_)
  cases o with
  | error e => exact hx pins σ H1 s1 e s' I1 hq
  | ok fl =>
    cases fl with
    | ret u => exact I1.after hq
    | next => exact hq.elim
    | brk => exact hq.elim
    | cont => exact hq.elim
end
theorem law_callG {P : Program} {w : World} {K : PySem.W.Frag} {mg mb : Str → Option Value} {k : Nat} {fa a : Addr} {fd : FuncData} {x : Str} {sp : Sp} {s1 : Shared} {vs : List Value} {ns : List Int}
    (KX : K.In s1.heap) (hns : s1.heap.Ns mainGlobals mg) (hb : s1.heap.Ns builtinsNs mb) (hbb : ∀ y : Str, y ≠ "__name__" → mb y = bootBuiltins y) (hlim : s1.heap.NoLimit) (hg : s1.gens = #[])
    (ha : s1.heap.get? a = some { cls := .type "list", data := .seq vs.toArray }) (hi : IntsAre vs ns) (hl : ns.length ≤ sizeLine) (hr : Room k callerA)
    (F : ∀ base : Heap, K.In base → base.Ns mainGlobals mg → FnG P w K mg base CX0 k fa fd [x] sp) (hbind : ∀ (s : Shared) (u : Value), BindsTo s fd ⟨[u], []⟩ [(x, u)])
    (hsp : ∀ H : Hp, Only H → SqL K H a (ns.map V.int) → sp [.ref a] H (fun v _ => v = .bl true) fun _ _ _ => False) :
    codeAny (model P w) callerA (.call (.ref fa) ⟨[.ref a], []⟩) (fun r s' => r = .ok (.ret (.bool true)) ∧ OldK s1.heap s'.heap ∧ s'.os = s1.os ∧ AllBare s'.gens) s1 := by
  have rv := vals_ints hi
  have lenV := hi.length
  have main : ∀ H : Hp, Only H → SqL K H a (ns.map V.int) → HOk P w H s1.heap → (∀ b, H b ≠ none → b = a ∧ K.lookup a = none) →
      codeAny (model P w) callerA (.call (.ref fa) ⟨[.ref a], []⟩) (fun r s' => r = .ok (.ret (.bool true)) ∧ OldK s1.heap s'.heap ∧ s'.os = s1.os ∧ AllBare s'.gens) s1 := by
    intro H hO hS hok hA
    have free : ∀ {b : Addr} {o : Obj}, s1.heap.get? b = some o → (∀ its n, o.data ≠ .seq its n) → H b = none := by
      intro b o e nd
      cases q : H b with
      | none => rfl
      | some u =>
        obtain ⟨rfl, _⟩ := hA b (by rw [q]; exact fun z => by cases z)
        rw [ha] at e
        cases e
        exact absurd rfl (nd _ _)
    have inB : ∀ {b : Addr} {o : Obj}, s1.heap.get? b = some o → H b = none → (hidT s1.heap H).get? b = some o := fun e n => hidT_get e n
    have nsB : ∀ {b : Addr} {m : Str → Option Value}, s1.heap.Ns b m → (hidT s1.heap H).Ns b m := by
      rintro b m ⟨o, es, ep, e, d, r⟩
      exact ⟨o, es, ep, inB e (free e fun its n z => by rw [d] at z; cases z), d, r⟩
    have KB : K.In (hidT s1.heap H) := by
      intro b o e
      refine inB (KX b o e) ?_
      cases q : H b with
      | none => rfl
      | some u =>
        obtain ⟨rfl, z⟩ := hA b (by rw [q]; exact fun z => by cases z)
        rw [z] at e
        cases e
    have mod : Mod K mg (hidT s1.heap H) := by
      obtain ⟨mc, h1, h2⟩ := hlim
      exact ⟨KB, nsB hns, ⟨mb, nsB hb, hbb⟩, mc, nsB h1, h2⟩
    have e0 : Env0 P w K mg (hidT s1.heap H) callerA [] s1 H :=
      { frames := rfl, mod := mod, bs := fun b o e => of_hidT e, bsz := Nat.le_of_eq (hidT_size _ _), funs := trivial, frf := fun b z => absurd (show b ∈ ([] : List Addr) from z) (by simp), hok := hok, bare := .of_eq hg }
    refine codeAny_mono ((F _ KB (nsB hns)).run callerA [] s1 H ⟨[.ref a], []⟩ [.ref a] [.ref a] _ _ hr rfl e0 (hbind s1 (.ref a)) (.cons rfl .nil) (hsp H hO hS)) ?_
    intro o s' h
    cases o with
    | error e => exact h.elim
    | ok fl =>
      cases fl with
      | next => exact h.elim
      | brk => exact h.elim
      | cont => exact h.elim
      | ret u =>
        obtain ⟨v, H', os, bare, un, hok', r', q⟩ := h
        obtain rfl : v = .bl true := q
        obtain rfl : u = Value.bool true := r'
        refine ⟨rfl, OldK.of_keep fun b ob e => ?_, os, bare⟩
        rcases hO b with z | ⟨o2, xs, z⟩
        · exact un.keep b ob e z (fun y => absurd (show b ∈ ([] : List Addr) from y) (by simp)) (by simp)
        · have e1 := (hok b _ z).1
          have e2 := (hok' b _ (un.frzs b o2 _ z)).1
          rw [e] at e1
          cases e1
          exact e2
  cases hk : K.lookup a with
  | some o =>
    have e := KX a o hk
    rw [ha] at e
    cases e
    refine main (fun _ => none) (fun _ => .inl rfl) (.inr ⟨_, vs.toArray, _, hk, rfl, rfl, rfl, ?_, ?_⟩) (fun b u z => ?_) fun b z => absurd rfl z
    · rw [List.size_toArray, lenV]
      exact hl
    · simpa using rv
    · exact nomatch (show (none : Option HO) = some u from z)
  | none =>
    let o0 : Obj := { cls := .type "list", data := .seq vs.toArray }
    let H0 : Hp := fun b => if b = a then some (.frz o0 (.lst (ns.map V.int))) else none
    have at0 : H0 a = some (.frz o0 (.lst (ns.map V.int))) := if_pos rfl
    have off0 : ∀ b, b ≠ a → H0 b = none := fun b hb => if_neg hb
    refine main H0 (fun b => ?_) (.inl (.inr ⟨o0, at0⟩)) (fun b u z => ?_) fun b z => ⟨?_, hk⟩
    · by_cases hb : b = a
      · exact .inr ⟨o0, _, hb ▸ at0⟩
      · exact .inl (off0 b hb)
    · by_cases hb : b = a
      · subst hb
        rw [at0] at z
        cases z
        exact ⟨ha, by rw [List.length_map]; exact hl, vs, _, rv, ha⟩
      · rw [off0 b hb] at z
        cases z
    · by_cases hb : b = a
      · exact hb
      · exact absurd (off0 b hb) z
theorem walk_ofG {l : PySem.W.OpenLaw} {n k : Nat} {q : Program} {loose : List Str} {XP : (Str → Option Value) → Heap → Prop} {YP : World → Heap → Prop} {d : DefRec} {x : Str}
    (hn : l.most = some n) (hn2 : n ≤ sizeLine) (hdf : d.params.defaults = []) (hr : Room k callerA)
    (F : ∀ (w : World) (mg : Str → Option Value) (fa : Addr) (h : Heap), YP w h → h.Ns mainGlobals mg → mg d.name = some (.ref fa) →
      ∃ (K : PySem.W.Frag) (fd : FuncData) (sp : Sp), K.In h ∧ (∀ (s : Shared) (u : Value), BindsTo s fd ⟨[u], []⟩ [(x, u)]) ∧
        (∀ (H : Hp) (a : Addr) (ns : List Int), ns.length ≤ n → Only H → SqL K H a (ns.map V.int) → sp [.ref a] H (fun v _ => v = .bl true) fun _ _ _ => False) ∧
        ∀ base : Heap, K.In base → base.Ns mainGlobals mg → FnG l.prog w K mg base CX0 k fa fd [x] sp) :
    PySem.W.WalkO q loose XP YP l.row.toRowW d [] (fun f vs => PySem.call f vs) := by
  refine Att.attach_call hn hdf ?_
  intro w s0 s1 mg mb fa o pm cd doc a vs ns G Y ho hd hcd hmg hobj hints hlen hg
  obtain ⟨K, fd, sp, KX, hb, hsp, hF⟩ := F w mg fa _ Y G.T.g hmg
  exact law_callG KX G.T.g G.T.b G.T.builtins G.T.nolimit hg hobj hints (Nat.le_trans hlen hn2) hr hF hb fun H hO hS => hsp H a ns hlen hO hS
end Rg

set_option Elab.async false
set_option linter.all false
set_option maxRecDepth 100000
set_option maxHeartbeats 2000000
namespace Rg
open PySem PySem.Spec PyProof.Rows L2
structure MetX (P : Program) (w : World) (K : PySem.W.Frag) (mg : Str → Option Value) (base : Heap) (CX : CXT) (k : Nat) (C : Addr) (m : Str) (sp : Sp) : Prop where
  ex : ∃ (f : Addr) (fd : FuncData) (ps : List Str), Meth K C m f ∧ FnOk P w K mg base CX k f fd ps sp ∧ Binds K fd ps []
section
variable {X : Cx} {CX : CXT} {k j : Nat} {C f a : Addr} {fd : FuncData} {ps : List Str} {sp : Sp} {E : XK} {m : Str} {p pos apos : Pos} {o e : Expr} {es : List Expr} {ta tb : TE} {t : TA}
/-- the callee runs, one C level deeper -/
theorem run_fn1 {pins : List (Addr × Obj)} {σ : L2.St} {H : Hp} {s : Shared} {Q : VK} {us : List Value} {vs : List V} (F : FnOk X.prog X.w X.K X.mg X.base CX k f fd ps sp) (hr : Room (k + 1) X.A) (hb : Binds X.K fd ps []) (hx : Passes CX X E)
    (I : Inv X pins σ H s) (r : Vals vs us) (h : sp vs H Q E) : wpAny (model X.prog X.w) X.A.in1 (call (.ref f) us) (EP X pins σ Q) X.xe s := by
  have hl : us.length = ps.length := r.length.symm.trans (F.len _ _ _ _ h)
  have bt := hb s us I.kIn (by rw [List.append_nil]; exact hl)
  rw [List.append_nil] at bt
  refine wpAny_call (codeAny_mono (F.run X.A.in1 X.stack s H ⟨us, []⟩ us vs Q E hr.in1 I.env0.in1 bt r h) fun z s' hq => ?_)
  cases z with
  | error e => exact hx pins σ H s e s' I hq
  | ok fl =>
    cases fl with
    | ret u => exact I.after hq
    | next => exact hq.elim
    | brk => exact hq.elim
    | cont => exact hq.elim
theorem run_fn0 {pins : List (Addr × Obj)} {σ : L2.St} {H : Hp} {s : Shared} {Q : VK} {us : List Value} {vs : List V} (F : FnOk X.prog X.w X.K X.mg X.base CX k f fd ps sp) (hr : Room k X.A) (hb : Binds X.K fd ps []) (hx : Passes CX X E)
    (I : Inv X pins σ H s) (r : Vals vs us) (h : sp vs H Q E) : wpAny (model X.prog X.w) X.A (call (.ref f) us) (EP X pins σ Q) X.xe s :=
  run_fn F hr hb .nil hx I r (by rw [List.append_nil]; exact h)
theorem inst_of {pins : List (Addr × Obj)} {σ : L2.St} {H : Hp} {s : Shared} {dx : Addr} {fs : List (Str × V)} (I : Inv X pins σ H s) (ea : H a = some (.ins C dx fs)) : ∃ ox od, PySem.W.InstAt s.heap a ox C od := by
  obtain ⟨mA, O, _, _, _, _⟩ := ins_get I.hok ea
  obtain ⟨od, J, _⟩ := O.look
  exact ⟨_, _, J⟩
/-- o[x] -/
def rIxO (C : Addr) (sp : Sp) (E : XK) : R2 := fun x y H Q => ∃ a dx fs, x = .ref a ∧ H a = some (.ins C dx fs) ∧ sp [.ref a, y] H Q E
theorem pe_ixO {a b : Expr} (c : MetX X.prog X.w X.K X.mg X.base CX k C "__getitem__" sp) (hfn : ∀ f, Meth X.K C "__getitem__" f → PySem.W.fnIn X.K f = true) (hr : Room j X.A) (hk : k + 1 ≤ j) (hx : Passes CX X E) (ha : PE X a ta) (hb : PE X b tb)
    (hsl : ∀ x i, subscripted b true (.ref x) i = runValue (.builtin "lifetime.subscript" ⟨[.ref x, i], []⟩) := by intro _ _; rfl) : PE X (.Subscript a b pos) (tOp (rIxO C sp E) ta tb) := by
  refine ⟨fun pins s σ H Q I h => ?_⟩
  refine Subscript_ (binT ha hb I h fun v u s2 x y H2 I2 rx ry q => ?_)
  obtain ⟨f, fd, ps, hm, F, b⟩ := c.ex
  obtain ⟨a, dx, fs, rfl, ea, q⟩ := q
  obtain rfl := rx
  obtain ⟨ox, od, J⟩ := inst_of I2 ea
  obtain ⟨mf, hf⟩ := I2.fr
  exact PySem.W.sub_K hf I2.mod.kin J hm.at_ (hfn f hm) hm.fn (run_fn1 (vs := [.ref a, y]) F (hr.mono hk) b hx I2 (.cons rfl (.cons ry .nil)) q) (hsl _ _)
end
end Rg

set_option Elab.async false
set_option linter.all false
set_option maxRecDepth 100000
set_option maxHeartbeats 4000000
namespace Rg
open PySem PySem.Spec PyProof.Rows L2
def hasK (acc : List Key) (k : Key) : Bool := acc.any fun j => decide (j = k)
def metStep (acc : List Key) (k : Key) : List Key := if hasK acc k = true then acc else acc ++ [k]
def met (ks : List Key) : List Key := ks.foldl metStep []
/-- a set that holds the met ones -/
def SetIs (P : Program) (w : World) (h : Heap) (a : Addr) (ks : List Key) : Prop := h.SetOf (mixKind P w) a (hasK (met ks)) (met ks).length
theorem SetIs.kept {P : Program} {w : World} {h h' : Heap} {a : Addr} {ks : List Key} (x : SetIs P w h a ks) (k : ∀ o, h.get? a = some o → h'.get? a = some o) : SetIs P w h' a ks := by
  obtain ⟨o, es, ep, t, ho, r⟩ := x
  exact ⟨o, es, ep, t, k o ho, r⟩
section
variable {P : Program} {w : World} {A : Around}
end
end Rg

set_option Elab.async false
set_option linter.all false
set_option maxRecDepth 100000
set_option maxHeartbeats 2000000
namespace Rg
open PySem PySem.Spec PyProof.Rows L2
def sgn (c : Nat) : Str := ⟨#[c]⟩
end Rg

set_option Elab.async false
set_option linter.all false
set_option maxRecDepth 100000
set_option maxHeartbeats 2000000
namespace Rg
open PySem PySem.Spec PyProof.Rows L2
def SqA (K : PySem.W.Frag) (H : Hp) (a : Addr) (xs : List V) : Prop := SqL K H a xs ∨ SqT K H a xs
theorem SqA.mono {K : PySem.W.Frag} {H H' : Hp} {a : Addr} {xs : List V} (h : SqA K H a xs) (e : Same H H') : SqA K H' a xs := h.elim (fun z => .inl (e.seq z)) fun z => .inr (sqT_mono e z)
theorem SqA.len {K : PySem.W.Frag} {H : Hp} {a : Addr} {xs : List V} (h : SqA K H a xs) : SqL K H a xs ∨ SqT K H a xs := h
def SeqR (K : PySem.W.Frag) (a : Addr) (R : It → Hp → Prop) (H1 : Hp) : Prop := ((∃ xs, SqL K H1 a xs) ∧ R (Itl K a) H1) ∨ ((∃ xs, SqT K H1 a xs) ∧ R (Itt K a) H1)
theorem Same.new {H : Hp} {p : Addr} {o : HO} (h : H p = none) : Same H (upd H p o) := same_new h
abbrev letters : List Nat := ("abcdefghijklmnopqrstuvwxyz" : Str).cps.toList
theorem get_tl {z : Str} {i : Nat} : z.cps[i]? = z.cps.toList[i]? := by simp
theorem take_more {α : Type} {l : List α} {i : Nat} {x : α} (h : l[i]? = some x) : l.take (i + 1) = l.take i ++ [x] := by
  rw [List.take_add_one, h]
  rfl
theorem mem_of_at {α : Type} {l : List α} {i : Nat} {x : α} (h : l[i]? = some x) : x ∈ l := List.mem_of_getElem? h
end Rg

set_option Elab.async false
set_option linter.all false
set_option maxRecDepth 100000
set_option maxHeartbeats 2000000
namespace Rg
open PySem PySem.Spec PyProof.Rows L2
section
variable {X : Cx} (K : PySem.W.Frag)
theorem ix_listK (h : X.K = K := by rfl) : IxR X (rIxL K) := h ▸ ix_list
theorem sl_listK (h : X.K = K := by rfl) : SlR X (rSlL K) := h ▸ sl_list
theorem sl_tupK (h : X.K = K := by rfl) : SlR X (rSlT K) := h ▸ sl_tup
def rLenQ : List V → Hp → VK → Prop := fun xs H Q => ∃ p ys, xs = [.ref p] ∧ (SqL K H p ys ∨ SqT K H p ys) ∧ Q (.int ys.length) H
theorem call_len_seqK (h : X.K = K := by rfl) : CallR X (.builtin "len") (rLenQ K) := h ▸ call_len_seq
def rListQ : List V → Hp → VK → Prop := fun xs H Q => ∃ p ys, xs = [.ref p] ∧ (SqL K H p ys ∨ SqT K H p ys) ∧ ∀ l, H l = none → Q (.ref l) (upd H l (.lst ys))
theorem call_list_ofK (h : X.K = K := by rfl) : CallR X (.type "list") (rListQ K) := h ▸ call_list_of
theorem cr_allK (hc : X.calm = true) (h : X.K = K := by rfl) : CallR X (.builtin "all") (rAll K) := h ▸ cr_all hc
theorem cr_anyK (hc : X.calm = true) (h : X.K = K := by rfl) : CallR X (.builtin "any") (rAny K) := h ▸ cr_any hc
theorem cr_sumK (hc : X.calm = true) (h : X.K = K := by rfl) : CallR X (.builtin "sum") (rSum K) := h ▸ cr_sum hc
theorem op_eqDK (hu : X.A.units + 64 < cLine) (h : X.K = K := by rfl) : OpR X (compareOp .Eq) (rEqD K) := h ▸ op_eqD hu
theorem op_neDK (hu : X.A.units + 64 < cLine) (h : X.K = K := by rfl) : OpR X (compareOp .NotEq) (rNeD K) := h ▸ op_neD hu
theorem op_catTK (h : X.K = K := by rfl) : OpR X (binaryOp .Add) (rCatT K) := h ▸ op_catT
theorem pg_tupK {es : List Expr} {k : Nat} {pos : Pos} {t : TGs} {n : Nat} (hc : X.calm = true) (ht : PGs X es t) (h : X.K = K := by rfl)
    (hn : (assignEach es X.env).length = n := by rfl) (hst : (assignEach es X.env).findIdx? (·.1) = none := by rfl) : PG X (.Tuple es k pos) (gTup K n t) := h ▸ pg_tup hc ht hn hst
theorem pe_fldK {e : Expr} {f : Str} {pos : Pos} {ta : TE} (he : PE X e ta) (h : X.K = K := by rfl) (hb : attributeBase e f X.env (eval e X.env) = eval e X.env := by rfl) : PE X (.Attribute e f pos) (tFld K ta f) := h ▸ pe_fld he hb
end
end Rg

set_option Elab.async false
set_option linter.all false
set_option maxRecDepth 100000
namespace Rg
open PySem PySem.Spec PyProof.Rows L2
theorem hu1 {n : Nat} (h : n + 64 < cLine) : n + 1 < cLine := by omega
section
variable {J : It} {n : Nat} {G : Hp → Prop} {Y : Nat → Hp → V → Hp → Prop}
end
section
variable {X : Cx}
end
end Rg

set_option Elab.async false
set_option linter.all false
set_option maxRecDepth 100000
namespace Rg
open PySem PySem.Spec PyProof.Rows L2
structure MkX (P : Program) (w : World) (K : PySem.W.Frag) (mg : Str → Option Value) (base : Heap) (CX : CXT) (k : Nat) (x : Str) (C : Addr) (sp : Sp) : Prop where
  ex : ∃ (f : Addr) (fd : FuncData) (ps : List Str), Mk K C f ∧ FnOk P w K mg base CX k f fd ps sp ∧ mg x = some (.ref C) ∧ Binds K fd ps []
section
variable {X : Cx} {CX : CXT} {k j : Nat} {C : Addr} {sp : Sp} {E : XK} {x : Str} {p pos : Pos} {e : Expr} {es : List Expr} {t : TA}
end
/-- the keywords name parameters, nothing has a default -/
theorem FunD.kbindsP {K : PySem.W.Frag} {x qual : Str} {params : Arguments} {body : List Stmt} {scope : Scope} {f : Addr} {fd : FuncData} {ps : List Str} (F : FunD K x qual params body scope [] [] f fd) (n : Nat) (ks : List Str) (g : {α : Type} → List α → List α → List α)
    (hrel : ∀ {vs zs : List V} {us ws : List Value}, Vals vs us → Vals zs ws → Vals (g vs zs) (g us ws))
    (h : ∀ (kV doc pm : Value) (an : Option Addr) (cdv ct : Value) (us ws : List Value), us.length = n → ws.length = ks.length → bindArgs (PySem.W.fnOf x qual params body scope .none kV doc pm an cdv ct) ⟨us, ks.zip ws⟩ = pure (ps.zip (g us ws))) :
    KBn K fd ps n ks g g := by
  obtain ⟨oc, od, dV, kV, doc, pm, an, cdv, ct, osl, rfl, lk, hcd, hD, hK⟩ := F.ex
  rcases hD with ⟨_, rfl⟩ | ⟨e, _⟩
  · exact ⟨fun s us ws _ l1 l2 => .of_eq (h kV doc pm an cdv ct us ws l1 l2), fun r1 r2 => hrel r1 r2⟩
  · exact absurd rfl e
theorem Step.fresh {W W' : Addr → Prop} {D H D' H' : Hp} (s : Step W D H D' H') (h : ∀ b, W b → H b = none) : Step W' D H D' H' := by
  obtain ⟨a, b, c, d, e⟩ := s
  refine ⟨a, b, fun x o _ q => c x o (fun z => ?_) q, d, e⟩
  rw [h x z] at q
  cases q
theorem join_signs : ∀ cs : List Nat, TL.joinL [] (cs.map fun c => [c]) = cs
  | [] => rfl
  | [c] => rfl
  | c :: d :: r => by
    have e := join_signs (d :: r)
    show [c] ++ ([] ++ TL.joinL [] ((d :: r).map fun c => [c])) = _
    rw [e]
    rfl
theorem join_sgn (cs : List Nat) : Txt.join "" (cs.map sgn) = SX.S cs := by
  have e : cs.map sgn = (cs.map fun c => [c]).map SX.S := by
    rw [List.map_map]
    rfl
  have e0 : ("" : Str) = SX.S [] := rfl
  rw [e, e0, SX.join_S, join_signs]
theorem sum_sgn (cs : List Nat) : ((cs.map sgn).map (·.length)).sum = cs.length := by
  induction cs with
  | nil => rfl
  | cons c r ih =>
    rw [List.map_cons, List.map_cons, List.sum_cons, ih, List.length_cons]
    show 1 + r.length = _
    omega
end Rg

set_option Elab.async false
set_option linter.all false
set_option maxRecDepth 100000
set_option maxHeartbeats 2000000
namespace Rg
open PySem PySem.Spec PyProof.Rows L2
abbrev ZO (h : Heap) (z ti to : Addr) (f0 : Value) (b : Bool) : Prop := h.get? z = some { cls := .type "zip", dict := none, data := .fields #[f0, .bool b, .bool false, .ref ti, .ref to], slots := #[] }
def ZF (f0 : Value) : Prop := f0 = .none ∨ ∃ T : Addr, f0 = rawInt T
structure ZSt (h : Heap) (z ti to i1 i2 : Addr) : Prop where
  obj : ∃ f0 b, ZO h z ti to f0 b ∧ ZF f0
  its : IsTupOf2 h ti (.ref i1) (.ref i2)
  own : ∃ p q, IsTupOf2 h to p q
section
variable {P : Program} {w : World} {A : Around} {E : Value → Shared → Prop} {s : Shared} {z ti to i1 i2 : Addr}
variable {fa fb : List Addr} {na nb i : Nat} {Pa Pb : Nat → Value → Prop} {Sa Sb : Nat → Heap → Prop}
end
section
variable {P : Program} {w : World} {K : PySem.W.Frag} {tg : Expr} {J : It} {z ti to i1 i2 : Addr} {fa fb : List Addr} {st1 st2 : Nat → Heap → Prop}
end
abbrev SrcV := Hp → List V → Prop
def srcT (K : PySem.W.Frag) (a : Addr) : SrcV := fun H xs => SqT K H a xs
def srcS (z : Str) : SrcV := fun _ xs => xs = z.cps.toList.map fun c => V.str (sgn c)
/-- what an iterator at it over a source draws -/
structure ZOne (P : Program) (w : World) (K : PySem.W.Frag) (A : SrcV) (it : Addr) (fp : List Addr) (st : Nat → Heap → Prop) : Prop where
  o : ∀ i h, st i h → ∃ o, h.get? it = some o ∧ ∀ v, o.data ≠ .cell v
  k : ∀ i h h', st i h → (∀ o, h.get? it = some o → h'.get? it = some o) → st i h'
  d : ∀ (X : Cx), X.prog = P → X.w = w → X.K = K → X.calm = true → ∀ (pins : List (Addr × Obj)) (s : Shared) (σ : L2.St) (H : Hp), Inv X pins σ H s → ∀ xs, A H xs →
    ∃ (Pa : Nat → Value → Prop) (Sa : Nat → Heap → Prop), Draws P w X.A.in1 it (it :: fp) xs.length Pa Sa ∧ (∀ i h, Sa i h → st i h) ∧ (∀ i, st i s.heap → Sa i s.heap) ∧ ∀ i x, Pa i x → ∃ v, RelV v x ∧ ∀ ys, A H ys → ys[i]? = some v
theorem zone_tup {P : Program} {w : World} {K : PySem.W.Frag} {a it : Addr} (ne : a ≠ it) : ZOne P w K (srcT K a) it [a] (fun i h => h.IsTupleIter it a i) where
  o := by
    rintro i h ⟨o, ho, _, hd⟩
    exact ⟨o, ho, fun v q => by rw [hd] at q; cases q⟩
  k := fun i h h' st kk => st.at kk
  d := by
    intro X hP hw hK hc pins s σ H I xs hx
    subst hP hw hK
    obtain ⟨us, rv, hT, _⟩ := I.tuple hx
    have el : us.toArray.size = xs.length := by rw [List.size_toArray, rv.length]
    refine ⟨_, _, el ▸ Draws.tuple (show X.A.in1.handled = none from I.ok.hd hc) it a ne us.toArray, fun i h q => q.1, fun i q => ⟨q, hT⟩, fun i x hi => ?_⟩
    have hi' : us[i]? = some x := by simpa using hi
    obtain ⟨hl, ex⟩ := List.getElem?_eq_some_iff.mp hi'
    have hl2 : i < xs.length := by rw [rv.length]; exact hl
    obtain ⟨u, hu, ru⟩ := rv.get (List.getElem?_eq_getElem hl2)
    rw [hi'] at hu
    cases hu
    refine ⟨xs[i], ru, fun ys hy => ?_⟩
    rw [I.tuple_inj hy hx]
    exact List.getElem?_eq_getElem hl2
theorem zone_str {P : Program} {w : World} {K : PySem.W.Frag} {z : Str} {t : Tok} {it : Addr} : ZOne P w K (srcS z) it [] (fun i h => h.IsStrIter it (strIterType z) z t i) where
  o := by
    rintro i h ⟨o, ho, _, hd⟩
    exact ⟨o, ho, fun v q => by rw [hd] at q; cases q⟩
  k := by
    rintro i h h' ⟨o, ho, r⟩ kk
    exact ⟨o, kk o ho, r⟩
  d := by
    intro X hP hw hK hc pins s σ H I xs hx
    subst hP hw hK
    have el : z.cps.size = xs.length := by
      rw [show xs = _ from hx, List.length_map]
      simp
    refine ⟨_, _, el ▸ drawsStr (show X.A.in1.handled = none from I.ok.hd hc) it z t (strTy z), fun i h q => q, fun i q => q, fun i x hi => ?_⟩
    obtain ⟨c, u, hc', rfl⟩ := hi
    refine ⟨.str (sgn c), ⟨u, rfl⟩, fun ys hy => ?_⟩
    rw [show ys = _ from hy, List.getElem?_map, show z.cps.toList[i]? = some c by rw [← get_tl]; exact hc']
    rfl
section
variable {X : Cx} {e e2 : Expr} {ta : TA} {p pos : Pos} {tg : Expr} (K : PySem.W.Frag)
end
end Rg

set_option Elab.async false
set_option linter.all false
set_option maxRecDepth 100000
set_option maxHeartbeats 2000000
namespace Rg
open PySem PySem.Spec PyProof.Rows L2
section
variable {X : Cx} {CX : CXT} {k j : Nat} {C f a : Addr} {fd : FuncData} {ps : List Str} {sp : Sp} {E : XK} {m : Str} {p pos apos : Pos} {o e : Expr} {es : List Expr} {ta tb : TE} {t : TA}
def rCmpO (K : PySem.W.Frag) (C : Addr) (sp : Sp) (E : XK) : R2 := fun x y H Q => ∃ a dx fs t, x = .ref a ∧ H a = some (.ins C dx fs) ∧ TyX K H y t ∧ PySem.W.notFirst K C t = true ∧ sp [x, y] H Q E
theorem op_cmpO {op : CmpOp} (c : MetX X.prog X.w X.K X.mg X.base CX k C m sp) (hr : Room j X.A) (hk : k ≤ j) (hx : Passes CX X E) (hop : ∀ a b, compareOp op a b = richCompare op a b := by intro _ _; rfl) (hn : (cmpInfo op).2.1 = m := by decide +kernel) : OpR X (compareOp op) (rCmpO X.K C sp E) := by
  intro pins s σ H x y v u Q I rx ry h
  obtain ⟨f, fd, ps, hm, F, b⟩ := c.ex
  obtain ⟨a, dx, fs, t, rfl, ea, ty, nf, q⟩ := h
  obtain rfl := rx
  obtain ⟨ox, od, J⟩ := inst_of I ea
  obtain ⟨mf, hf⟩ := I.fr
  obtain ⟨Pk, kit, hk1, _⟩ := kit_of I ry ty
  rw [hop]
  refine PySem.W.cmp_K (op := op) (tb := t) hr.units0 hf I.mod.kin J (kit.ty _ _ I.kIn hk1) nf (by rw [hn]; exact hm.at_) hm.fn (wpAny_mono (run_fn0 (vs := [.ref a, y]) F (hr.mono hk) b hx I (.cons rfl (.cons ry .nil)) q) ?_ fun _ _ z => z)
  rintro u s' ⟨v, H', I', rv, q'⟩
  exact SlX.cmpback rv ⟨v, H', I', rv, q'⟩
end
end Rg

set_option Elab.async false
set_option linter.all false
set_option maxRecDepth 100000
set_option maxHeartbeats 2000000
namespace Rg
open PySem PySem.Spec PyProof.Rows L2
section
variable {X : Cx} {k v : Expr} {pos : Pos} {tk tv : TE}
end
section
variable {X : Cx} (K : PySem.W.Frag)
theorem op_inDK (hu : X.A.units + 65 < cLine) (h : X.K = K := by rfl) : OpR X (compareOp .In) (rInD K) := h ▸ op_inD hu
theorem op_notInDK (hu : X.A.units + 65 < cLine) (h : X.K = K := by rfl) : OpR X (compareOp .NotIn) (rNotInD K) := h ▸ op_notInD hu
end
theorem hu65 {k : Nat} {A : Around} (r : Room k A) : A.units + 65 < cLine := by
  have := r.un
  omega
end Rg

set_option Elab.async false
set_option linter.all false
set_option maxRecDepth 100000
set_option maxHeartbeats 2000000
namespace Rg
open PySem PySem.Spec PyProof.Rows L2
def srcL (K : PySem.W.Frag) (a : Addr) : SrcV := fun H xs => SqL K H a xs
theorem zone_list {P : Program} {w : World} {K : PySem.W.Frag} {a it : Addr} (ne : a ≠ it) : ZOne P w K (srcL K a) it [a] (fun i h => h.IsListIter it a i) where
  o := by
    rintro i h ⟨o, ho, _, hd⟩
    exact ⟨o, ho, fun v q => by rw [hd] at q; cases q⟩
  k := fun i h h' st kk => st.at kk
  d := by
    intro X hP hw hK hc pins s σ H I xs hx
    subst hP hw hK
    obtain ⟨us, rv, hT, _⟩ := I.list hx
    have el : us.toArray.size = xs.length := by rw [List.size_toArray, rv.length]
    refine ⟨_, _, el ▸ Draws.list (show X.A.in1.handled = none from I.ok.hd hc) it a ne us.toArray, fun i h q => q.1, fun i q => ⟨q, hT.isList⟩, fun i x hi => ?_⟩
    have hi' : us[i]? = some x := by simpa using hi
    obtain ⟨hl, ex⟩ := List.getElem?_eq_some_iff.mp hi'
    have hl2 : i < xs.length := by rw [rv.length]; exact hl
    obtain ⟨u, hu, ru⟩ := rv.get (List.getElem?_eq_getElem hl2)
    rw [hi'] at hu
    cases hu
    refine ⟨xs[i], ru, fun ys hy => ?_⟩
    rw [I.list_inj hy hx]
    exact List.getElem?_eq_getElem hl2
/-- v is a list, a tuple or a text; A: what it holds -/
inductive SrcOf (K : PySem.W.Frag) (H : Hp) : V → SrcV → List V → Prop
  | lst {a : Addr} {xs : List V} : SqL K H a xs → SrcOf K H (.ref a) (srcL K a) xs
  | tup {a : Addr} {xs : List V} : SqT K H a xs → SrcOf K H (.ref a) (srcT K a) xs
  | str {z : Str} : SrcOf K H (.str z) (srcS z) (z.cps.toList.map fun c => V.str (sgn c))
theorem src_begins {X : Cx} {pins : List (Addr × Obj)} {σ : L2.St} {H : Hp} {s : Shared} {v : V} {u : Value} {A : SrcV} {xs : List V} (I : Inv X pins σ H s) (r : RelV v u) (h : SrcOf X.K H v A xs) :
    ∃ (o : Obj) (Hh : Heap → Prop), Begins u o Hh ∧ Hh s.heap ∧ ∀ (it : Addr), s.heap.objs.size ≤ it → ∃ (fp : List Addr) (st : Nat → Heap → Prop), (∀ c ∈ fp, c < s.heap.objs.size) ∧ ZOne X.prog X.w X.K A it fp st ∧ ∀ g : Heap, g.get? it = some o → st 0 g := by
  cases h with
  | @lst a xs h =>
    obtain rfl : u = Value.ref a := r
    obtain ⟨us, _, hT, _⟩ := I.list h
    have la : a < s.heap.objs.size := by obtain ⟨_, _, q, _⟩ := hT; exact Heap.lt_size q
    exact ⟨_, _, begins_list a us.toArray, hT.isList, fun it hi => ⟨[a], _, fun c hc => by rw [List.mem_singleton.mp hc]; exact la, zone_list (Nat.ne_of_lt (Nat.lt_of_lt_of_le la hi)), fun g e => ⟨_, e, rfl, rfl⟩⟩⟩
  | @tup a xs h =>
    obtain rfl : u = Value.ref a := r
    obtain ⟨us, _, hT, _⟩ := I.tuple h
    have la : a < s.heap.objs.size := by obtain ⟨_, q, _⟩ := hT; exact Heap.lt_size q
    exact ⟨_, _, begins_tuple a us.toArray, hT, fun it hi => ⟨[a], _, fun c hc => by rw [List.mem_singleton.mp hc]; exact la, zone_tup (Nat.ne_of_lt (Nat.lt_of_lt_of_le la hi)), fun g e => ⟨_, e, rfl, rfl⟩⟩⟩
  | @str z =>
    obtain ⟨t, rfl⟩ : ∃ t, u = Value.str z t := r
    exact ⟨_, _, begins_text z t, trivial, fun it hi => ⟨[], _, fun c hc => by simp at hc, zone_str (t := t), fun g e => ⟨_, e, rfl, rfl⟩⟩⟩
section
variable {X : Cx} {e e2 : Expr} {ta : TA} {p pos : Pos} {tg : Expr} (K : PySem.W.Frag)
end
def Itn (A : SrcV) : It := ⟨fun i H => ∃ xs x, A H xs ∧ xs[i]? = some x, fun i H v H' => ∃ T x, v = .ref T ∧ H T = none ∧ H' = upd H T (.tup [.int (i : Nat), x]) ∧ ∀ xs, A H xs → xs[i]? = some x, fun i H => ∃ xs, A H xs ∧ i = xs.length⟩
theorem walk_enumA {A : SrcV} {xs : List V} : Walk (Itn A) xs.length (fun H => A H xs) (YPair (fun i => some (.int (i : Nat))) (fun i => xs[i]?)) := by
  refine ⟨fun i H hi q => ⟨xs, xs[i], q, List.getElem?_eq_getElem hi⟩, fun H q => ⟨xs, q, rfl⟩, fun i H v H' hi q y => ?_⟩
  obtain ⟨T, x, h1, h2, h3, h4⟩ := y
  exact ⟨T, _, x, h1, h2, h3, rfl, h4 xs q⟩
theorem turn_enumA {P : Program} {w : World} {K : PySem.W.Frag} {elts : List Expr} {kk : Nat} {tpos : Pos} {A : SrcV} {e it : Addr} {fp : List Addr} {st : Nat → Heap → Prop} (z : ZOne P w K A it fp st) (hne : e ≠ it) (hef : e ∉ fp) :
    Turn P w K (.Tuple elts kk tpos) (Itn A) [e, it] e (fun i h => (∃ old, IsEnum h e it ((i : Nat) : Int) old) ∧ st i h) where
  mem := List.mem_cons_self
  obj := by
    rintro i h ⟨⟨old, he⟩, hs⟩ b hb
    have hb' : b = e ∨ b = it := by simpa using hb
    rcases hb' with rfl | rfl
    · exact ⟨_, he, fun v q => nomatch q⟩
    · exact z.o i h hs
  keep := by
    rintro i h h' ⟨⟨old, he⟩, hs⟩ kk
    exact ⟨⟨old, kk e (by simp) _ he⟩, z.k i h h' hs (kk it (by simp))⟩
  item := by
    intro X hP hw hK hc i pins s σ H E I hf st' hg
    obtain ⟨⟨old, he⟩, hit⟩ := st'
    obtain ⟨xs, x0, hx, ex⟩ := hg
    obtain ⟨Pa, Sa, Da, a1, a2, a3⟩ := z.d X hP hw hK hc pins s σ H I xs hx
    subst hP hw hK
    have hel : e < s.heap.objs.size := Heap.lt_size he
    have hil : it < s.heap.objs.size := by
      obtain ⟨_, q, _⟩ := z.o i _ hit
      exact Heap.lt_size q
    refine wpAny_pyNext_enum_itemD Da he (a2 i hit) (List.getElem?_eq_some_iff.mp ex).1 hne (fun h => (List.mem_cons.mp h).elim hne hef) fun x h' tk hx' ho hit' hT hsz hk => ?_
    obtain ⟨v, rv, hv⟩ := a3 i x hx'
    refine ⟨_, rfl, wpAny_letOwnedTupleGo_enum (s := { s with heap := h', toks := tk + 1 }) ho fun h2 he2 sb => ?_⟩
    have hT2 := (sb.2 _ (Nat.ne_of_gt hel)).trans hT
    have obj : ObjOk X.prog X.w (upd H s.heap.objs.size (.tup [.int (i : Nat), v])) h2 s.heap.objs.size (.tup [.int (i : Nat), v]) :=
      ⟨(by show 2 ≤ sizeLine; decide), [.int i tk, x], .cons ⟨tk, rfl⟩ (.cons rv .nil), _, hT2, rfl, _, rfl⟩
    have kept : ∀ b o, b ∉ [e, it] → s.heap.get? b = some o → h2.get? b = some o := fun b o hb q => by
      have h1 : b ≠ e := fun z => hb (by simp [z])
      have h3 : b ≠ it := fun z => hb (by simp [z])
      exact (sb.2 b h1).trans (hk b o h1 h3 q)
    have J := I.turnedNew (t' := tk + 1) kept hf (Nat.le_refl _) obj
    refine ⟨.ref s.heap.objs.size, _, J, rfl, ⟨_, v, rfl, I.hok.fresh (Nat.le_refl _), rfl, hv⟩, ⟨⟨x, ?_⟩, ?_⟩, fun b hb => ?_⟩
    · have e1 : ((i + 1 : Nat) : Int) = (i : Int) + 1 := by omega
      rw [e1]
      exact he2
    · exact z.k _ _ _ (a1 _ _ hit') fun o q => (sb.2 it (Ne.symm hne)).trans q
    · have hlt : b < s.heap.objs.size := by
        have hb' : b = e ∨ b = it := by simpa using hb
        rcases hb' with rfl | rfl
        · exact hel
        · exact hil
      rw [upd_ne (Nat.ne_of_lt hlt)]
      exact (hf b hb).1
  done := by
    intro X hP hw hK hc i pins s σ H E I hf st' hg
    obtain ⟨⟨old, he⟩, hit⟩ := st'
    obtain ⟨xs, hx, rfl⟩ := hg
    obtain ⟨Pa, Sa, Da, a1, a2, a3⟩ := z.d X hP hw hK hc pins s σ H I xs hx
    subst hP hw hK
    obtain ⟨f0, f1, f2, f3, f4, f5⟩ := hf it (by simp)
    exact wpAny_pyNext_enum_endD Da he (a2 _ hit) fun h' eb => ⟨rfl, I.turned (t' := s.toks) (fun b o hb q => eb b o hb q) f0 f1 f3 f4 f5⟩
  self := fun A i s Q E st h => let ⟨⟨_, he⟩, _⟩ := st; wpAny_pyIter_enum he h
set_option maxHeartbeats 1000000 in
theorem meets_enumerate_new1 {v : Value} {o : Obj} {H : Heap → Prop} (B : Begins v o H) :
    Meets (Builtin.«enumerate.__new__» ⟨[.type "enumerate", v], []⟩) (fun _ R s => H s.heap ∧
      R (.ok (.ret (.ref (s.heap.push o).objs.size))) { s with heap := (s.heap.push o).push { cls := .type "enumerate", data := .fields #[.none, .bool false, .ref s.heap.objs.size, rawInt 0, .none, .none] } }) :=
  .of_wp fun prog w A R s h => by
    obtain ⟨hp, g, d, tk, os⟩ := s; obtain ⟨h1, h⟩ := h
    have hsub := sub_enumerate
    have q1 : ∀ {A' : Around} {E : Value → Shared → Prop} {Q : Value → Shared → Prop}, Q (.ref hp.objs.size) ⟨hp.push o, g, d, tk, os⟩ → wpAny (model prog w) A' (pyIter v) Q E ⟨hp, g, d, tk, os⟩ :=
      fun q => B.iter prog w _ _ ⟨hp, g, d, tk, os⟩ _ h1 q
    wp_walk using q1
    refine wpAny_stack_any fun st => wpAny_pure ?_
    split
    · rename_i c _ _ _ _ _
      cases (c == Value.type "enumerate")
      · wp_walk using q1
        exact ⟨_, rfl, h⟩
      · wp_walk using q1
        exact ⟨_, rfl, h⟩
    · wp_walk using q1
      exact ⟨_, rfl, h⟩
theorem enum_begins1 {prog : Program} {w : World} {A : Around} {E : Value → Shared → Prop} {s : Shared} {v : Value} {o : Obj} {H : Heap → Prop} {Q : Value → Shared → Prop} (B : Begins v o H) (h1 : H s.heap)
    (h : ∀ h', IsEnum h' (s.heap.objs.size + 1) s.heap.objs.size 0 .none → h'.get? s.heap.objs.size = some o → h'.objs.size = s.heap.objs.size + 2 →
      (∀ b o, s.heap.get? b = some o → h'.get? b = some o) → Q (.ref (s.heap.objs.size + 1)) { s with heap := h' }) :
    wpAny (model prog w) A (call (.type "enumerate") [v]) Q E s := by
  refine callType_new F.called_enumerate (by decide) (F.typeCall_enumerate_1 _) (F.newCall_enumerate_1 _) (fun obj => F.args_object_init_2 obj _) F.entry_enumerate_new
    (meets_enumerate_new1 B) ⟨h1, ?_⟩
  have hz : (s.heap.push o).objs.size = s.heap.objs.size + 1 := Heap.size_push ..
  show _ ∧ _
  rw [hz]
  have he : IsEnum ((s.heap.push o).push { cls := .type "enumerate", data := .fields #[.none, .bool false, .ref s.heap.objs.size, rawInt 0, .none, .none] }) (s.heap.objs.size + 1) s.heap.objs.size 0 .none := by
    have := Heap.get?_push_size (s.heap.push o) (o := { cls := .type "enumerate", data := .fields #[.none, .bool false, .ref s.heap.objs.size, rawInt 0, .none, .none] }) rfl
    rw [hz] at this; exact this
  refine ⟨⟨_, he, rfl⟩, h _ he (Heap.get?_push_of_some _ (Heap.get?_push_size _ B.free)) (by rw [Heap.size_push, hz]) fun b o x => Heap.get?_push_of_some _ (Heap.get?_push_of_some _ x)⟩
section
variable {X : Cx} {e : Expr} {ta : TA} {p pos tpos : Pos} {elts : List Expr} {kk : Nat} (K : PySem.W.Frag)
def iEnumA (ta : TA) : TI := fun σ H R => ta σ H fun vs H1 => ∃ v A xs, vs = [v] ∧ SrcOf K H1 v A xs ∧ R (Itn A) H1
theorem pi_enumA (hg : Gl X "enumerate") (hm : X.mg "enumerate" = none) (ha : PA X [e] ta) (h : X.K = K := by rfl) (hs : starEach [e] X.env = [(false, eval e X.env)] := by rfl) :
    PI X (.Tuple elts kk tpos) (.Call (.Name "enumerate" p) [e] [] pos) (iEnumA K ta) := by
  subst h
  refine ⟨fun pins s σ H R I h => ?_⟩
  refine Call_ (ld_blt I hg hm boot_enumerate (PyProof.Rows.callWith_type1 (thn (ha.run pos pins s σ H _ I h) fun us s1 z1 => ?_) hs rfl))
  obtain ⟨vs, H1, I1, r1, v, A, xs, rfl, hx, q⟩ := z1
  cases r1 with
  | cons r rr =>
    cases rr
    obtain ⟨o1, P1, B1, h1, k1⟩ := src_begins I1 r hx
    refine enum_begins1 B1 h1 fun h' he hit hsz hk => wpAny_pyIter_enum he ?_
    have I2 : Inv X pins σ H1 { s1 with heap := h' } := I1.kept (t' := s1.toks) hk
    obtain ⟨f1, st1, l1, z1, s1'⟩ := k1 s1.heap.objs.size (Nat.le_refl _)
    refine ⟨s1.heap.objs.size + 1, [s1.heap.objs.size + 1, s1.heap.objs.size], _, _, H1, rfl, I2, turn_enumA (e := s1.heap.objs.size + 1) z1 (Nat.succ_ne_self _) (fun hc => absurd (l1 _ hc) (Nat.not_lt.mpr (Nat.le_succ _))), ⟨⟨.none, he⟩, s1' h' hit⟩, fun b hb => ?_, q⟩
    have hb' : b = s1.heap.objs.size + 1 ∨ b = s1.heap.objs.size := by simpa using hb
    have hle : s1.heap.objs.size ≤ b := by
      rcases hb' with z | z <;> rw [z]
      · exact Nat.le_add_right _ _
      · exact Nat.le_refl _
    exact I1.fpOk hle (I1.hok.fresh hle)
end
end Rg

set_option Elab.async false
set_option linter.all false
set_option maxRecDepth 100000
set_option maxHeartbeats 2000000
namespace Rg
open PySem PySem.Spec PyProof.Rows L2
mutual
inductive NkV (H : Hp) : V → NestedKey → Prop
  | non : NkV H .non .none
  | int (i : Int) : NkV H (.int i) (.num i)
  | str (x : Str) : NkV H (.str x) (.text x)
  | tup {a : Addr} {vs : List V} {ks : List NestedKey} : H a = some (.tup vs) → NkA H vs ks → NkV H (.ref a) (.tup ks)
inductive NkA (H : Hp) : List V → List NestedKey → Prop
  | nil : NkA H [] []
  | cons {v : V} {vs : List V} {k : NestedKey} {ks : List NestedKey} : NkV H v k → NkA H vs ks → NkA H (v :: vs) (k :: ks)
end
theorem nk_mono {H H' : Hp} (e : Same H H') {v : V} {k : NestedKey} (h : NkV H v k) : NkV H' v k :=
  NkV.rec (motive_1 := fun v k _ => NkV H' v k) (motive_2 := fun vs ks _ => NkA H' vs ks) .non .int .str (fun h _ i => .tup (e _ _ h) i) .nil (fun _ _ i j => .cons i j) h
abbrev NX := List (NestedKey × Addr × V)
def NRel : NX → List (NestedKey × Addr × Value) → Prop := Paired fun x y => x.1 = y.1 ∧ x.2.1 = y.2.1 ∧ RelV x.2.2 y.2.2
/-- what is true of the object -/
def nestP (P : Program) (w : World) (a : Addr) (xs : NX) (h : Heap) : Prop := (a == sysModules) = false ∧ xs.length ≤ sizeLine ∧ ∃ ys, NRel xs ys ∧ (ys.map (·.1)).Nodup ∧ ∃ o es ep, h.get? a = some o ∧ o.ExactDict ∧ o.data = .dict es ep ∧ es.toList = ys.map (entryOfKey (nestedKind P w))
def lookN (xs : NX) (k : NestedKey) : Option V := (xs.find? fun x => decide (x.1 = k)).map (·.2.2)
theorem NRel.look (k : NestedKey) : ∀ {xs : NX} {ys : List (NestedKey × Addr × Value)}, NRel xs ys → (lookN xs k = none ∧ atKey ys k = none) ∨ ∃ v p, lookN xs k = some v ∧ atKey ys k = some p ∧ RelV v p.2
  | _, _, .nil => .inl ⟨rfl, rfl⟩
  | x :: xs, y :: ys, .cons a b => by
    by_cases h : x.1 = k
    · have h2 : y.1 = k := a.1 ▸ h
      exact .inr ⟨x.2.2, y.2, by simp [lookN, List.find?_cons, h], by simp [atKey, List.find?_cons, h2], a.2.2⟩
    · have h2 : ¬ y.1 = k := fun e => h (a.1.trans e)
      have e1 : lookN (x :: xs) k = lookN xs k := by simp [lookN, List.find?_cons, h]
      have e2 : atKey (y :: ys) k = atKey ys k := by simp [atKey, List.find?_cons, h2]
      rw [e1, e2]
      exact NRel.look k b
theorem NRel.mem : ∀ {xs : NX} {ys : List (NestedKey × Addr × Value)}, NRel xs ys → ∀ y ∈ ys, ∃ x ∈ xs, x.1 = y.1 ∧ x.2.1 = y.2.1
  | _, _, .nil, y, h => by simp at h
  | _, _, .cons (a := x) a b, y, h => by
    rcases List.mem_cons.mp h with e | e
    · exact ⟨x, List.mem_cons_self, by rw [e]; exact ⟨a.1, a.2.1⟩⟩
    · obtain ⟨z, hz, q⟩ := NRel.mem b y e
      exact ⟨z, List.mem_cons_of_mem _ hz, q⟩
section
variable {X : Cx} {pins : List (Addr × Obj)} {σ : L2.St} {H : Hp} {s : Shared} {a b : Addr} {xs : NX} {k : NestedKey} {A : Around} {E : Value → Shared → Prop}
end
section
variable {X : Cx} {o i e value : Expr} {td ty tv : TE} {pos pos' : Pos}
end
end Rg

set_option Elab.async false
set_option linter.all false
set_option maxRecDepth 100000
set_option maxHeartbeats 2000000
namespace Rg
open PySem PySem.Spec PyProof.Rows L2
inductive Tg where
  | lst | tup | ins (C : Str) (fs : List Str) | exc (C : Str) (fs : List Str) | dct (ks : List Key)
  deriving DecidableEq
/-- a value as data: the heap is in it -/
inductive DV where
  | non | bl (b : Bool) | int (i : Int) | str (x : Str) | raw (v : V) | node (t : Tg) (xs : List DV)
abbrev DV.lst (xs : List DV) : DV := .node .lst xs
abbrev DV.tup (xs : List DV) : DV := .node .tup xs
/-- an exception of the class cls, with its dict at d -/
def ExG (cls : Value) (d : Option Addr) (a : Addr) : HO := .ext fun h => ∃ (oe : Obj) (vs : Array Value), h.get? a = some oe ∧ Zc cls d oe ∧ oe.data = .fields vs
mutual
inductive Rv (K : PySem.W.Frag) (D : Hp) : V → DV → Prop
  | non : Rv K D .non .non
  | bl (b : Bool) : Rv K D (.bl b) (.bl b)
  | int (i : Int) : Rv K D (.int i) (.int i)
  | str (x : Str) : Rv K D (.str x) (.str x)
  | raw (v : V) : Rv K D v (.raw v)
  | lst {a : Addr} {vs : List V} {ds : List DV} : D a = some (.lst vs) → RvA K D vs ds → Rv K D (.ref a) (.node .lst ds)
  | tup {a : Addr} {vs : List V} {ds : List DV} : D a = some (.tup vs) → RvA K D vs ds → Rv K D (.ref a) (.node .tup ds)
  | ins {a dx : Addr} {C : Str} {fs : List Str} {vs : List V} {ds : List DV} : D a = some (.ins (He.ga K C) dx (fs.zip vs)) → fs.length = vs.length → RvA K D vs ds → Rv K D (.ref a) (.node (.ins C fs) ds)
  | exc {a d : Addr} {C : Str} {fs : List Str} {ps : List (Str × V)} {ds : List DV} : D a = some (ExG (.ref (He.ga K C)) (some d) a) → D d = some (.xd ps) → ps.map (·.1) = fs → RvA K D (ps.map (·.2)) ds → Rv K D (.ref a) (.node (.exc C fs) ds)
  | dct {a : Addr} {ks : List Key} {vs : List V} {ds : List DV} : D a = some (.dK (ks.zip vs)) → ks.length = vs.length → RvA K D vs ds → Rv K D (.ref a) (.node (.dct ks) ds)
inductive RvA (K : PySem.W.Frag) (D : Hp) : List V → List DV → Prop
  | nil : RvA K D [] []
  | cons {v : V} {vs : List V} {d : DV} {ds : List DV} : Rv K D v d → RvA K D vs ds → RvA K D (v :: vs) (d :: ds)
end
section
variable {K : PySem.W.Frag} {D D' : Hp}
theorem rv_mono (e : Same D D') {v : V} {d : DV} (h : Rv K D v d) : Rv K D' v d :=
  Rv.rec (motive_1 := fun v d _ => Rv K D' v d) (motive_2 := fun vs ds _ => RvA K D' vs ds) .non .bl .int .str .raw (fun h _ i => .lst (e _ _ h) i) (fun h _ i => .tup (e _ _ h) i) (fun h l _ i => .ins (e _ _ h) l i) (fun h h2 l _ i => .exc (e _ _ h) (e _ _ h2) l i) (fun h l _ i => .dct (e _ _ h) l i) .nil (fun _ _ i j => .cons i j) h
theorem rvA_mono (e : Same D D') : ∀ {vs : List V} {ds : List DV}, RvA K D vs ds → RvA K D' vs ds
  | _, _, .nil => .nil
  | _, _, .cons a b => .cons (rv_mono e a) (rvA_mono e b)
theorem rvA_len : ∀ {vs : List V} {ds : List DV}, RvA K D vs ds → vs.length = ds.length
  | _, _, .nil => rfl
  | _, _, .cons _ t => congrArg Nat.succ (rvA_len t)
theorem rvA_app : ∀ {vs ws : List V} {ds es : List DV}, RvA K D vs ds → RvA K D ws es → RvA K D (vs ++ ws) (ds ++ es)
  | _, _, _, _, .nil, h => h
  | _, _, _, _, .cons r t, h => .cons r (rvA_app t h)
theorem rvA_get : ∀ {vs : List V} {ds : List DV} {i : Nat} {v : V}, RvA K D vs ds → vs[i]? = some v → ∃ d, ds[i]? = some d ∧ Rv K D v d
  | _, _, _, _, .nil, e => by simp at e
  | _, _, 0, _, .cons r _, e => by simp at e; subst e; exact ⟨_, rfl, r⟩
  | _, _, i + 1, v, .cons _ t, e => by
    obtain ⟨d, h1, h2⟩ := rvA_get (i := i) (v := v) t (by simpa using e)
    exact ⟨d, by simpa using h1, h2⟩
theorem rvA_at : ∀ {vs : List V} {ds : List DV} {i : Nat} {d : DV}, RvA K D vs ds → ds[i]? = some d → ∃ v, vs[i]? = some v ∧ Rv K D v d
  | _, _, _, _, .nil, e => by simp at e
  | _, _, 0, _, .cons r _, e => by simp at e; subst e; exact ⟨_, rfl, r⟩
  | _, _, i + 1, d, .cons _ t, e => by
    obtain ⟨v, h1, h2⟩ := rvA_at (i := i) (d := d) t (by simpa using e)
    exact ⟨v, by simpa using h1, h2⟩
theorem rvA_one {v : V} {d : DV} (h : Rv K D v d) : RvA K D [v] [d] := .cons h .nil
theorem rvA_take : ∀ (n : Nat) {vs : List V} {ds : List DV}, RvA K D vs ds → RvA K D (vs.take n) (ds.take n)
  | 0, _, _, _ => .nil
  | _ + 1, _, _, .nil => .nil
  | n + 1, _, _, .cons a b => .cons a (rvA_take n b)
theorem rvA_drop : ∀ (n : Nat) {vs : List V} {ds : List DV}, RvA K D vs ds → RvA K D (vs.drop n) (ds.drop n)
  | 0, _, _, h => h
  | _ + 1, _, _, .nil => .nil
  | n + 1, _, _, .cons a b => rvA_drop n b
theorem rv_lst {v : V} {ds : List DV} (h : Rv K D v (.node .lst ds)) : ∃ a vs, v = .ref a ∧ D a = some (.lst vs) ∧ RvA K D vs ds := by
  cases h with
  | lst h1 h2 => exact ⟨_, _, rfl, h1, h2⟩
theorem rv_tup {v : V} {ds : List DV} (h : Rv K D v (.node .tup ds)) : ∃ a vs, v = .ref a ∧ D a = some (.tup vs) ∧ RvA K D vs ds := by
  cases h with
  | tup h1 h2 => exact ⟨_, _, rfl, h1, h2⟩
theorem rv_ins {v : V} {C : Str} {fs : List Str} {ds : List DV} (h : Rv K D v (.node (.ins C fs) ds)) : ∃ a dx vs, v = .ref a ∧ D a = some (.ins (He.ga K C) dx (fs.zip vs)) ∧ fs.length = vs.length ∧ RvA K D vs ds := by
  cases h with
  | ins h1 h2 h3 => exact ⟨_, _, _, rfl, h1, h2, h3⟩
theorem rv_int {v : V} {i : Int} (h : Rv K D v (.int i)) : v = .int i := by cases h; rfl
theorem rv_str {v : V} {i : Str} (h : Rv K D v (.str i)) : v = .str i := by cases h; rfl
theorem rv_bl {v : V} {i : Bool} (h : Rv K D v (.bl i)) : v = .bl i := by cases h; rfl
theorem rv_raw {v u : V} (h : Rv K D v (.raw u)) : v = u := by cases h; rfl
end

section
variable {κ : Type} [DecidableEq κ]
def dput (kvs : List (κ × DV)) (k : κ) (d : DV) : List (κ × DV) :=
  if (kvs.any fun kv => decide (kv.1 = k)) = true then kvs.map (fun kv => if kv.1 = k then (kv.1, d) else kv) else kvs ++ [(k, d)]
def RvP (K : PySem.W.Frag) (D : Hp) : List (κ × V) → List (κ × DV) → Prop := Paired fun p q => p.1 = q.1 ∧ Rv K D p.2 q.2
variable {K : PySem.W.Frag} {D D' : Hp}
theorem rvP_mono (e : Same D D') : ∀ {ps : List (κ × V)} {qs : List (κ × DV)}, RvP K D ps qs → RvP K D' ps qs
  | _, _, .nil => .nil
  | _, _, .cons a b => .cons ⟨a.1, rv_mono e a.2⟩ (rvP_mono e b)
theorem rvP_len : ∀ {ps : List (κ × V)} {qs : List (κ × DV)}, RvP K D ps qs → ps.length = qs.length
  | _, _, .nil => rfl
  | _, _, .cons _ b => congrArg Nat.succ (rvP_len b)
theorem rvP_any (k : κ) : ∀ {ps : List (κ × V)} {qs : List (κ × DV)}, RvP K D ps qs → (ps.any fun kv => decide (kv.1 = k)) = (qs.any fun kv => decide (kv.1 = k))
  | _, _, .nil => rfl
  | p :: ps, q :: qs, .cons a b => by rw [List.any_cons, List.any_cons, rvP_any k b, a.1]
theorem rvP_app : ∀ {ps ps' : List (κ × V)} {qs qs' : List (κ × DV)}, RvP K D ps qs → RvP K D ps' qs' → RvP K D (ps ++ ps') (qs ++ qs')
  | _, _, _, _, .nil, h => h
  | _, _, _, _, .cons a b, h => .cons a (rvP_app b h)
theorem rvP_map (k : κ) {v : V} {d : DV} (r : Rv K D v d) : ∀ {ps : List (κ × V)} {qs : List (κ × DV)}, RvP K D ps qs → RvP K D (ps.map fun kv => if kv.1 = k then (kv.1, v) else kv) (qs.map fun kv => if kv.1 = k then (kv.1, d) else kv)
  | _, _, .nil => .nil
  | p :: ps, q :: qs, .cons a b => by
    refine .cons ?_ (rvP_map k r b)
    show (if p.1 = k then (p.1, v) else p).1 = (if q.1 = k then (q.1, d) else q).1 ∧ Rv K D (if p.1 = k then (p.1, v) else p).2 (if q.1 = k then (q.1, d) else q).2
    by_cases h : p.1 = k
    · have h2 : q.1 = k := a.1 ▸ h
      rw [if_pos h, if_pos h2]
      exact ⟨a.1, r⟩
    · have h2 : ¬ q.1 = k := fun e => h (a.1.trans e)
      rw [if_neg h, if_neg h2]
      exact a
theorem rvP_put (k : κ) {v : V} {d : DV} (r : Rv K D v d) {ps : List (κ × V)} {qs : List (κ × DV)} (h : RvP K D ps qs) : RvP K D (putK ps k v) (dput qs k d) := by
  unfold putK dput
  rw [rvP_any k h]
  split
  · exact rvP_map k r h
  · exact rvP_app h (.cons ⟨rfl, r⟩ .nil)
end
/-- what a slot holds: a settled value, or an object of its own that may yet be written -/
inductive SV where
  | val (d : DV) | lst (ds : List DV) | dK (kvs : List (Key × DV)) | dT (kvs : List (List Key × DV)) | ins (C : Str) (fs : List (Str × DV)) | dN (P : Program) (w : World) (kvs : List (NestedKey × DV))
def NOb (K : PySem.W.Frag) (D : Hp) : NX → List (NestedKey × DV) → Prop := Paired fun x kv => x.1 = kv.1 ∧ NkV D (.ref x.2.1) x.1 ∧ x.1.depth ≤ 8 ∧ Rv K D x.2.2 kv.2
theorem nob_mono {K : PySem.W.Frag} {D D' : Hp} (e : Same D D') : ∀ {xs : NX} {kvs : List (NestedKey × DV)}, NOb K D xs kvs → NOb K D' xs kvs
  | _, _, .nil => .nil
  | _, _, .cons a b => .cons ⟨a.1, nk_mono e a.2.1, a.2.2.1, rv_mono e a.2.2.2⟩ (nob_mono e b)
def Ob (K : PySem.W.Frag) (D H : Hp) (a : Addr) : SV → Prop
  | .val _ => False
  | .lst ds => ∃ vs, H a = some (.lst vs) ∧ RvA K D vs ds
  | .dK kvs => ∃ ps, H a = some (.dK ps) ∧ RvP K D ps kvs
  | .dT kvs => ∃ ps, H a = some (.dT ps) ∧ RvP K D ps kvs
  | .ins C fs => ∃ dx ps, H a = some (.ins (He.ga K C) dx ps) ∧ RvP K D ps fs
  | .dN P w kvs => ∃ xs, H a = some (.ext (nestP P w a xs)) ∧ NOb K D xs kvs
theorem Ob.mono {K : PySem.W.Frag} {D D' H H' : Hp} {a : Addr} {s : SV} (h : Ob K D H a s) (e : Same D D') (eh : H' a = H a) : Ob K D' H' a s := by
  cases s with
  | val d => exact h
  | lst ds => obtain ⟨vs, h1, h2⟩ := h; exact ⟨vs, eh.trans h1, rvA_mono e h2⟩
  | dK ds => obtain ⟨vs, h1, h2⟩ := h; exact ⟨vs, eh.trans h1, rvP_mono e h2⟩
  | dT ds => obtain ⟨vs, h1, h2⟩ := h; exact ⟨vs, eh.trans h1, rvP_mono e h2⟩
  | ins C ds => obtain ⟨dx, vs, h1, h2⟩ := h; exact ⟨dx, vs, eh.trans h1, rvP_mono e h2⟩
  | dN P w ds => obtain ⟨vs, h1, h2⟩ := h; exact ⟨vs, eh.trans h1, nob_mono e h2⟩
theorem Ob.there {K : PySem.W.Frag} {D H : Hp} {a : Addr} {s : SV} (h : Ob K D H a s) : H a ≠ none := by
  cases s with
  | val d => exact h.elim
  | lst ds => obtain ⟨vs, h1, h2⟩ := h; rw [h1]; exact fun z => nomatch z
  | dK ds => obtain ⟨vs, h1, h2⟩ := h; rw [h1]; exact fun z => nomatch z
  | dT ds => obtain ⟨vs, h1, h2⟩ := h; rw [h1]; exact fun z => nomatch z
  | ins C ds => obtain ⟨dx, vs, h1, h2⟩ := h; rw [h1]; exact fun z => nomatch z
  | dN P w ds => obtain ⟨vs, h1, h2⟩ := h; rw [h1]; exact fun z => nomatch z
abbrev Sl := List (Option SV)
/-- the slots of a def: as: the objects that are its own, F: objects of its own outside of the slots -/
inductive Rs (K : PySem.W.Frag) (D H H0 : Hp) (F : List Addr) : L2.St → Sl → List Addr → Prop
  | nil : Rs K D H H0 F [] [] F
  | no {o : Option V} {σ : L2.St} {ρ : Sl} {as : List Addr} : Rs K D H H0 F σ ρ as → Rs K D H H0 F (o :: σ) (none :: ρ) as
  | val {v : V} {d : DV} {σ : L2.St} {ρ : Sl} {as : List Addr} : Rv K D v d → Rs K D H H0 F σ ρ as → Rs K D H H0 F (some v :: σ) (some (.val d) :: ρ) as
  | own {a : Addr} {s : SV} {σ : L2.St} {ρ : Sl} {as : List Addr} : Ob K D H a s → D a = none → H0 a = none → a ∉ as → Rs K D H H0 F σ ρ as → Rs K D H H0 F (some (.ref a) :: σ) (some s :: ρ) (a :: as)
section
variable {K : PySem.W.Frag} {D H D' H' H0 : Hp} {F : List Addr}
theorem Rs.len : ∀ {σ : L2.St} {ρ : Sl} {as : List Addr}, Rs K D H H0 F σ ρ as → σ.length = ρ.length
  | _, _, _, .nil => rfl
  | _, _, _, .no h => congrArg Nat.succ h.len
  | _, _, _, .val _ h => congrArg Nat.succ h.len
  | _, _, _, .own _ _ _ _ h => congrArg Nat.succ h.len
theorem Rs.frame : ∀ {σ : L2.St} {ρ : Sl} {as : List Addr}, Rs K D H H0 F σ ρ as → ∀ a ∈ F, a ∈ as
  | _, _, _, .nil, _, h => h
  | _, _, _, .no r, a, h => r.frame a h
  | _, _, _, .val _ r, a, h => r.frame a h
  | _, _, _, .own _ _ _ _ r, a, h => List.mem_cons_of_mem _ (r.frame a h)
/-- heaps that keep what is of the slots' own -/
theorem Rs.mono (e : Same D D') : ∀ {σ : L2.St} {ρ : Sl} {as : List Addr}, Rs K D H H0 F σ ρ as → (∀ a ∈ as, H a ≠ none → H' a = H a) → (∀ a ∈ as, D a = none → H a ≠ none → D' a = none) → Rs K D' H' H0 F σ ρ as
  | _, _, _, .nil, _, _ => .nil
  | _, _, _, .no r, k, n => .no (r.mono e k n)
  | _, _, _, .val q r, k, n => .val (rv_mono e q) (r.mono e k n)
  | _, _, _, .own o d z x r, k, n => .own (o.mono e (k _ List.mem_cons_self o.there)) (n _ List.mem_cons_self d o.there) z x (r.mono e (fun a h => k a (List.mem_cons_of_mem _ h)) (fun a h => n a (List.mem_cons_of_mem _ h)))
theorem Rs.get : ∀ {σ : L2.St} {ρ : Sl} {as : List Addr} {i : Nat} {d : DV}, Rs K D H H0 F σ ρ as → ρ[i]? = some (some (.val d)) → ∃ v, σ[i]? = some (some v) ∧ Rv K D v d
  | _, _, _, _, _, .nil, e => by simp at e
  | _, _, _, 0, _, .no _, e => by simp at e
  | _, _, _, i + 1, d, .no r, e => by simpa using r.get (i := i) (d := d) (by simpa using e)
  | _, _, _, 0, _, .val q _, e => by
    have e' := Option.some.inj (Option.some.inj e)
    cases e'
    exact ⟨_, rfl, q⟩
  | _, _, _, i + 1, d, .val _ r, e => by simpa using r.get (i := i) (d := d) (by simpa using e)
  | _, _, _, 0, _, .own o _ _ _ _, e => by
    have e' := Option.some.inj (Option.some.inj e)
    rw [e'] at o
    exact o.elim
  | _, _, _, i + 1, d, .own _ _ _ _ r, e => by simpa using r.get (i := i) (d := d) (by simpa using e)
/-- a slot with an object of its own: what is known, and another state of the object put in -/
theorem Rs.own_at : ∀ {σ : L2.St} {ρ : Sl} {as : List Addr} {i : Nat} {s : SV}, Rs K D H H0 F σ ρ as → ρ[i]? = some (some s) → (∀ d, s ≠ .val d) → ∃ a, σ[i]? = some (some (.ref a)) ∧ Ob K D H a s ∧ D a = none ∧ H0 a = none ∧ a ∈ as ∧ a ∉ F ∧
    (∀ (H' : Hp) (s' : SV), (∀ b, b ≠ a → H' b = H b) → Ob K D H' a s' → (∀ d, s' ≠ .val d) → Rs K D H' H0 F σ (ρ.set i (some s')) as) ∧
    (∀ (D' : Hp) (d : DV), Same D D' → (∀ b, b ≠ a → D' b = D b) → Rv K D' (.ref a) d → ∃ as', (∀ b ∈ as', b ∈ as) ∧ a ∉ as' ∧ Rs K D' H H0 F σ (ρ.set i (some (.val d))) as')
  | _, _, _, _, _, .nil, e, _ => by simp at e
  | _, _, _, 0, _, .no _, e, _ => by simp at e
  | _, _, _, i + 1, s, .no r, e, n => by
    obtain ⟨a, h1, h2, h3, h4, h5, h6, h7, h8⟩ := r.own_at (i := i) (s := s) (by simpa using e) n
    exact ⟨a, by simpa using h1, h2, h3, h4, h5, h6, fun H' s' k o z => .no (h7 H' s' k o z), fun D' d k q w => let ⟨as', x, y, z⟩ := h8 D' d k q w; ⟨as', x, y, .no z⟩⟩
  | _, _, _, 0, _, .val q _, e, n => by
    have e' := Option.some.inj (Option.some.inj e)
    exact absurd e'.symm (n _)
  | _, _, _, i + 1, s, .val q r, e, n => by
    obtain ⟨a, h1, h2, h3, h4, h5, h6, h7, h8⟩ := r.own_at (i := i) (s := s) (by simpa using e) n
    exact ⟨a, by simpa using h1, h2, h3, h4, h5, h6, fun H' s' k o z => .val q (h7 H' s' k o z), fun D' d k q' w => let ⟨as', x, y, z⟩ := h8 D' d k q' w; ⟨as', x, y, .val (rv_mono k q) z⟩⟩
  | _, _, _, 0, _, .own (a := a) o d z x r, e, n => by
    have e' := Option.some.inj (Option.some.inj e)
    cases e'
    refine ⟨a, rfl, o, d, z, List.mem_cons_self, fun h => x (r.frame a h), fun H' s' k o' z' => ?_, fun D' dv k q w => ?_⟩
    · exact .own o' d z x (r.mono (Same.refl D) (fun b hb _ => k b fun e => x (e ▸ hb)) fun _ _ e _ => e)
    · exact ⟨_, fun b hb => List.mem_cons_of_mem _ hb, x, .val w (r.mono k (fun _ _ _ => rfl) fun b hb e _ => (q b fun e => x (e ▸ hb)).trans e)⟩
  | _, _, _, i + 1, s, .own (a := b) o d z x r, e, n => by
    obtain ⟨a, h1, h2, h3, h4, h5, h6, h7, h8⟩ := r.own_at (i := i) (s := s) (by simpa using e) n
    have ne : b ≠ a := fun e => x (e ▸ h5)
    refine ⟨a, by simpa using h1, h2, h3, h4, List.mem_cons_of_mem _ h5, h6, fun H' s' k o' z' => ?_, fun D' dv k q w => ?_⟩
    · exact .own (o.mono (Same.refl D) (k b ne)) d z x (h7 H' s' k o' z')
    · obtain ⟨as', u1, u2, u3⟩ := h8 D' dv k q w
      refine ⟨b :: as', fun c hc => ?_, fun hc => ?_, .own (o.mono k rfl) ((q b ne).trans d) z (fun hb => x (u1 b hb)) u3⟩
      · rcases List.mem_cons.mp hc with h | h
        · exact h ▸ List.mem_cons_self
        · exact List.mem_cons_of_mem _ (u1 c h)
      · rcases List.mem_cons.mp hc with h | h
        · exact ne h.symm
        · exact u2 h
/-- a slot gets a settled value -/
theorem Rs.set {v : V} {d : DV} (q : Rv K D v d) : ∀ {σ : L2.St} {ρ : Sl} {as : List Addr} (i : Nat), Rs K D H H0 F σ ρ as → ∃ as', (∀ b ∈ as', b ∈ as) ∧ Rs K D H H0 F (σ.set i (some v)) (ρ.set i (some (.val d))) as'
  | _, _, _, _, .nil => ⟨_, fun _ h => h, .nil⟩
  | _, _, _, 0, .no r => ⟨_, fun _ h => h, .val q r⟩
  | _, _, _, i + 1, .no r => let ⟨as', x, y⟩ := r.set q i; ⟨as', x, .no y⟩
  | _, _, _, 0, .val _ r => ⟨_, fun _ h => h, .val q r⟩
  | _, _, _, i + 1, .val p r => let ⟨as', x, y⟩ := r.set q i; ⟨as', x, .val p y⟩
  | _, _, _, 0, .own _ _ _ _ r => ⟨_, fun _ h => List.mem_cons_of_mem _ h, .val q r⟩
  | _, _, _, i + 1, .own (a := a) o d z x r => by
    obtain ⟨as', x1, y⟩ := r.set q i
    refine ⟨a :: as', fun b hb => ?_, .own o d z (fun h => x (x1 a h)) y⟩
    rcases List.mem_cons.mp hb with h | h
    · exact h ▸ List.mem_cons_self
    · exact List.mem_cons_of_mem _ (x1 b h)
/-- a slot is forgotten -/
theorem Rs.drop : ∀ {σ : L2.St} {ρ : Sl} {as : List Addr} (o : Option V) (i : Nat), Rs K D H H0 F σ ρ as → ∃ as', (∀ b ∈ as', b ∈ as) ∧ Rs K D H H0 F (σ.set i o) (ρ.set i none) as'
  | _, _, _, _, _, .nil => ⟨_, fun _ h => h, .nil⟩
  | _, _, _, _, 0, .no r => ⟨_, fun _ h => h, .no r⟩
  | _, _, _, o, i + 1, .no r => let ⟨as', x, y⟩ := r.drop o i; ⟨as', x, .no y⟩
  | _, _, _, _, 0, .val _ r => ⟨_, fun _ h => h, .no r⟩
  | _, _, _, o, i + 1, .val p r => let ⟨as', x, y⟩ := r.drop o i; ⟨as', x, .val p y⟩
  | _, _, _, _, 0, .own _ _ _ _ r => ⟨_, fun _ h => List.mem_cons_of_mem _ h, .no r⟩
  | _, _, _, o, i + 1, .own (a := a) o' d z x r => by
    obtain ⟨as', x1, y⟩ := r.drop o i
    refine ⟨a :: as', fun b hb => ?_, .own o' d z (fun h => x (x1 a h)) y⟩
    rcases List.mem_cons.mp hb with h | h
    · exact h ▸ List.mem_cons_self
    · exact List.mem_cons_of_mem _ (x1 b h)
end
/-- less is known of some slots -/
inductive Le : Sl → Sl → Prop
  | nil : Le [] []
  | no {o : Option SV} {a b : Sl} : Le a b → Le (none :: a) (o :: b)
  | eq {o : Option SV} {a b : Sl} : Le a b → Le (o :: a) (o :: b)
theorem Le.refl : ∀ a : Sl, Le a a
  | [] => .nil
  | _ :: r => .eq (Le.refl r)
theorem Rs.le {K : PySem.W.Frag} {D H H0 : Hp} {F : List Addr} : ∀ {σ : L2.St} {ρ ρ' : Sl} {as : List Addr}, Rs K D H H0 F σ ρ as → Le ρ' ρ → ∃ as', (∀ b ∈ as', b ∈ as) ∧ Rs K D H H0 F σ ρ' as'
  | _, _, _, _, .nil, .nil => ⟨_, fun _ h => h, .nil⟩
  | _, _, _, _, .no r, .no l => let ⟨as', x, y⟩ := r.le l; ⟨as', x, .no y⟩
  | _, _, _, _, .no r, .eq l => let ⟨as', x, y⟩ := r.le l; ⟨as', x, .no y⟩
  | _, _, _, _, .val p r, .no l => let ⟨as', x, y⟩ := r.le l; ⟨as', x, .no y⟩
  | _, _, _, _, .val p r, .eq l => let ⟨as', x, y⟩ := r.le l; ⟨as', x, .val p y⟩
  | _, _, _, _, .own o d z x r, .no l => let ⟨as', x', y⟩ := r.le l; ⟨as', fun b h => List.mem_cons_of_mem _ (x' b h), .no y⟩
  | _, _, _, _, .own (a := a) o d z x r, .eq l => by
    obtain ⟨as', x1, y⟩ := r.le l
    refine ⟨a :: as', fun b hb => ?_, .own o d z (fun h => x (x1 a h)) y⟩
    rcases List.mem_cons.mp hb with h | h
    · exact h ▸ List.mem_cons_self
    · exact List.mem_cons_of_mem _ (x1 b h)
end Rg

set_option Elab.async false
set_option linter.all false
set_option maxRecDepth 100000
set_option maxHeartbeats 2000000
namespace Rg
open PySem PySem.Spec PyProof.Rows L2
/-- no table -/
def NT : HO → Prop
  | .tbl _ => False
  | _ => True
/-- the table at P: each code object that it tells is settled and bears the name of a lambda of that code -/
def TabD (K : PySem.W.Frag) (D H : Hp) (P : Addr) : Prop := D P = none ∧ ∃ ps : Array Value, H P = some (.tbl ps) ∧ TriplesOk ps.toList ∧ ∀ (pos : Pos) (cv : Value), codeAmong pos ps.toList = some cv → ∃ c, cv = .ref c ∧ D c = some (LamX.CodeO c (qnK K P ++ ".<locals>.<lambda>"))
structure StepT (K : PySem.W.Frag) (W : Addr → Prop) (D H D' H' : Hp) : Prop where
  dd : Same D D'
  dh : Same D' H'
  kq : ∀ b o, ¬ W b → NT o → H b = some o → H' b = some o
  ns : ∀ b, H b ≠ none → H' b ≠ none
  fr : ∀ b, H b ≠ none → D b = none → D' b = none
  tb : ∀ b, ¬ W b → TabD K D H b → TabD K D' H' b
section
variable {K : PySem.W.Frag} {W W' : Addr → Prop} {D H D1 H1 D2 H2 : Hp}
theorem TabD.there {b : Addr} (t : TabD K D H b) : H b ≠ none := by
  obtain ⟨_, ps, h, _⟩ := t
  rw [h]
  exact fun z => nomatch z
theorem Step.t (s : Step W D H D1 H1) : StepT K W D H D1 H1 := ⟨s.dd, s.dh, fun b o hw _ e => s.kp b o hw e, s.ns, s.fr, fun b hw t => by
  have n := t.there
  obtain ⟨h0, ps, h, ht, hc⟩ := t
  exact ⟨s.fr b n h0, ps, s.kp b _ hw h, ht, fun pos cv z => let ⟨c, e1, e2⟩ := hc pos cv z; ⟨c, e1, s.dd _ _ e2⟩⟩⟩
instance : Coe (Step W D H D1 H1) (StepT K W D H D1 H1) := ⟨Step.t⟩
theorem StepT.kp (s : StepT K W D H D1 H1) (b : Addr) (o : HO) (hw : ¬ W b) (e : H b = some o) (n : NT o := by trivial) : H1 b = some o := s.kq b o hw n e
theorem StepT.trans (a : StepT K W D H D1 H1) (b : StepT K W D1 H1 D2 H2) : StepT K W D H D2 H2 :=
  ⟨a.dd.trans b.dd, b.dh, fun c o hc n e => b.kq c o hc n (a.kq c o hc n e), fun c e => b.ns c (a.ns c e), fun c e d => b.fr c (a.ns c e) (a.fr c e d), fun c hc t => b.tb c hc (a.tb c hc t)⟩
theorem StepT.mono (a : StepT K W D H D1 H1) (h : ∀ b, W b → W' b) : StepT K W' D H D1 H1 :=
  ⟨a.dd, a.dh, fun c o hc n e => a.kq c o (fun z => hc (h c z)) n e, a.ns, a.fr, fun c hc t => a.tb c (fun z => hc (h c z)) t⟩
theorem StepT.any (a : StepT K NoW D H D1 H1) : StepT K W D H D1 H1 := a.mono fun _ z => z.elim
theorem StepT.settle {p : Addr} {o : HO} (a : StepT K W D H D1 H1) (h0 : H p = none) (h1 : H1 p = some o) (hd : D1 p = none) : StepT K W D H (upd D1 p o) H1 := by
  refine ⟨a.dd.trans (same_new hd), fun b u e => ?_, a.kq, a.ns, fun b e d => ?_, fun b hw t => ?_⟩
  · by_cases q : b = p
    · rw [q, upd_same] at e
      rw [q, h1]
      exact e
    · rw [upd_ne q] at e
      exact a.dh b u e
  · have q : b ≠ p := fun z => e (z ▸ h0)
    rw [upd_ne q]
    exact a.fr b e d
  · have ne : b ≠ p := fun z => t.there (z ▸ h0)
    obtain ⟨g0, ps, h, ht, hc⟩ := a.tb b hw t
    exact ⟨by rw [upd_ne ne]; exact g0, ps, h, ht, fun pos cv z => let ⟨c, e1, e2⟩ := hc pos cv z; ⟨c, e1, same_new hd _ _ e2⟩⟩
theorem StepT.write {p : Addr} {o : HO} (a : StepT K W D H D1 H1) (hw : W p ∨ H p = none) (hd : D1 p = none) : StepT K W D H D1 (upd H1 p o) := by
  have np : ∀ b, ¬ W b → H b ≠ none → b ≠ p := fun b h1 h2 z => by
    rcases hw with w | w
    · exact h1 (z ▸ w)
    · exact h2 (z ▸ w)
  refine ⟨a.dd, fun b u e => ?_, fun b u hb n e => ?_, fun b e => upd_ne_none (a.ns b e), a.fr, fun b hb t => ?_⟩
  · have q : b ≠ p := fun z => by
      rw [z, hd] at e
      cases e
    rw [upd_ne q]
    exact a.dh b u e
  · rw [upd_ne (np b hb (by rw [e]; exact fun z => nomatch z))]
    exact a.kq b u hb n e
  · obtain ⟨g0, ps, h, ht, hc⟩ := a.tb b hb t
    exact ⟨g0, ps, by rw [upd_ne (np b hb t.there)]; exact h, ht, hc⟩
theorem StepT.free {p : Addr} (a : StepT K W D H D1 H1) (h : H1 p = none) : H p = none := by
  cases e : H p with
  | none => rfl
  | some o => exact absurd h (a.ns p (by rw [e]; exact fun z => by cases z))
theorem StepT.refl (h : Same D H) : StepT K W D H D H := (Step.refl h).t
/-- what is written was new -/
theorem StepT.fresh (a : StepT K W D H D1 H1) (h : ∀ b, W b → W' b ∨ H b = none) : StepT K W' D H D1 H1 := by
  have nw : ∀ b, ¬ W' b → H b ≠ none → ¬ W b := fun b h1 h2 z => (h b z).elim h1 h2
  exact ⟨a.dd, a.dh, fun b o hb n e => a.kq b o (nw b hb (by rw [e]; exact fun z => nomatch z)) n e, a.ns, a.fr, fun b hb t => a.tb b (nw b hb t.there) t⟩
theorem PenAt.keepT {p : Addr} {n : Nat} (h : PenAt K D H p n) (s : StepT K W D H D1 H1) (hw : ¬ W p) : PenAt K D1 H1 p n := by
  have hn := h.there
  obtain ⟨o, q, ns, t, g, h1, h2, h3, h4⟩ := h
  exact ⟨s.fr p hn o, q, ns, t, g, s.kp p _ hw h1, s.dd.seq h2, h3, h4⟩
end
structure Ps where
  sl : Sl
  ink : Nat
/-- where a def's body runs: the written part, the pen, the heaps at its start, what is wanted of an exception -/
structure Gx where
  K : PySem.W.Frag
  pn : Option Addr
  D0 : Hp
  H0 : Hp
  E : XK
  fr : List (Addr × HO)
abbrev Wn (pn : Option Addr) : Addr → Prop := fun b => pn = some b
def PenOk (K : PySem.W.Frag) (D H : Hp) (pn : Option Addr) (n : Nat) : Prop := ∀ p, pn = some p → PenAt K D H p n
structure RelB (G : Gx) (F : List (Addr × HO)) (D : Hp) (σ : L2.St) (H : Hp) (ρ : Ps) : Prop where
  st : StepT G.K (Wn G.pn) G.D0 G.H0 D H
  sl : ∃ as, Rs G.K D H G.H0 (F.map (·.1)) σ ρ.sl as
  fr : ∀ p ∈ F, H p.1 = some p.2 ∧ D p.1 = none ∧ G.H0 p.1 = none
  pen : PenOk G.K D H G.pn ρ.ink
  ph : ∀ p, G.pn = some p → G.H0 p ≠ none
  nt : ∀ p ∈ F, NT p.2
/-- the frame: objects of one's own outside of the slots, and what the whole def keeps aside -/
abbrev Rel (G : Gx) (F : List (Addr × HO)) (D : Hp) (σ : L2.St) (H : Hp) (ρ : Ps) : Prop := RelB G (F ++ G.fr) D σ H ρ
section
variable {G : Gx} {F : List (Addr × HO)} {D D' H H' : Hp} {σ : L2.St} {ρ : Ps} {p : Addr} {o : HO}
theorem PenOk.keep {K : PySem.W.Frag} {pn : Option Addr} {n : Nat} (h : PenOk K D H pn n) (s : StepT K NoW D H D' H') : PenOk K D' H' pn n := fun p e => (h p e).keepT s (fun z => z)
theorem rs_own_h0 {K : PySem.W.Frag} {H0 : Hp} {Fa : List Addr} (hf : ∀ a ∈ Fa, H0 a = none) : ∀ {σ : L2.St} {sl : Sl} {as : List Addr}, Rs K D H H0 Fa σ sl as → ∀ a ∈ as, H0 a = none
  | _, _, _, .nil, a, h => hf a h
  | _, _, _, .no r, a, h => rs_own_h0 hf r a h
  | _, _, _, .val _ r, a, h => rs_own_h0 hf r a h
  | _, _, _, .own _ _ z _ r, a, h => by
    rcases List.mem_cons.mp h with h | h
    · exact h ▸ z
    · exact rs_own_h0 hf r a h
theorem RelB.frH0 (R : RelB G F D σ H ρ) : ∀ a ∈ F.map (·.1), G.H0 a = none := fun a h => by
  obtain ⟨p, hp, rfl⟩ := List.mem_map.mp h
  exact (R.fr p hp).2.2
theorem Ob.nt {K : PySem.W.Frag} {a : Addr} {s : SV} (h : Ob K D H a s) : ∀ o, H a = some o → NT o := fun o e => by
  have key : ∃ u, H a = some u ∧ NT u := by
    cases s with
    | val d => exact h.elim
    | lst ds => obtain ⟨vs, h1, _⟩ := h; exact ⟨_, h1, True.intro⟩
    | dK ds => obtain ⟨vs, h1, _⟩ := h; exact ⟨_, h1, True.intro⟩
    | dT ds => obtain ⟨vs, h1, _⟩ := h; exact ⟨_, h1, True.intro⟩
    | ins C fs => obtain ⟨dx, ps, h1, _⟩ := h; exact ⟨_, h1, True.intro⟩
    | dN P w kvs => obtain ⟨xs, h1, _⟩ := h; exact ⟨_, h1, True.intro⟩
  obtain ⟨u, h1, h2⟩ := key
  rw [h1] at e
  cases e
  exact h2
theorem rs_nt {K : PySem.W.Frag} {H0 : Hp} {Fa : List Addr} (hf : ∀ a ∈ Fa, ∀ o, H a = some o → NT o) : ∀ {σ : L2.St} {sl : Sl} {as : List Addr}, Rs K D H H0 Fa σ sl as → ∀ a ∈ as, ∀ o, H a = some o → NT o
  | _, _, _, .nil, a, h => hf a h
  | _, _, _, .no r, a, h => rs_nt hf r a h
  | _, _, _, .val _ r, a, h => rs_nt hf r a h
  | _, _, _, .own ob _ _ _ r, a, h => by
    rcases List.mem_cons.mp h with e | e
    · rw [e]
      exact ob.nt
    · exact rs_nt hf r a e
theorem RelB.ntA (R : RelB G F D σ H ρ) : ∀ a ∈ F.map (·.1), ∀ o, H a = some o → NT o := fun a h o e => by
  obtain ⟨p, hp, rfl⟩ := List.mem_map.mp h
  rw [(R.fr p hp).1] at e
  cases e
  exact R.nt p hp
/-- behind a step that writes at most the pen -/
theorem RelB.step {n : Nat} (R : RelB G F D σ H ρ) (s : StepT G.K (Wn G.pn) D H D' H') (pen : PenOk G.K D' H' G.pn n) : RelB G F D' σ H' { ρ with ink := n } := by
  obtain ⟨as, r⟩ := R.sl
  have z := rs_own_h0 R.frH0 r
  have nw : ∀ a, G.H0 a = none → ¬ Wn G.pn a := fun a h e => R.ph a e h
  have nt := rs_nt (fun a ha => R.ntA a ha) r
  have kp : ∀ a, G.H0 a = none → (∀ o, H a = some o → NT o) → H a ≠ none → H' a = H a := fun a h ht hn => by
    cases e : H a with
    | none => exact absurd e hn
    | some o => exact s.kq a o (nw a h) (ht o e) e
  refine ⟨R.st.trans s, ⟨as, r.mono s.dd (fun a ha => kp a (z a ha) (nt a ha)) (fun a _ hd hn => s.fr a hn hd)⟩, fun p hp => ?_, pen, R.ph, R.nt⟩
  obtain ⟨f1, f2, f3⟩ := R.fr p hp
  have hn : H p.1 ≠ none := by rw [f1]; exact fun z => nomatch z
  exact ⟨(kp p.1 f3 (R.ntA p.1 (List.mem_map.mpr ⟨p, hp, rfl⟩)) hn).trans f1, s.fr _ hn f2, f3⟩
theorem RelB.stepN (R : RelB G F D σ H ρ) (s : StepT G.K NoW D H D' H') : RelB G F D' σ H' ρ := R.step s.any (R.pen.keep s)
theorem RelB.new (R : RelB G F D σ H ρ) (h : H p = none) : RelB G F (upd D p o) σ (upd H p o) ρ := R.stepN (Step.new R.st.dh h).t
theorem RelB.tmp (R : RelB G F D σ H ρ) (h : H p = none) : RelB G F D σ (upd H p o) ρ := R.stepN (Step.tmp R.st.dh h).t
theorem RelB.newS (R : RelB G F D σ H ρ) (h : H p = none) : Same D (upd D p o) := same_new (R.st.dh.free h)
theorem RelB.same (R : RelB G F D σ H ρ) : Same D H := R.st.dh
theorem RelB.get {i : Nat} {d : DV} (R : RelB G F D σ H ρ) (e : ρ.sl[i]? = some (some (.val d))) : ∃ v, σ[i]? = some (some v) ∧ Rv G.K D v d := by
  obtain ⟨as, r⟩ := R.sl
  exact r.get e
theorem RelB.set {i : Nat} {v : V} {d : DV} (R : RelB G F D σ H ρ) (q : Rv G.K D v d) : RelB G F D (σ.set i (some v)) H { ρ with sl := ρ.sl.set i (some (.val d)) } := by
  obtain ⟨as, r⟩ := R.sl
  obtain ⟨as', _, r'⟩ := r.set q i
  exact ⟨R.st, ⟨as', r'⟩, R.fr, R.pen, R.ph, R.nt⟩
theorem RelB.drop {i : Nat} (R : RelB G F D σ H ρ) (o : Option V) : RelB G F D (σ.set i o) H { ρ with sl := ρ.sl.set i none } := by
  obtain ⟨as, r⟩ := R.sl
  obtain ⟨as', _, r'⟩ := r.drop o i
  exact ⟨R.st, ⟨as', r'⟩, R.fr, R.pen, R.ph, R.nt⟩
theorem RelB.le {sl : Sl} (R : RelB G F D σ H ρ) (l : Le sl ρ.sl) : RelB G F D σ H { ρ with sl := sl } := by
  obtain ⟨as, r⟩ := R.sl
  obtain ⟨as', _, r'⟩ := r.le l
  exact ⟨R.st, ⟨as', r'⟩, R.fr, R.pen, R.ph, R.nt⟩
/-- an object of the slots' own is settled -/
theorem RelB.settle {i : Nat} {ds : List DV} (R : RelB G F D σ H ρ) (e : ρ.sl[i]? = some (some (.lst ds))) : ∃ a D', σ[i]? = some (some (.ref a)) ∧ Same D D' ∧ RelB G F D' σ H { ρ with sl := ρ.sl.set i (some (.val (.lst ds))) } ∧ Rv G.K D' (.ref a) (.lst ds) := by
  obtain ⟨as, r⟩ := R.sl
  obtain ⟨a, h1, ⟨vs, h2, h3⟩, h4, h5, h6, h7, _, h8⟩ := r.own_at e (fun d z => nomatch z)
  have sm : Same D (upd D a (.lst vs)) := same_new h4
  have rv : Rv G.K (upd D a (.lst vs)) (.ref a) (.lst ds) := .lst upd_same (rvA_mono sm h3)
  obtain ⟨as', _, _, r'⟩ := h8 _ _ sm (fun b hb => upd_ne hb) rv
  refine ⟨a, _, h1, sm, ⟨R.st.settle h5 h2 h4, ⟨as', r'⟩, fun p hp => ?_, fun p e => ?_, R.ph, R.nt⟩, rv⟩
  · obtain ⟨f1, f2, f3⟩ := R.fr p hp
    exact ⟨f1, by rw [upd_ne (fun e => h7 (List.mem_map.mpr ⟨p, hp, e⟩))]; exact f2, f3⟩
  · obtain ⟨o, q, ns, t, g, e1, e2, e3, e4⟩ := R.pen p e
    have ne : p ≠ a := fun z => R.ph p e (z ▸ h5)
    exact ⟨by rw [upd_ne ne]; exact o, q, ns, t, g, e1, sm.seq e2, e3, e4⟩
/-- an object of the slots' own is looked at, and written -/
theorem RelB.own {i : Nat} {s : SV} (R : RelB G F D σ H ρ) (e : ρ.sl[i]? = some (some s)) (n : ∀ d, s ≠ .val d) : ∃ a, σ[i]? = some (some (.ref a)) ∧ Ob G.K D H a s ∧
    ∀ (o : HO) (s' : SV), Ob G.K D (upd H a o) a s' → (∀ d, s' ≠ .val d) → RelB G F D σ (upd H a o) { ρ with sl := ρ.sl.set i (some s') } := by
  obtain ⟨as, r⟩ := R.sl
  obtain ⟨a, h1, h2, h4, h5, h6, h7, h8, _⟩ := r.own_at e n
  refine ⟨a, h1, h2, fun o s' ob z => ⟨R.st.write (.inr h5) h4, ⟨as, h8 _ _ (fun b hb => upd_ne hb) ob z⟩, fun p hp => ?_, fun p e => ?_, R.ph, R.nt⟩⟩
  · obtain ⟨f1, f2, f3⟩ := R.fr p hp
    exact ⟨by rw [upd_ne (fun e => h7 (List.mem_map.mpr ⟨p, hp, e⟩))]; exact f1, f2, f3⟩
  · have ne : p ≠ a := fun z => R.ph p e (z ▸ h5)
    obtain ⟨o, q, ns, t, g, e1, e2, e3, e4⟩ := R.pen p e
    exact ⟨o, q, ns, t, g, by rw [upd_ne ne]; exact e1, e2, e3, e4⟩
theorem rs_push {K : PySem.W.Frag} {H0 : Hp} {Fa : List Addr} {p : Addr} : ∀ {σ : L2.St} {sl : Sl} {as : List Addr}, Rs K D H H0 Fa σ sl as → p ∉ as → ∃ as', (∀ b ∈ as', b = p ∨ b ∈ as) ∧ Rs K D H H0 (p :: Fa) σ sl as'
  | _, _, _, .nil, _ => ⟨_, fun b h => List.mem_cons.mp h, .nil⟩
  | _, _, _, .no r, n => let ⟨as', x, y⟩ := rs_push r n; ⟨as', x, .no y⟩
  | _, _, _, .val q r, n => let ⟨as', x, y⟩ := rs_push r n; ⟨as', x, .val q y⟩
  | _, _, _, .own o d z x r, n => by
    obtain ⟨as', x', y⟩ := rs_push r (fun h => n (List.mem_cons_of_mem _ h))
    refine ⟨_, fun b hb => ?_, .own o d z (fun h => ?_) y⟩
    · rcases List.mem_cons.mp hb with e | e
      · exact .inr (e ▸ List.mem_cons_self)
      · exact (x' b e).imp_right (List.mem_cons_of_mem _)
    · rcases x' _ h with e | e
      · exact n (e ▸ List.mem_cons_self)
      · exact x e
theorem rs_pop {K : PySem.W.Frag} {H0 : Hp} {Fa : List Addr} {p : Addr} : ∀ {σ : L2.St} {sl : Sl} {as : List Addr}, Rs K D H H0 (p :: Fa) σ sl as → p ∉ Fa → ∃ as', (∀ b ∈ as', b ∈ as) ∧ p ∉ as' ∧ Rs K D H H0 Fa σ sl as'
  | _, _, _, .nil, n => ⟨_, fun b h => List.mem_cons_of_mem _ h, n, .nil⟩
  | _, _, _, .no r, n => let ⟨as', x, z, y⟩ := rs_pop r n; ⟨as', x, z, .no y⟩
  | _, _, _, .val q r, n => let ⟨as', x, z, y⟩ := rs_pop r n; ⟨as', x, z, .val q y⟩
  | _, _, _, .own o d z x r, n => by
    obtain ⟨as', x', w, y⟩ := rs_pop r n
    refine ⟨_, fun b hb => ?_, fun h => ?_, .own o d z (fun h => x (x' _ h)) y⟩
    · rcases List.mem_cons.mp hb with e | e
      · exact e ▸ List.mem_cons_self
      · exact List.mem_cons_of_mem _ (x' b e)
    · rcases List.mem_cons.mp h with e | e
      · exact x (e ▸ r.frame _ List.mem_cons_self)
      · exact w e
theorem RelB.notin (R : RelB G F D σ H ρ) (h : H p = none) {as : List Addr} (r : Rs G.K D H G.H0 (F.map (·.1)) σ ρ.sl as) : p ∉ as := by
  have key : ∀ {σ : L2.St} {sl : Sl} {as : List Addr}, Rs G.K D H G.H0 (F.map (·.1)) σ sl as → ∀ a ∈ as, H a ≠ none := by
    intro σ sl as r
    induction r with
    | nil =>
      intro a ha
      obtain ⟨q, hq, rfl⟩ := List.mem_map.mp ha
      rw [(R.fr q hq).1]
      exact fun z => nomatch z
    | no _ ih => exact ih
    | val _ _ ih => exact ih
    | own ob _ _ _ _ ih =>
      intro a ha
      rcases List.mem_cons.mp ha with e | e
      · exact e ▸ ob.there
      · exact ih a e
  exact fun hp => key r p hp h
/-- a new object outside of the slots, of one's own -/
theorem RelB.push (R : RelB G F D σ H ρ) (h : H p = none) (no : NT o := by trivial) : RelB G ((p, o) :: F) D σ (upd H p o) ρ := by
  have R1 := R.tmp (o := o) h
  obtain ⟨as, r⟩ := R.sl
  have n := R.notin h r
  have r2 : Rs G.K D (upd H p o) G.H0 (F.map (·.1)) σ ρ.sl as := r.mono (Same.refl D) (fun a ha _ => upd_ne fun e => n (e ▸ ha)) fun _ _ e _ => e
  obtain ⟨as', _, r3⟩ := rs_push r2 n
  refine ⟨R1.st, ⟨as', r3⟩, fun q hq => ?_, R1.pen, R1.ph, List.forall_mem_cons.mpr ⟨no, R1.nt⟩⟩
  rcases List.mem_cons.mp hq with e | e
  · rw [e]
    exact ⟨upd_same, R.st.dh.free h, R.st.free h⟩
  · exact R1.fr q e
theorem RelB.top (R : RelB G ((p, o) :: F) D σ H ρ) : H p = some o := (R.fr _ List.mem_cons_self).1
/-- it is written -/
theorem RelB.poke {o' : HO} (R : RelB G ((p, o) :: F) D σ H ρ) (nf : p ∉ F.map (·.1)) (no : NT o' := by trivial) : RelB G ((p, o') :: F) D σ (upd H p o') ρ := by
  obtain ⟨f1, f2, f3⟩ := R.fr _ (List.mem_cons_self (a := (p, o)) (l := F))
  obtain ⟨as, r⟩ := R.sl
  have key : ∀ {σ : L2.St} {sl : Sl} {as : List Addr}, Rs G.K D H G.H0 (((p, o) :: F).map (·.1)) σ sl as → Rs G.K D (upd H p o') G.H0 (((p, o') :: F).map (·.1)) σ sl as := by
    intro σ sl as r
    induction r with
    | nil => exact .nil
    | no _ ih => exact .no ih
    | val q _ ih => exact .val q ih
    | @own a s σ ρ as ob d z x r ih => exact .own (ob.mono (Same.refl D) (upd_ne fun e => x (by rw [e]; exact r.frame p List.mem_cons_self))) d z x ih
  refine ⟨R.st.write (.inr f3) f2, ⟨as, key r⟩, fun q hq => ?_, fun b e => ?_, R.ph, List.forall_mem_cons.mpr ⟨no, (List.forall_mem_cons.mp R.nt).2⟩⟩
  · rcases List.mem_cons.mp hq with e | e
    · rw [e]
      exact ⟨upd_same, f2, f3⟩
    · obtain ⟨g1, g2, g3⟩ := R.fr q (List.mem_cons_of_mem _ e)
      exact ⟨by rw [upd_ne (fun z => nf (List.mem_map.mpr ⟨q, e, z⟩))]; exact g1, g2, g3⟩
  · have ne : b ≠ p := fun z => R.ph b e (by rw [z]; exact f3)
    obtain ⟨o, q, ns, t, g, e1, e2, e3, e4⟩ := R.pen b e
    exact ⟨o, q, ns, t, g, by rw [upd_ne ne]; exact e1, e2, e3, e4⟩
/-- it is settled -/
theorem RelB.pop (R : RelB G ((p, o) :: F) D σ H ρ) (nf : p ∉ F.map (·.1)) : RelB G F (upd D p o) σ H ρ ∧ Same D (upd D p o) := by
  obtain ⟨f1, f2, f3⟩ := R.fr _ (List.mem_cons_self (a := (p, o)) (l := F))
  obtain ⟨as, r⟩ := R.sl
  obtain ⟨as', x, y, r'⟩ := rs_pop r nf
  have sm : Same D (upd D p o) := same_new f2
  refine ⟨⟨R.st.settle f3 f1 f2, ⟨as', r'.mono sm (fun _ _ _ => rfl) (fun a ha e _ => by rw [upd_ne fun z => y (by rw [← z]; exact ha)]; exact e)⟩, fun q hq => ?_, fun b e => ?_, R.ph, (List.forall_mem_cons.mp R.nt).2⟩, sm⟩
  · obtain ⟨g1, g2, g3⟩ := R.fr q (List.mem_cons_of_mem _ hq)
    exact ⟨g1, by rw [upd_ne (fun z => nf (List.mem_map.mpr ⟨q, hq, z⟩))]; exact g2, g3⟩
  · have ne : b ≠ p := fun z => R.ph b e (by rw [z]; exact f3)
    obtain ⟨o, q, ns, t, g, e1, e2, e3, e4⟩ := R.pen b e
    exact ⟨by rw [upd_ne ne]; exact o, q, ns, t, g, e1, sm.seq e2, e3, e4⟩
theorem RelB.fresh (R : RelB G F D σ H ρ) (h : H p = none) : p ∉ F.map (·.1) := fun hp => by
  obtain ⟨q, hq, e⟩ := List.mem_map.mp hp
  have := (R.fr q hq).1
  rw [e, h] at this
  cases this
theorem RelB.swap2 {q1 q2 : Addr} {o1 o2 : HO} (R : RelB G ((q2, o2) :: (q1, o1) :: F) D σ H ρ) : RelB G ((q1, o1) :: (q2, o2) :: F) D σ H ρ := by
  obtain ⟨a1, ⟨as, a2⟩, a3, a4, a5, a7⟩ := R
  have key : ∀ {σ : L2.St} {sl : Sl} {as : List Addr}, Rs G.K D H G.H0 (q2 :: q1 :: F.map (·.1)) σ sl as → ∃ as', (∀ b, b ∈ as' ↔ b ∈ as) ∧ Rs G.K D H G.H0 (q1 :: q2 :: F.map (·.1)) σ sl as' := by
    intro σ sl as r
    induction r with
    | nil => exact ⟨_, fun b => by simp only [List.mem_cons, or_left_comm], .nil⟩
    | no _ ih => obtain ⟨as', x, y⟩ := ih; exact ⟨as', x, .no y⟩
    | val q _ ih => obtain ⟨as', x, y⟩ := ih; exact ⟨as', x, .val q y⟩
    | own ob d z n _ ih =>
      obtain ⟨as', x, y⟩ := ih
      exact ⟨_, fun b => by simp [x], .own ob d z (fun h => n ((x _).mp h)) y⟩
  obtain ⟨as', _, a6⟩ := key a2
  have sw : ∀ p, p ∈ (q1, o1) :: (q2, o2) :: F → p ∈ (q2, o2) :: (q1, o1) :: F := fun p hp => by
    simp only [List.mem_cons] at hp ⊢
    exact or_left_comm.mp hp
  exact ⟨a1, ⟨as', a6⟩, fun p hp => a3 p (sw p hp), a4, a5, fun p hp => a7 p (sw p hp)⟩
end
/-- an exception: its class, its fields, their values -/
abbrev Exn := Str × List Str × List DV
abbrev PQ := DV → Ps → Prop
abbrev PR := Exn → Nat → Prop
abbrev PEt := Ps → PQ → PR → Prop
abbrev PTt := Ps → (Bool → Ps → Prop) → PR → Prop
abbrev PAt := Ps → (List DV → Ps → Prop) → PR → Prop
structure ExOk (G : Gx) (R : PR) : Prop where
  ok : ∀ (D H : Hp) (x : Exn) (n : Nat) (d : Addr) (ps : List (Str × V)), StepT G.K (Wn G.pn) G.D0 G.H0 D H → PenOk G.K D H G.pn n → D d = some (.xd ps) → ps.map (·.1) = x.2.1 → RvA G.K D (ps.map (·.2)) x.2.2 → R x n → G.E (.ref (He.ga G.K x.1)) (some d) H
def SimE (G : Gx) (t : TE) (p : PEt) : Prop := ∀ (F : List (Addr × HO)) (D : Hp) (σ : L2.St) (H : Hp) (ρ : Ps) (Q : PQ) (R : PR) (k : VK), Rel G F D σ H ρ → p ρ Q R → ExOk G R →
  (∀ d ρ' D' v H', Same D D' → Rel G F D' σ H' ρ' → Rv G.K D' v d → Q d ρ' → k v H') → t σ H k
def SimT (G : Gx) (t : TT) (p : PTt) : Prop := ∀ (F : List (Addr × HO)) (D : Hp) (σ : L2.St) (H : Hp) (ρ : Ps) (Q : Bool → Ps → Prop) (R : PR) (k : Bool → Hp → Prop), Rel G F D σ H ρ → p ρ Q R → ExOk G R →
  (∀ b ρ' D' H', Same D D' → Rel G F D' σ H' ρ' → Q b ρ' → k b H') → t σ H k
def SimA (G : Gx) (t : TA) (p : PAt) : Prop := ∀ (F : List (Addr × HO)) (D : Hp) (σ : L2.St) (H : Hp) (ρ : Ps) (Q : List DV → Ps → Prop) (R : PR) (k : List V → Hp → Prop), Rel G F D σ H ρ → p ρ Q R → ExOk G R →
  (∀ ds ρ' D' vs H', Same D D' → Rel G F D' σ H' ρ' → RvA G.K D' vs ds → Q ds ρ' → k vs H') → t σ H k
def lE (G : Gx) (p : PEt) : TE := fun σ H k => ∃ (F : List (Addr × HO)) (D : Hp) (ρ : Ps) (Q : PQ) (R : PR), Rel G F D σ H ρ ∧ p ρ Q R ∧ ExOk G R ∧ ∀ d ρ' D' v H', Same D D' → Rel G F D' σ H' ρ' → Rv G.K D' v d → Q d ρ' → k v H'
def lT (G : Gx) (p : PTt) : TT := fun σ H k => ∃ (F : List (Addr × HO)) (D : Hp) (ρ : Ps) (Q : Bool → Ps → Prop) (R : PR), Rel G F D σ H ρ ∧ p ρ Q R ∧ ExOk G R ∧ ∀ b ρ' D' H', Same D D' → Rel G F D' σ H' ρ' → Q b ρ' → k b H'
def lA (G : Gx) (p : PAt) : TA := fun σ H k => ∃ (F : List (Addr × HO)) (D : Hp) (ρ : Ps) (Q : List DV → Ps → Prop) (R : PR), Rel G F D σ H ρ ∧ p ρ Q R ∧ ExOk G R ∧ ∀ ds ρ' D' vs H', Same D D' → Rel G F D' σ H' ρ' → RvA G.K D' vs ds → Q ds ρ' → k vs H'
theorem simE_l {G : Gx} {p : PEt} : SimE G (lE G p) p := fun F D σ H ρ Q R k a b c d => ⟨F, D, ρ, Q, R, a, b, c, d⟩
theorem simT_l {G : Gx} {p : PTt} : SimT G (lT G p) p := fun F D σ H ρ Q R k a b c d => ⟨F, D, ρ, Q, R, a, b, c, d⟩
theorem simA_l {G : Gx} {p : PAt} : SimA G (lA G p) p := fun F D σ H ρ Q R k a b c d => ⟨F, D, ρ, Q, R, a, b, c, d⟩
structure DE (G : Gx) (X : Cx) (e : Expr) (p : PEt) : Prop where
  run : PE X e (lE G p)
structure DT (G : Gx) (X : Cx) (e : Expr) (p : PTt) : Prop where
  run : PT X e (lT G p)
structure DW (G : Gx) (X : Cx) (e : Expr) (p : PTt) : Prop where
  run : PW X e (lT G p)
structure DA (G : Gx) (X : Cx) (es : List Expr) (p : PAt) : Prop where
  run : PA X es (lA G p)
section
variable {G : Gx} {X : Cx} {e : Expr} {es : List Expr} {p : PEt} {q : PTt} {l : PAt}
theorem DE.of {t : TE} (h : PE X e t) (s : SimE G t p) : DE G X e p := ⟨⟨fun pins sh σ H Q I ⟨F, D, ρ, Qp, R, a, b, c, d⟩ => h.run pins sh σ H Q I (s F D σ H ρ Qp R Q a b c d)⟩⟩
theorem DT.of {t : TT} (h : PT X e t) (s : SimT G t q) : DT G X e q := ⟨⟨fun pins sh σ H Q I ⟨F, D, ρ, Qp, R, a, b, c, d⟩ => h.run pins sh σ H Q I (s F D σ H ρ Qp R Q a b c d)⟩⟩
theorem DW.of {t : TT} (h : PW X e t) (s : SimT G t q) : DW G X e q := ⟨⟨fun wh pins sh σ H Q I ⟨F, D, ρ, Qp, R, a, b, c, d⟩ => h.run wh pins sh σ H Q I (s F D σ H ρ Qp R Q a b c d)⟩⟩
theorem DA.of {t : TA} (h : PA X es t) (s : SimA G t l) : DA G X es l := ⟨⟨fun pos pins sh σ H Q I ⟨F, D, ρ, Qp, R, a, b, c, d⟩ => h.run pos pins sh σ H Q I (s F D σ H ρ Qp R Q a b c d)⟩⟩
theorem DE.ex (h : DE G X e p) : ∃ t, PE X e t ∧ SimE G t p := ⟨_, h.run, simE_l⟩
theorem DT.ex (h : DT G X e q) : ∃ t, PT X e t ∧ SimT G t q := ⟨_, h.run, simT_l⟩
theorem DW.ex (h : DW G X e q) : ∃ t, PW X e t ∧ SimT G t q := ⟨_, h.run, simT_l⟩
theorem DA.ex (h : DA G X es l) : ∃ t, PA X es t ∧ SimA G t l := ⟨_, h.run, simA_l⟩
end
section
variable {G : Gx} {X : Cx} {a b c e : Expr} {es : List Expr} {pos : Pos} {pa pb pc : PEt} {pt pu : PTt} {pl : PAt}
def pVar (i : Nat) : PEt := fun ρ Q _ => match ρ.sl[i]? with
  | some (some (.val d)) => Q d ρ
  | some (some (.lst ds)) => Q (.lst ds) { ρ with sl := ρ.sl.set i (some (.val (.lst ds))) }
  | _ => False
theorem d_var {i : Nat} {x : Str} (h : PE X (.Name x pos) (tVar i)) : DE G X (.Name x pos) (pVar i) := by
  refine DE.of h fun F D σ H ρ Q R k rel hp hx cont => ?_
  unfold pVar at hp
  split at hp
  · next d e =>
    obtain ⟨v, h1, h2⟩ := rel.get e
    exact ⟨v, h1, cont d ρ D v H (Same.refl D) rel h2 hp⟩
  · next ds e =>
    obtain ⟨a, D', h1, sm, rel', rv⟩ := rel.settle e
    exact ⟨_, h1, cont _ _ D' _ H sm rel' rv hp⟩
  · exact hp.elim
def pC (d : DV) : PEt := fun ρ Q _ => Q d ρ
theorem d_int {i : Int} {j} : DE G X (.Constant (.int i) j pos) (pC (.int i)) := DE.of pe_int fun F D σ H ρ Q R k rel hp hx cont => cont _ _ D _ H (Same.refl D) rel (.int i) hp
theorem d_bl {i : Bool} {j} : DE G X (.Constant (.bool i) j pos) (pC (.bl i)) := DE.of pe_bl fun F D σ H ρ Q R k rel hp hx cont => cont _ _ D _ H (Same.refl D) rel (.bl i) hp
theorem d_str {i : Str} {j} : DE G X (.Constant (.str i) j pos) (pC (.str i)) := DE.of pe_str fun F D σ H ρ Q R k rel hp hx cont => cont _ _ D _ H (Same.refl D) rel (.str i) hp
theorem d_non {j} : DE G X (.Constant .none j pos) (pC .non) := DE.of pe_non fun F D σ H ρ Q R k rel hp hx cont => cont _ _ D _ H (Same.refl D) rel .non hp
/-- a value that stands fast -/
theorem d_fast {v : V} {d : DV} (h : PE X e (tC v)) (r : ∀ K D, Rv K D v d) : DE G X e (pC d) := DE.of h fun F D σ H ρ Q R k rel hp hx cont => cont _ _ D _ H (Same.refl D) rel (r _ _) hp
def pNil : PAt := fun ρ Q _ => Q [] ρ
def pCons (pa : PEt) (pl : PAt) : PAt := fun ρ Q R => pa ρ (fun d ρ1 => pl ρ1 (fun ds ρ2 => Q (d :: ds) ρ2) R) R
theorem a_nil : DA G X [] pNil := DA.of pa_nil fun F D σ H ρ Q R k rel hp hx cont => cont [] ρ D [] H (Same.refl D) rel .nil hp
theorem a_cons (ha : DE G X e pa) (hl : DA G X es pl) (hs : starEach (e :: es) X.env = (false, eval e X.env) :: starEach es X.env := by rfl) : DA G X (e :: es) (pCons pa pl) := by
  obtain ⟨t, h1, s1⟩ := ha.ex
  obtain ⟨u, h2, s2⟩ := hl.ex
  refine DA.of (pa_cons h1 h2 hs) fun F D σ H ρ Q R k rel hp hx cont => ?_
  refine s1 F D σ H ρ _ R _ rel hp hx fun d ρ1 D1 v H1 e1 r1 q1 hp1 => ?_
  refine s2 F D1 σ H1 ρ1 _ R _ r1 hp1 hx fun ds ρ2 D2 vs H2 e2 r2 q2 hp2 => ?_
  exact cont _ ρ2 D2 _ H2 (e1.trans e2) r2 (.cons (rv_mono e2 q1) q2) hp2
def pTup (pl : PAt) : PEt := fun ρ Q R => pl ρ (fun ds ρ1 => ds.length ≤ sizeLine ∧ Q (.tup ds) ρ1) R
theorem d_tup {x1} (hl : DA G X es pl) : DE G X (.Tuple es x1 pos) (pTup pl) := by
  obtain ⟨u, h2, s2⟩ := hl.ex
  refine DE.of (pe_tup h2) fun F D σ H ρ Q R k rel hp hx cont => ?_
  refine s2 F D σ H ρ _ R _ rel hp hx fun ds ρ2 D2 vs H2 e2 r2 q2 hp2 => ⟨by rw [rvA_len q2]; exact hp2.1, fun p np => ?_⟩
  exact cont _ ρ2 _ _ _ (e2.trans (r2.newS np)) (r2.new np) (.tup upd_same (rvA_mono (r2.newS np) q2)) hp2.2
end
end Rg

set_option Elab.async false
set_option linter.all false
set_option maxRecDepth 100000
set_option maxHeartbeats 2000000
namespace Rg
open PySem PySem.Spec PyProof.Rows L2
mutual
def toPy : DV → Option PyData
  | .non => some .none
  | .bl b => some (.bool b)
  | .int i => some (.int i)
  | .str x => some (.str x)
  | .raw _ => none
  | .node .lst xs => (toPyA xs).map PyData.list
  | .node .tup xs => (toPyA xs).map PyData.tuple
  | .node (.ins _ _) _ => none
  | .node (.exc _ _) _ => none
  | .node (.dct _) _ => none
def toPyA : List DV → Option (List PyData)
  | [] => some []
  | d :: ds => (toPy d).bind fun p => (toPyA ds).map fun ps => p :: ps
end
theorem rv_dp {K : PySem.W.Frag} {D : Hp} {v : V} {d : DV} (h : Rv K D v d) : ∀ p, toPy d = some p → Dp K D v p :=
  Rv.rec (motive_1 := fun v d _ => ∀ p, toPy d = some p → Dp K D v p) (motive_2 := fun vs ds _ => ∀ ps, toPyA ds = some ps → DpAll K D vs ps)
    (fun p e => by rw [toPy] at e; cases e; exact .non) (fun b p e => by rw [toPy] at e; cases e; exact .bl b) (fun b p e => by rw [toPy] at e; cases e; exact .int b) (fun b p e => by rw [toPy] at e; cases e; exact .str b)
    (fun v p e => by rw [toPy] at e; cases e)
    (fun h _ i p e => by
      rw [toPy] at e
      obtain ⟨ps, h1, rfl⟩ := Option.map_eq_some_iff.mp e
      exact .lst (SqL.of h) (i ps h1))
    (fun h _ i p e => by
      rw [toPy] at e
      obtain ⟨ps, h1, rfl⟩ := Option.map_eq_some_iff.mp e
      exact .tup (SqT.of h) (i ps h1))
    (fun _ _ _ _ p e => by rw [toPy] at e; cases e)
    (fun _ _ _ _ _ p e => by rw [toPy] at e; cases e)
    (fun _ _ _ _ p e => by rw [toPy] at e; cases e)
    (fun ps e => by rw [toPyA] at e; cases e; exact .nil)
    (fun _ _ i j ps e => by
      rw [toPyA] at e
      obtain ⟨q, h1, h2⟩ := Option.bind_eq_some_iff.mp e
      obtain ⟨qs, h3, rfl⟩ := Option.map_eq_some_iff.mp h2
      exact .cons (i q h1) (j qs h3)) h
abbrev O2 := DV → DV → (DV → Prop) → Prop
structure BinD (G : Gx) (X : Cx) (f : Value → Value → Sem Value) (o : O2) : Prop where
  ex : ∃ r, OpR X f r ∧ ∀ (F : List (Addr × HO)) (D : Hp) (σ : L2.St) (H : Hp) (ρ : Ps) (x y : V) (a b : DV) (Q : DV → Prop) (k : VK), Rel G F D σ H ρ → Rv G.K D x a → Rv G.K D y b → o a b Q →
    (∀ d v D' H', Same D D' → Rel G F D' σ H' ρ → Rv G.K D' v d → Q d → k v H') → r x y H k
def pOp (o : O2) (pa pb : PEt) : PEt := fun ρ Q R => pa ρ (fun x ρ1 => pb ρ1 (fun y ρ2 => o x y fun z => Q z ρ2) R) R
section
variable {G : Gx} {X : Cx} {a b c e : Expr} {es : List Expr} {pos : Pos} {pa pb pc : PEt} {pt pu : PTt} {pl : PAt} {o : O2}
theorem sim_op {ta tb : TE} {r : R2} (s1 : SimE G ta pa) (s2 : SimE G tb pb) (hr : ∀ (F : List (Addr × HO)) (D : Hp) (σ : L2.St) (H : Hp) (ρ : Ps) (x y : V) (a b : DV) (Q : DV → Prop) (k : VK), Rel G F D σ H ρ → Rv G.K D x a → Rv G.K D y b → o a b Q →
    (∀ d v D' H', Same D D' → Rel G F D' σ H' ρ → Rv G.K D' v d → Q d → k v H') → r x y H k) : SimE G (tOp r ta tb) (pOp o pa pb) := by
  intro F D σ H ρ Q R k rel hp hx cont
  refine s1 F D σ H ρ _ R _ rel hp hx fun x ρ1 D1 v H1 e1 r1 q1 hp1 => ?_
  refine s2 F D1 σ H1 ρ1 _ R _ r1 hp1 hx fun y ρ2 D2 w H2 e2 r2 q2 hp2 => ?_
  exact hr F D2 σ H2 ρ2 v w x y _ k r2 (rv_mono e2 q1) q2 hp2 fun d v D' H' s r q h => cont d ρ2 D' v H' ((e1.trans e2).trans s) r q h
theorem d_op {op : Operator} (ho : BinD G X (binaryOp op) o) (ha : DE G X a pa) (hb : DE G X b pb) : DE G X (.BinOp a op b pos) (pOp o pa pb) := by
  obtain ⟨r, h, s⟩ := ho.ex
  exact DE.of (pe_op h ha.run hb.run) (sim_op simE_l simE_l s)
theorem d_cmp {op : CmpOp} (ho : BinD G X (compareOp op) o) (ha : DE G X a pa) (hb : DE G X b pb) (hm : behindInMarks op b = false) : DE G X (.Compare a [op] [b] pos) (pOp o pa pb) := by
  obtain ⟨r, h, s⟩ := ho.ex
  exact DE.of (pe_cmpR h ha.run hb.run hm) (sim_op simE_l simE_l s)
def pTst (p : PEt) : PTt := fun ρ Q R => p ρ (fun d ρ1 => match d with | .bl b => Q b ρ1 | _ => False) R
theorem sim_tst {t : TE} (s : SimE G t pa) : SimT G (tTest t) (pTst pa) := by
  intro F D σ H ρ Q R k rel hp hx cont
  refine s F D σ H ρ _ R _ rel hp hx fun d ρ1 D1 v H1 e1 r1 q1 hp1 => ?_
  cases d with
  | bl b => exact ⟨b, rv_bl q1, cont b ρ1 D1 H1 e1 r1 hp1⟩
  | _ => exact hp1.elim
theorem t_cmp {op : CmpOp} (ho : BinD G X (compareOp op) o) (ha : DE G X a pa) (hb : DE G X b pb) (hm : behindInMarks op b = false) : DT G X (.Compare a [op] [b] pos) (pTst (pOp o pa pb)) := by
  obtain ⟨r, h, s⟩ := ho.ex
  exact DT.of (pt_cmpR h ha.run hb.run hm) (sim_tst (sim_op simE_l simE_l s))
/-- a < b < c -/
def pChain (o o' : O2) (pa pb pc : PEt) : PEt := fun ρ Q R => pa ρ (fun x ρ1 => pb ρ1 (fun y ρ2 => o x y fun z => match z with
  | .bl true => pc ρ2 (fun w ρ3 => o' y w fun u => match u with | .bl k => Q (.bl k) ρ3 | _ => False) R
  | .bl false => Q (.bl false) ρ2
  | _ => False) R) R
def oI (C : Int → Int → Prop) (g : Int → Int → Int) : O2 := fun a b Q => match a, b with
  | .int i, .int j => C i j ∧ Q (.int (g i j))
  | _, _ => False
theorem binI {f : Value → Value → Sem Value} {C : Int → Int → Prop} {g : Int → Int → Int} (h : OpR X f (rI C fun i j => .int (g i j))) : BinD G X f (oI C g) := by
  refine ⟨_, h, fun F D σ H ρ x y a b Q k rel ra rb ho cont => ?_⟩
  unfold oI at ho
  split at ho
  · exact ⟨_, _, rv_int ra, rv_int rb, ho.1, cont _ _ D H (Same.refl D) rel (.int _) ho.2⟩
  · exact ho.elim
def oCmp (g : Int → Int → Bool) : O2 := fun a b Q => match a, b with
  | .int i, .int j => Q (.bl (g i j))
  | _, _ => False
theorem binC {f : Value → Value → Sem Value} {g : Int → Int → Bool} (h : OpR X f (rI0 fun i j => .bl (g i j))) : BinD G X f (oCmp g) := by
  refine ⟨_, h, fun F D σ H ρ x y a b Q k rel ra rb ho cont => ?_⟩
  unfold oCmp at ho
  split at ho
  · exact ⟨_, _, rv_int ra, rv_int rb, cont _ _ D H (Same.refl D) rel (.bl _) ho⟩
  · exact ho.elim
theorem b_le : BinD G X (compareOp .LtE) (oCmp fun i j => decide (i ≤ j)) := binC op_le
theorem b_gt : BinD G X (compareOp .Gt) (oCmp fun i j => decide (j < i)) := binC op_gt
theorem b_pow : BinD G X (binaryOp .Pow) (oI CPow fun i j => i ^ j.toNat) := binI op_pow
theorem OpR.or {f : Value → Value → Sem Value} {r r' : R2} (h : OpR X f r) (h' : OpR X f r') : OpR X f (fun x y H Q => r x y H Q ∨ r' x y H Q) := by
  intro pins s σ H x y v u Q I rx ry q
  rcases q with q | q
  · exact h pins s σ H x y v u Q I rx ry q
  · exact h' pins s σ H x y v u Q I rx ry q
/-- +: numbers, texts, lists, tuples -/
def oAdd : O2 := fun a b Q => match a, b with
  | .int i, .int j => Q (.int (i + j))
  | .str i, .str j => i.length + j.length ≤ sizeLine ∧ Q (.str (i ++ j))
  | .node .lst xs, .node .lst ys => xs.length + ys.length ≤ sizeLine ∧ Q (.lst (xs ++ ys))
  | .node .tup (x :: xs), .node .tup ys => (x :: xs).length + ys.length ≤ sizeLine ∧ Q (.tup (x :: xs ++ ys))
  | _, _ => False
theorem b_add (hK : X.K = G.K := by rfl) : BinD G X (binaryOp .Add) oAdd := by
  refine ⟨_, OpR.or op_add (OpR.or op_add_str (OpR.or op_cat (op_catTK G.K hK))), fun F D σ H ρ x y a b Q k rel ra rb ho cont => ?_⟩
  unfold oAdd at ho
  split at ho
  · exact .inl ⟨_, _, rv_int ra, rv_int rb, cont _ _ D H (Same.refl D) rel (.int _) ho⟩
  · exact .inr (.inl ⟨_, _, rv_str ra, rv_str rb, ho.1, cont _ _ D H (Same.refl D) rel (.str _) ho.2⟩)
  · obtain ⟨p, vs, rfl, h1, h2⟩ := rv_lst ra
    obtain ⟨q, ws, rfl, h3, h4⟩ := rv_lst rb
    refine .inr (.inr (.inl ⟨p, q, vs, ws, rfl, rfl, rel.same _ _ h1, rel.same _ _ h3, by rw [rvA_len h2, rvA_len h4]; exact ho.1, fun l hl => ?_⟩))
    exact cont _ _ _ _ (rel.newS hl) (rel.new hl) (.lst upd_same (rvA_mono (rel.newS hl) (rvA_app h2 h4))) ho.2
  · obtain ⟨p, vs, rfl, h1, h2⟩ := rv_tup ra
    obtain ⟨q, ws, rfl, h3, h4⟩ := rv_tup rb
    have hv : vs ≠ [] := fun e => by rw [e] at h2; cases h2
    refine .inr (.inr (.inr ⟨p, q, vs, ws, rfl, rfl, SqT.of (rel.same _ _ h1), SqT.of (rel.same _ _ h3), hv, by rw [rvA_len h2, rvA_len h4]; exact ho.1, fun e => ?_, fun _ l hl => ?_⟩))
    · have e0 : _ = [] := e
      subst e0
      cases h4
      have h5 := ho.2
      rw [List.append_nil] at h5
      exact cont _ _ D H (Same.refl D) rel (.tup h1 h2) h5
    · exact cont _ _ _ _ (rel.newS hl) (rel.new hl) (.tup upd_same (rvA_mono (rel.newS hl) (rvA_app h2 h4))) ho.2
  · exact ho.elim
/-- *: numbers, a list times a number -/
def oMul : O2 := fun a b Q => match a, b with
  | .int i, .int j => CMul i j ∧ Q (.int (i * j))
  | .node .lst xs, .int k => -(2 ^ 63) ≤ k ∧ k < 2 ^ 63 ∧ xs.length * k.toNat ≤ sizeLine ∧ Q (.lst (List.replicate k.toNat xs).flatten)
  | _, _ => False
theorem rvA_rep {K : PySem.W.Frag} {D : Hp} {vs : List V} {ds : List DV} (h : RvA K D vs ds) : ∀ n : Nat, RvA K D (List.replicate n vs).flatten (List.replicate n ds).flatten
  | 0 => .nil
  | n + 1 => by
    rw [List.replicate_succ, List.replicate_succ, List.flatten_cons, List.flatten_cons]
    exact rvA_app h (rvA_rep h n)
def oEqN (neg : Bool) : O2 := fun a b Q => match a, b with
  | .int i, .int j => Q (.bl (decide (i = j) ^^ neg))
  | .str i, .str j => Q (.bl (decide (i = j) ^^ neg))
  | .bl i, .bl j => Q (.bl (decide (i = j) ^^ neg))
  | a, b => ∃ d e, toPy a = some d ∧ toPy b = some e ∧ SeqAt.shaped d = true ∧ SeqAt.shaped e = true ∧ Q (.bl (PyData.eqv d e ^^ neg))
theorem xor_f (b : Bool) : (b ^^ false) = b := by cases b <;> rfl
theorem xor_t (b : Bool) : (b ^^ true) = !b := by cases b <;> rfl
theorem b_eq (hu : X.A.units + 64 < cLine) (hK : X.K = G.K := by rfl) : BinD G X (compareOp .Eq) (oEqN false) := by
  refine ⟨_, OpR.or op_eq (op_eqDK G.K hu hK), fun F D σ H ρ x y a b Q k rel ra rb ho cont => ?_⟩
  unfold oEqN at ho
  split at ho
  · rw [xor_f] at ho
    rw [rv_int ra, rv_int rb]
    exact .inl ⟨rfl, cont _ _ D H (Same.refl D) rel (by rw [show decide (V.int _ = V.int _) = _ from decide_eq_decide.mpr ⟨fun e => V.int.inj e, fun e => by rw [e]⟩]; exact .bl _) ho⟩
  · rw [xor_f] at ho
    rw [rv_str ra, rv_str rb]
    exact .inl ⟨rfl, cont _ _ D H (Same.refl D) rel (by rw [show decide (V.str _ = V.str _) = _ from decide_eq_decide.mpr ⟨fun e => V.str.inj e, fun e => by rw [e]⟩]; exact .bl _) ho⟩
  · rw [xor_f] at ho
    rw [rv_bl ra, rv_bl rb]
    exact .inl ⟨rfl, cont _ _ D H (Same.refl D) rel (by rw [show decide (V.bl _ = V.bl _) = _ from decide_eq_decide.mpr ⟨fun e => V.bl.inj e, fun e => by rw [e]⟩]; exact .bl _) ho⟩
  · obtain ⟨d, e, h1, h2, h3, h4, h5⟩ := ho
    rw [xor_f] at h5
    exact .inr ⟨d, e, rv_dp (rv_mono rel.same ra) _ h1, rv_dp (rv_mono rel.same rb) _ h2, h3, h4, cont _ _ D H (Same.refl D) rel (.bl _) h5⟩
theorem b_ne (hu : X.A.units + 64 < cLine) (hK : X.K = G.K := by rfl) : BinD G X (compareOp .NotEq) (oEqN true) := by
  refine ⟨_, OpR.or op_ne (op_neDK G.K hu hK), fun F D σ H ρ x y a b Q k rel ra rb ho cont => ?_⟩
  unfold oEqN at ho
  split at ho
  · rw [xor_t] at ho
    rw [rv_int ra, rv_int rb]
    exact .inl ⟨rfl, cont _ _ D H (Same.refl D) rel (by rw [show decide (V.int _ = V.int _) = _ from decide_eq_decide.mpr ⟨fun e => V.int.inj e, fun e => by rw [e]⟩]; exact .bl _) ho⟩
  · rw [xor_t] at ho
    rw [rv_str ra, rv_str rb]
    exact .inl ⟨rfl, cont _ _ D H (Same.refl D) rel (by rw [show decide (V.str _ = V.str _) = _ from decide_eq_decide.mpr ⟨fun e => V.str.inj e, fun e => by rw [e]⟩]; exact .bl _) ho⟩
  · rw [xor_t] at ho
    rw [rv_bl ra, rv_bl rb]
    exact .inl ⟨rfl, cont _ _ D H (Same.refl D) rel (by rw [show decide (V.bl _ = V.bl _) = _ from decide_eq_decide.mpr ⟨fun e => V.bl.inj e, fun e => by rw [e]⟩]; exact .bl _) ho⟩
  · obtain ⟨d, e, h1, h2, h3, h4, h5⟩ := ho
    rw [xor_t] at h5
    exact .inr ⟨d, e, rv_dp (rv_mono rel.same ra) _ h1, rv_dp (rv_mono rel.same rb) _ h2, h3, h4, cont _ _ D H (Same.refl D) rel (.bl _) h5⟩
def oIn (neg : Bool) : O2 := fun a b Q => match b with
  | .str z => match a with
    | .str x => ∃ c, x = sgn c ∧ Q (.bl (decide (c ∈ z.cps.toList) ^^ neg))
    | _ => False
  | .node .lst xs => ∃ d ds, toPy a = some d ∧ toPyA xs = some ds ∧ SeqAt.shaped d = true ∧ SeqAt.shaped (.list ds) = true ∧ Q (.bl ((ds.any fun z => PyData.eqv z d) ^^ neg))
  | _ => False
theorem b_in (hu : X.A.units + 65 < cLine) (hK : X.K = G.K := by rfl) : BinD G X (compareOp .In) (oIn false) := by
  refine ⟨_, OpR.or op_in_sign (op_inDK G.K hu hK), fun F D σ H ρ x y a b Q k rel ra rb ho cont => ?_⟩
  unfold oIn at ho
  split at ho
  · split at ho
    · obtain ⟨c, e, ho⟩ := ho
      rw [xor_f] at ho
      exact .inl ⟨c, _, by rw [rv_str ra, e]; rfl, rv_str rb, cont _ _ D H (Same.refl D) rel (.bl _) ho⟩
    · exact ho.elim
  · obtain ⟨d, ds, h1, h2, h3, h4, h5⟩ := ho
    rw [xor_f] at h5
    exact .inr ⟨d, ds, rv_dp (rv_mono rel.same ra) _ h1, rv_dp (rv_mono rel.same rb) _ (by rw [toPy, h2]; rfl), h3, h4, cont _ _ D H (Same.refl D) rel (.bl _) h5⟩
  · exact ho.elim
theorem b_notIn (hu : X.A.units + 65 < cLine) (hK : X.K = G.K := by rfl) : BinD G X (compareOp .NotIn) (oIn true) := by
  refine ⟨_, OpR.or op_notIn_sign (op_notInDK G.K hu hK), fun F D σ H ρ x y a b Q k rel ra rb ho cont => ?_⟩
  unfold oIn at ho
  split at ho
  · split at ho
    · obtain ⟨c, e, ho⟩ := ho
      rw [xor_t] at ho
      exact .inl ⟨c, _, by rw [rv_str ra, e]; rfl, rv_str rb, cont _ _ D H (Same.refl D) rel (.bl _) ho⟩
    · exact ho.elim
  · obtain ⟨d, ds, h1, h2, h3, h4, h5⟩ := ho
    rw [xor_t] at h5
    exact .inr ⟨d, ds, rv_dp (rv_mono rel.same ra) _ h1, rv_dp (rv_mono rel.same rb) _ (by rw [toPy, h2]; rfl), h3, h4, cont _ _ D H (Same.refl D) rel (.bl _) h5⟩
  · exact ho.elim
def tru : DV → Option Bool
  | .non => some false
  | .bl b => some b
  | .int i => some (i != 0)
  | .str _ => none
  | .raw _ => none
  | .node .lst xs => some (!xs.isEmpty)
  | .node .tup xs => some (!xs.isEmpty)
  | .node (.ins _ _) _ => none
  | .node (.exc _ _) _ => none
  | .node (.dct _) _ => none
theorem rv_tru {K : PySem.W.Frag} {D H : Hp} {v : V} {d : DV} {k : Bool} (h : Rv K D v d) (sd : Same D H) (e : tru d = some k) : TruV K v H k := by
  cases h with
  | non => cases e; rfl
  | bl b => cases e; rfl
  | int b => cases e; rfl
  | str x => cases e
  | raw v => cases e
  | lst h1 h2 =>
    cases e
    refine .inl ⟨_, SqL.of (sd _ _ h1), ?_⟩
    cases h2 <;> rfl
  | tup h1 h2 =>
    cases e
    refine .inr (.inl ⟨_, SqT.of (sd _ _ h1), ?_⟩)
    cases h2 <;> rfl
  | ins _ _ _ => cases e
  | exc _ _ _ _ => cases e
  | dct _ _ _ => cases e
def pTru (pa : PEt) : PTt := fun ρ Q R => pa ρ (fun d ρ1 => match tru d with | some k => Q k ρ1 | none => False) R
theorem t_tru (ha : DE G X a pa) (he : ∀ whole, isTrue a X.env whole = (do let v ← whole; standAt a.pos; holding [v] (truthy v)) := by intro _; rfl) (hK : X.K = G.K := by rfl) : DT G X a (pTru pa) := by
  refine DT.of (pt_truth ha.run he) fun F D σ H ρ Q R k rel hp hx cont => ?_
  refine simE_l F D σ H ρ _ R _ rel hp hx fun d ρ1 D1 v H1 e1 r1 q1 hp1 => ?_
  split at hp1
  · next kk e => exact ⟨kk, by rw [hK]; exact rv_tru q1 r1.same e, cont kk ρ1 D1 H1 e1 r1 hp1⟩
  · exact hp1.elim
def pNotV (pa : PEt) : PEt := fun ρ Q R => pa ρ (fun d ρ1 => match tru d with | some k => Q (.bl (!k)) ρ1 | none => False) R
theorem d_not (ha : DE G X a pa) (hK : X.K = G.K := by rfl) : DE G X (.UnaryOp .Not a pos) (pNotV pa) := by
  refine DE.of (pe_notT ha.run) fun F D σ H ρ Q R k rel hp hx cont => ?_
  refine simE_l F D σ H ρ _ R _ rel hp hx fun d ρ1 D1 v H1 e1 r1 q1 hp1 => ?_
  split at hp1
  · next kk e => exact ⟨kk, by rw [hK]; exact rv_tru q1 r1.same e, cont _ ρ1 D1 _ H1 e1 r1 (.bl _) hp1⟩
  · exact hp1.elim
def pAndV (pa pb : PEt) : PEt := fun ρ Q R => pa ρ (fun d ρ1 => match tru d with | some true => pb ρ1 Q R | some false => Q d ρ1 | none => False) R
variable {rest : List Expr}
theorem d_one {op} (h : DE G X a pa) : DE G X (.BoolOp op [a] pos) pa := ⟨pe_one h.run⟩
theorem d_and (ha : DE G X a pa) (hb : DE G X (.BoolOp .And (b :: rest) pos) pb) (hK : X.K = G.K := by rfl) : DE G X (.BoolOp .And (a :: b :: rest) pos) (pAndV pa pb) := by
  refine DE.of (pe_andT ha.run hb.run) fun F D σ H ρ Q R k rel hp hx cont => ?_
  refine simE_l F D σ H ρ _ R _ rel hp hx fun d ρ1 D1 v H1 e1 r1 q1 hp1 => ?_
  split at hp1
  · next e => exact ⟨true, by rw [hK]; exact rv_tru q1 r1.same e, iteT (simE_l F D1 σ H1 ρ1 Q R _ r1 hp1 hx fun d ρ2 D2 v H2 e2 r2 q2 hp2 => cont d ρ2 D2 v H2 (e1.trans e2) r2 q2 hp2)⟩
  · next e => exact ⟨false, by rw [hK]; exact rv_tru q1 r1.same e, iteF (cont _ ρ1 D1 _ H1 e1 r1 q1 hp1)⟩
  · exact hp1.elim
def pOr (pt pu : PTt) : PTt := fun ρ Q R => pt ρ (fun c ρ1 => if c = true then Q true ρ1 else pu ρ1 Q R) R
def pNot (pt : PTt) : PTt := fun ρ Q R => pt ρ (fun c ρ1 => Q (!c) ρ1) R
theorem w_or1 (h : DT G X a pt) : DW G X (.BoolOp .Or [a] pos) pt := ⟨pw_or1 h.run⟩
theorem DW.t (h : DW G X a pt) : DT G X a pt := ⟨h.run.pt⟩
theorem w_or (ha : DT G X a pt) (hb : DW G X (.BoolOp .Or (b :: rest) pos) pu) : DW G X (.BoolOp .Or (a :: b :: rest) pos) (pOr pt pu) := by
  refine DW.of (pw_or ha.run hb.run) fun F D σ H ρ Q R k rel hp hx cont => ?_
  refine simT_l F D σ H ρ _ R _ rel hp hx fun c ρ1 D1 H1 e1 r1 hp1 => ?_
  cases c with
  | true => exact iteT (cont _ ρ1 D1 H1 e1 r1 hp1)
  | false => exact iteF (simT_l F D1 σ H1 ρ1 Q R _ r1 hp1 hx fun d ρ2 D2 H2 e2 r2 hp2 => cont d ρ2 D2 H2 (e1.trans e2) r2 hp2)
theorem t_not (ha : DT G X a pt) : DT G X (.UnaryOp .Not a pos) (pNot pt) := by
  refine DT.of (pt_not ha.run) fun F D σ H ρ Q R k rel hp hx cont => ?_
  exact simT_l F D σ H ρ _ R _ rel hp hx fun c ρ1 D1 H1 e1 r1 hp1 => cont _ ρ1 D1 H1 e1 r1 hp1
def pIf (pt : PTt) (pa pb : PEt) : PEt := fun ρ Q R => pt ρ (fun c ρ1 => if c = true then pa ρ1 Q R else pb ρ1 Q R) R
theorem d_if (hc : DT G X c pt) (ha : DE G X a pa) (hb : DE G X b pb) : DE G X (.IfExp c a b pos) (pIf pt pa pb) := by
  refine DE.of (pe_ifExp hc.run ha.run hb.run) fun F D σ H ρ Q R k rel hp hx cont => ?_
  refine simT_l F D σ H ρ _ R _ rel hp hx fun c ρ1 D1 H1 e1 r1 hp1 => ?_
  cases c with
  | true => exact iteT (simE_l F D1 σ H1 ρ1 Q R _ r1 hp1 hx fun d ρ2 D2 v H2 e2 r2 q2 hp2 => cont d ρ2 D2 v H2 (e1.trans e2) r2 q2 hp2)
  | false => exact iteF (simE_l F D1 σ H1 ρ1 Q R _ r1 hp1 hx fun d ρ2 D2 v H2 e2 r2 q2 hp2 => cont d ρ2 D2 v H2 (e1.trans e2) r2 q2 hp2)
end
end Rg

set_option Elab.async false
set_option linter.all false
set_option maxRecDepth 100000
set_option maxHeartbeats 2000000
namespace Rg
open PySem PySem.Spec PyProof.Rows L2
theorem rvA_atI {K : PySem.W.Frag} {D : Hp} {vs : List V} {ds : List DV} {i : Int} {d : DV} (h : RvA K D vs ds) (e : atI ds i = some d) : ∃ v, atI vs i = some v ∧ Rv K D v d := by
  unfold atI at e ⊢
  rw [rvA_len h]
  obtain ⟨j, h1, h2⟩ := Option.bind_eq_some_iff.mp e
  obtain ⟨v, h3, h4⟩ := rvA_at h h2
  exact ⟨v, by rw [h1]; exact h3, h4⟩
section
variable {G : Gx} {X : Cx} {a b c e : Expr} {es : List Expr} {pos : Pos} {pa pb pc : PEt} {pt pu : PTt} {pl : PAt} {o : O2}
def oIx : O2 := fun a b Q => match a, b with
  | .node .lst xs, .int i => match atI xs i with | some d => Q d | none => False
  | .node .tup xs, .int i => match atI xs i with | some d => Q d | none => False
  | .str z, .int i => z.length ≤ sizeLine ∧ match atI z.cps.toList i with | some c => Q (.str (sgn c)) | none => False
  | _, _ => False
theorem ix_sim {F : List (Addr × HO)} {D : Hp} {σ : L2.St} {H : Hp} {ρ : Ps} {x y : V} {a b : DV} {Q : DV → Prop} {k : VK} (rel : Rel G F D σ H ρ) (ra : Rv G.K D x a) (rb : Rv G.K D y b) (ho : oIx a b Q)
    (cont : ∀ d v D' H', Same D D' → Rel G F D' σ H' ρ → Rv G.K D' v d → Q d → k v H') : rIx G.K x y H k := by
  unfold oIx at ho
  split at ho
  · split at ho
    · next d e =>
      obtain ⟨p, vs, rfl, h1, h2⟩ := rv_lst ra
      obtain ⟨v, h3, h4⟩ := rvA_atI h2 e
      exact .inl ⟨p, vs, _, v, rfl, rv_int rb, SqL.of (rel.same _ _ h1), h3, cont _ _ D H (Same.refl D) rel h4 ho⟩
    · exact ho.elim
  · split at ho
    · next d e =>
      obtain ⟨p, vs, rfl, h1, h2⟩ := rv_tup ra
      obtain ⟨v, h3, h4⟩ := rvA_atI h2 e
      exact .inr (.inl ⟨p, vs, _, v, rfl, rv_int rb, SqT.of (rel.same _ _ h1), h3, cont _ _ D H (Same.refl D) rel h4 ho⟩)
    · exact ho.elim
  · obtain ⟨hz, ho⟩ := ho
    split at ho
    · next c e => exact .inr (.inr ⟨_, _, c, rv_str ra, rv_int rb, hz, e, cont _ _ D H (Same.refl D) rel (.str _) ho⟩)
    · exact ho.elim
  · exact ho.elim
theorem ix_seqK {K : PySem.W.Frag} (h : X.K = K) : IxR X (rIx K) := h ▸ ix_seq
/-- x[e], x a name: it may hold a list of its own -/
def pIxV (i : Nat) (pb : PEt) : PEt := fun ρ Q R => match ρ.sl[i]? with
  | some (some (.val d)) => pb ρ (fun y ρ1 => oIx d y fun z => Q z ρ1) R
  | some (some (.lst _)) => pb ρ (fun y ρ1 => match ρ1.sl[i]?, y with
    | some (some (.lst ds)), .int j => match atI ds j with | some d => Q d ρ1 | none => False
    | _, _ => False) R
  | _ => False
theorem d_ixV {i : Nat} {x : Str} {p : Pos} (h : PE X (.Name x p) (tVar i)) (hb : DE G X b pb) (hs : PlainIx b := by exact fun _ _ => rfl) (hK : X.K = G.K := by rfl) : DE G X (.Subscript (.Name x p) b pos) (pIxV i pb) := by
  refine DE.of (pe_ix (ix_seqK hK) h hb.run hs) fun F D σ H ρ Q R k rel hp hx cont => ?_
  unfold pIxV at hp
  split at hp
  · next d e =>
    obtain ⟨v, h1, h2⟩ := rel.get e
    refine ⟨v, h1, simE_l F D σ H ρ _ R _ rel hp hx fun y ρ1 D1 w H1 e1 r1 q1 hp1 => ?_⟩
    exact ix_sim r1 (rv_mono e1 h2) q1 hp1 fun d v D' H' s r q h => cont d ρ1 D' v H' (e1.trans s) r q h
  · next ds e =>
    obtain ⟨p, h1, h2, _⟩ := rel.own e (fun d z => nomatch z)
    refine ⟨_, h1, simE_l F D σ H ρ _ R _ rel hp hx fun y ρ1 D1 w H1 e1 r1 q1 hp1 => ?_⟩
    split at hp1
    · next ds1 j es =>
      split at hp1
      · next d ed =>
        obtain ⟨p1, h3, ⟨vs, h4, h5⟩, _⟩ := r1.own es (fun d z => nomatch z)
        rw [h1] at h3
        cases h3
        obtain ⟨v, h6, h7⟩ := rvA_atI h5 ed
        exact .inl ⟨p, vs, j, v, rfl, rv_int q1, SqL.of h4, h6, cont _ _ D1 _ H1 e1 r1 h7 hp1⟩
      · exact hp1.elim
    · exact hp1.elim
  · exact hp.elim
def keyOf : DV → Option Key
  | .int i => some (.inl i)
  | .str z => some (.inr z)
  | _ => none
theorem rv_key {K : PySem.W.Frag} {D : Hp} {v : V} {d : DV} {k : Key} (h : Rv K D v d) (e : keyOf d = some k) : v = kV k := by
  cases h <;> cases e <;> rfl
abbrev ON := List DV → (DV → Prop) → Prop
structure CallD (G : Gx) (X : Cx) (f : Value) (o : ON) : Prop where
  ex : ∃ r, CallR X f r ∧ ∀ (F : List (Addr × HO)) (D : Hp) (σ : L2.St) (H : Hp) (ρ : Ps) (vs : List V) (ds : List DV) (Q : DV → Prop) (k : VK), Rel G F D σ H ρ → RvA G.K D vs ds → o ds Q →
    (∀ d v D' H', Same D D' → Rel G F D' σ H' ρ → Rv G.K D' v d → Q d → k v H') → r vs H k
def pCallB (o : ON) (pl : PAt) : PEt := fun ρ Q R => pl ρ (fun ds ρ1 => o ds fun d => Q d ρ1) R
variable {x : Str} {p : Pos} {on : ON}
theorem d_callB {id : String} (hc : CallD G X (.builtin id) on) (hg : Gl X x) (hm : X.mg x = none) (hv : bootBuiltins x = some (.builtin id)) (ha : DA G X (e :: es) pl) (hn : x ≠ "__name__" := by decide) (hdb : (x == ("__debug__" : Str)) = false := by decide)
    (he : starEach (e :: es) X.env = (false, eval e X.env) :: starEach es X.env := by rfl) (hpl : (backTo pos (starEach es X.env)).any (·.1) = false := by rfl) : DE G X (.Call (.Name x p) (e :: es) [] pos) (pCallB on pl) := by
  obtain ⟨r, h, s⟩ := hc.ex
  refine DE.of (pe_callB h hg hm hv ha.run hn hdb he hpl) fun F D σ H ρ Q R k rel hp hx cont => ?_
  refine simA_l F D σ H ρ _ R _ rel hp hx fun ds ρ1 D1 vs H1 e1 r1 q1 hp1 => ?_
  exact s F D1 σ H1 ρ1 vs ds _ k r1 q1 hp1 fun d v D' H' s r q h => cont d ρ1 D' v H' (e1.trans s) r q h
theorem CallR.or {f : Value} {r r' : List V → Hp → VK → Prop} (h : CallR X f r) (h' : CallR X f r') : CallR X f (fun xs H Q => r xs H Q ∨ r' xs H Q) := by
  intro pins s σ H xs us Q I rx q
  rcases q with q | q
  · exact h pins s σ H xs us Q I rx q
  · exact h' pins s σ H xs us Q I rx q
theorem rvA1 {K : PySem.W.Frag} {D : Hp} {vs : List V} {d : DV} (h : RvA K D vs [d]) : ∃ v, vs = [v] ∧ Rv K D v d := by
  cases h with
  | cons a b =>
    cases b
    exact ⟨_, rfl, a⟩
theorem rvA2 {K : PySem.W.Frag} {D : Hp} {vs : List V} {d e : DV} (h : RvA K D vs [d, e]) : ∃ v w, vs = [v, w] ∧ Rv K D v d ∧ Rv K D w e := by
  cases h with
  | cons a b =>
    obtain ⟨w, rfl, h⟩ := rvA1 b
    exact ⟨_, w, rfl, a, h⟩
def oLen : ON := fun ds Q => match ds with
  | [.node .lst xs] => Q (.int (xs.length : Nat))
  | [.node .tup xs] => Q (.int (xs.length : Nat))
  | [.str z] => z.length ≤ sizeLine ∧ Q (.int (z.length : Nat))
  | _ => False
theorem c_len (hK : X.K = G.K := by rfl) : CallD G X (.builtin "len") oLen := by
  refine ⟨_, CallR.or (call_len_seqK G.K hK) call_len_str, fun F D σ H ρ vs ds Q k rel ra ho cont => ?_⟩
  unfold oLen at ho
  split at ho
  · obtain ⟨v, rfl, r⟩ := rvA1 ra
    obtain ⟨p, vs, rfl, h1, h2⟩ := rv_lst r
    exact .inl ⟨p, vs, rfl, .inl (SqL.of (rel.same _ _ h1)), by rw [rvA_len h2]; exact cont _ _ D H (Same.refl D) rel (.int _) ho⟩
  · obtain ⟨v, rfl, r⟩ := rvA1 ra
    obtain ⟨p, vs, rfl, h1, h2⟩ := rv_tup r
    exact .inl ⟨p, vs, rfl, .inr (SqT.of (rel.same _ _ h1)), by rw [rvA_len h2]; exact cont _ _ D H (Same.refl D) rel (.int _) ho⟩
  · obtain ⟨v, rfl, r⟩ := rvA1 ra
    exact .inr ⟨_, by rw [rv_str r], ho.1, cont _ _ D H (Same.refl D) rel (.int _) ho.2⟩
  · exact ho.elim
def bools : List DV → Option (List Bool)
  | [] => some []
  | .bl b :: ds => (bools ds).map fun bs => b :: bs
  | _ :: _ => none
theorem rvA_bools {K : PySem.W.Frag} {D : Hp} : ∀ {vs : List V} {ds : List DV} {bs : List Bool}, RvA K D vs ds → bools ds = some bs → vs = bs.map V.bl
  | _, _, _, .nil, e => by cases e; rfl
  | _, _, _, .cons (d := d) a b, e => by
    cases d with
    | bl x =>
      obtain ⟨r, h3, rfl⟩ := Option.map_eq_some_iff.mp (show (bools _).map _ = some _ from e)
      rw [rv_bl a, rvA_bools b h3]
      rfl
    | _ => cases e
def oAll : ON := fun ds Q => match ds with
  | [.node .lst xs] => match bools xs with | some bs => Q (.bl (bs.all id)) | none => False
  | _ => False
theorem c_all (hc : X.calm = true) (hK : X.K = G.K := by rfl) : CallD G X (.builtin "all") oAll := by
  refine ⟨_, cr_allK G.K hc hK, fun F D σ H ρ vs ds Q k rel ra ho cont => ?_⟩
  unfold oAll at ho
  split at ho
  · split at ho
    · next bs e =>
      obtain ⟨v, rfl, r⟩ := rvA1 ra
      obtain ⟨p, vs, rfl, h1, h2⟩ := rv_lst r
      rw [rvA_bools h2 e] at h1
      exact ⟨p, bs, rfl, SqL.of (rel.same _ _ h1), cont _ _ D H (Same.refl D) rel (.bl _) ho⟩
    · exact ho.elim
  · exact ho.elim
def oAny : ON := fun ds Q => match ds with
  | [.node .lst xs] => match bools xs with | some bs => Q (.bl (bs.any id)) | none => False
  | _ => False
theorem c_any (hc : X.calm = true) (hK : X.K = G.K := by rfl) : CallD G X (.builtin "any") oAny := by
  refine ⟨_, cr_anyK G.K hc hK, fun F D σ H ρ vs ds Q k rel ra ho cont => ?_⟩
  unfold oAny at ho
  split at ho
  · split at ho
    · next bs e =>
      obtain ⟨v, rfl, r⟩ := rvA1 ra
      obtain ⟨p, vs, rfl, h1, h2⟩ := rv_lst r
      rw [rvA_bools h2 e] at h1
      exact ⟨p, bs, rfl, SqL.of (rel.same _ _ h1), cont _ _ D H (Same.refl D) rel (.bl _) ho⟩
    · exact ho.elim
  · exact ho.elim
def pLenV (i : Nat) : PEt := fun ρ Q _ => match ρ.sl[i]? with
  | some (some (.val d)) => oLen [d] fun z => Q z ρ
  | some (some (.lst ds)) => Q (.int (ds.length : Nat)) ρ
  | _ => False
theorem d_lenV {i : Nat} {y : Str} {p2 : Pos} (hg : Gl X "len") (hm : X.mg "len" = none) (h : PE X (.Name y p2) (tVar i)) (he : starEach [.Name y p2] X.env = (false, eval (.Name y p2) X.env) :: starEach [] X.env := by rfl) (hpl : (backTo pos (starEach [] X.env)).any (·.1) = false := by rfl) (hK : X.K = G.K := by rfl) :
    DE G X (.Call (.Name "len" p) [.Name y p2] [] pos) (pLenV i) := by
  refine DE.of (pe_callB (CallR.or (call_len_seqK G.K hK) call_len_str) hg hm PySem.boot_len (pa_cons h pa_nil he) (by decide) (by decide) he hpl) fun F D σ H ρ Q R k rel hp hx cont => ?_
  unfold pLenV at hp
  split at hp
  · next d e =>
    obtain ⟨v, h1, h2⟩ := rel.get e
    refine ⟨v, h1, ?_⟩
    unfold oLen at hp
    split at hp
    · next xs hd =>
      cases hd
      obtain ⟨q, vs, rfl, h3, h4⟩ := rv_lst h2
      exact .inl ⟨q, vs, rfl, .inl (SqL.of (rel.same _ _ h3)), by rw [rvA_len h4]; exact cont _ _ D _ H (Same.refl D) rel (.int _) hp⟩
    · next xs hd =>
      cases hd
      obtain ⟨q, vs, rfl, h3, h4⟩ := rv_tup h2
      exact .inl ⟨q, vs, rfl, .inr (SqT.of (rel.same _ _ h3)), by rw [rvA_len h4]; exact cont _ _ D _ H (Same.refl D) rel (.int _) hp⟩
    · next z hd =>
      cases hd
      exact .inr ⟨_, by rw [rv_str h2], hp.1, cont _ _ D _ H (Same.refl D) rel (.int _) hp.2⟩
    · exact hp.elim
  · next ds e =>
    obtain ⟨q, h1, ⟨vs, h2, h3⟩, _⟩ := rel.own e (fun d z => nomatch z)
    exact ⟨_, h1, .inl ⟨q, vs, rfl, .inl (SqL.of h2), by rw [rvA_len h3]; exact cont _ _ D _ H (Same.refl D) rel (.int _) hp⟩⟩
  · exact hp.elim
def lookF (f : Str) : List Str → List DV → Option DV
  | g :: gs, d :: ds => if f = g then some d else lookF f gs ds
  | _, _ => none
theorem rv_field {K : PySem.W.Frag} {D : Hp} {f : Str} : ∀ {fs : List Str} {vs : List V} {ds : List DV} {d : DV}, RvA K D vs ds → lookF f fs ds = some d → ∃ v, (fs.zip vs).lookup f = some v ∧ Rv K D v d
  | [], _, _, _, _, e => by unfold lookF at e; cases e
  | g :: gs, _, _, _, .nil, e => by unfold lookF at e; cases e
  | g :: gs, v :: vs, d :: ds, d', .cons a b, e => by
    unfold lookF at e
    rw [List.zip_cons_cons, List.lookup_cons]
    by_cases h : f = g
    · rw [if_pos h] at e
      cases e
      exact ⟨v, by rw [h]; simp, a⟩
    · rw [if_neg h] at e
      have hb : (f == g) = false := by simp [h]
      rw [hb]
      exact rv_field b e
def FldIn (K : PySem.W.Frag) (f : Str) (Cs : List Str) : Prop := ∀ C ∈ Cs, Cls K (He.ga K C) ∧ NoAttr K (He.ga K C) f
def pFld (Cs : List Str) (f : Str) (pa : PEt) : PEt := fun ρ Q R => pa ρ (fun d ρ1 => match d with
  | .node (.ins C fs) ds => C ∈ Cs ∧ match lookF f fs ds with | some z => Q z ρ1 | none => False
  | _ => False) R
theorem d_fld {Cs : List Str} {f : Str} (hf : FldIn G.K f Cs) (ha : DE G X a pa) (hb : attributeBase a f X.env (eval a X.env) = eval a X.env := by rfl) (hK : X.K = G.K := by rfl) : DE G X (.Attribute a f pos) (pFld Cs f pa) := by
  refine DE.of (pe_fldK G.K ha.run hK hb) fun F D σ H ρ Q R k rel hp hx cont => ?_
  refine simE_l F D σ H ρ _ R _ rel hp hx fun d ρ1 D1 v H1 e1 r1 q1 hp1 => ?_
  split at hp1
  · next C fs ds =>
    obtain ⟨hC, hp1⟩ := hp1
    split at hp1
    · next z ez =>
      obtain ⟨q, dx, vs, rfl, h1, h2, h3⟩ := rv_ins q1
      obtain ⟨w, h4, h5⟩ := rv_field h3 ez
      exact ⟨q, _, dx, _, w, rfl, r1.same _ _ h1, (hf C hC).1, (hf C hC).2, h4, cont _ _ D1 _ H1 e1 r1 h5 hp1⟩
    · exact hp1.elim
  · exact hp1.elim
abbrev PFn := Option Addr → List DV → Nat → (DV → Nat → Prop) → PR → Prop
def spP (K : PySem.W.Frag) (Fn : PFn) : Sp := fun vs H Q E => ∃ (D : Hp) (pn : Option Addr) (ds : List DV) (n : Nat) (Qd : DV → Nat → Prop) (R : PR), Same D H ∧ (∀ p, pn = some p → H p ≠ none) ∧ RvA K D vs ds ∧ PenOk K D H pn n ∧ Fn pn ds n Qd R ∧
  (∀ D' H' v d n', StepT K (Wn pn) D H D' H' → Rv K D' v d → PenOk K D' H' pn n' → Qd d n' → Q v H') ∧ ExOk ⟨K, pn, D, H, E, []⟩ R
def pCall (Fn : List DV → Nat → (DV → Nat → Prop) → PR → Prop) (pl : PAt) : PEt := fun ρ Q R => pl ρ (fun ds ρ1 => Fn ds ρ1.ink (fun d n => Q d { ρ1 with ink := n }) R) R
theorem ex_from {D H : Hp} {R : PR} (h : ExOk G R) (s : StepT G.K (Wn G.pn) G.D0 G.H0 D H) : ExOk ⟨G.K, G.pn, D, H, G.E, []⟩ R := ⟨fun D' H' x n d ps s' pen hd hp hr => h.ok D' H' x n d ps (s.trans s') pen hd hp hr⟩
theorem sp_of {F : List (Addr × HO)} {D : Hp} {σ : L2.St} {H : Hp} {ρ : Ps} {Fn : PFn} {Q : PQ} {R : PR} {vs : List V} {ds : List DV} {k : VK} (rel : Rel G F D σ H ρ) (q : RvA G.K D vs ds) (hp : Fn G.pn ds ρ.ink (fun d n => Q d { ρ with ink := n }) R) (hx : ExOk G R)
    (cont : ∀ d ρ' D' v H', Same D D' → Rel G F D' σ H' ρ' → Rv G.K D' v d → Q d ρ' → k v H') : spP G.K Fn vs H k G.E :=
  ⟨D, G.pn, ds, ρ.ink, _, R, rel.same, fun p e h => rel.ph p e (rel.st.free h), q, rel.pen, hp, fun D' H' v d n' s rv pen qd => cont d _ D' v H' s.dd (rel.step s pen) rv qd, ex_from hx rel.st⟩
theorem d_call {CX : CXT} {k j : Nat} {Fn : PFn} (c : CalX X.prog X.w X.K X.mg X.base CX k x (spP G.K Fn)) (hr : Room j X.A) (hk : k ≤ j) (hg : Gl X x) (hx : Passes CX X G.E) (ha : DA G X (e :: es) pl)
    (hdb : (x == ("__debug__" : Str)) = false := by decide) (he : starEach (e :: es) X.env = (false, eval e X.env) :: starEach es X.env := by rfl) (hpl : (backTo pos (starEach es X.env)).any (·.1) = false := by rfl) :
    DE G X (.Call (.Name x p) (e :: es) [] pos) (pCall (Fn G.pn) pl) := by
  refine DE.of (pe_cX c hr hk hg hx ha.run hdb he hpl) fun F D σ H ρ Q R k rel hp hx cont => ?_
  refine simA_l F D σ H ρ _ R _ rel hp hx fun ds ρ1 D1 vs H1 e1 r1 q1 hp1 => ?_
  show spP G.K Fn (vs ++ []) H1 k G.E
  rw [List.append_nil]
  exact sp_of r1 q1 hp1 hx fun d ρ' D' v H' s r q h => cont d ρ' D' v H' (e1.trans s) r q h
theorem d_callG {CX : CXT} {k j : Nat} {Fn : PFn} (c : CalG X.prog X.w X.K X.mg X.base CX k x (spP G.K Fn)) (hgd : X.A.guards = some []) (hr : Room j X.A) (hk : k ≤ j) (hg : Gl X x) (hx : Passes CX X G.E) (ha : DA G X (e :: es) pl)
    (hdb : (x == ("__debug__" : Str)) = false := by decide) (he : starEach (e :: es) X.env = (false, eval e X.env) :: starEach es X.env := by rfl) (hpl : (backTo pos (starEach es X.env)).any (·.1) = false := by rfl) :
    DE G X (.Call (.Name x p) (e :: es) [] pos) (pCall (Fn G.pn) pl) := by
  refine DE.of (pe_cG c hgd hr hk hg hx ha.run hdb he hpl) fun F D σ H ρ Q R k rel hp hx cont => ?_
  refine simA_l F D σ H ρ _ R _ rel hp hx fun ds ρ1 D1 vs H1 e1 r1 q1 hp1 => ?_
  show spP G.K Fn (vs ++ []) H1 k G.E
  rw [List.append_nil]
  exact sp_of r1 q1 hp1 hx fun d ρ' D' v H' s r q h => cont d ρ' D' v H' (e1.trans s) r q h
def isC (C : Str) : DV → Bool
  | .node (.ins B _) _ => decide (B = C)
  | _ => false
end
end Rg

set_option Elab.async false
set_option linter.all false
set_option maxRecDepth 100000
set_option maxHeartbeats 2000000
namespace Rg
open PySem PySem.Spec PyProof.Rows L2
structure PEnds where
  nx : Ps → Prop
  rt : DV → Nat → Prop
  rs : PR
  bk : Ps → Prop := fun _ => False
  ct : Ps → Prop := fun _ => False
abbrev PSt := PEnds → Ps → Prop
structure EndsOk (G : Gx) (D0 : Hp) (Ep : PEnds) (E : Ends) : Prop where
  nx : ∀ D σ H ρ, Same D0 D → Rel G [] D σ H ρ → Ep.nx ρ → E.nx σ H
  rt : ∀ D H v d n, StepT G.K (Wn G.pn) G.D0 G.H0 D H → PenOk G.K D H G.pn n → Rv G.K D v d → Ep.rt d n → E.rt v H
  bk : ∀ D σ H ρ, Same D0 D → Rel G [] D σ H ρ → Ep.bk ρ → E.bk σ H
  ct : ∀ D σ H ρ, Same D0 D → Rel G [] D σ H ρ → Ep.ct ρ → E.ct σ H
theorem EndsOk.up {G : Gx} {D0 D1 : Hp} {Ep : PEnds} {E : Ends} (h : EndsOk G D0 Ep E) (s : Same D0 D1) : EndsOk G D1 Ep E :=
  ⟨fun D σ H ρ e => h.nx D σ H ρ (s.trans e), h.rt, fun D σ H ρ e => h.bk D σ H ρ (s.trans e), fun D σ H ρ e => h.ct D σ H ρ (s.trans e)⟩
def SimS (G : Gx) (t : TS) (p : PSt) : Prop := ∀ (D : Hp) (σ : L2.St) (H : Hp) (ρ : Ps) (Ep : PEnds) (E : Ends), Rel G [] D σ H ρ → p Ep ρ → EndsOk G D Ep E → ExOk G Ep.rs → t E σ H
def lS (G : Gx) (p : PSt) : TS := fun E σ H => ∃ (D : Hp) (ρ : Ps) (Ep : PEnds), Rel G [] D σ H ρ ∧ p Ep ρ ∧ EndsOk G D Ep E ∧ ExOk G Ep.rs
theorem simS_l {G : Gx} {p : PSt} : SimS G (lS G p) p := fun D σ H ρ Ep E a b c d => ⟨D, ρ, Ep, a, b, c, d⟩
structure DS (G : Gx) (X : Cx) (st : Stmt) (p : PSt) : Prop where
  run : PS X st (lS G p)
structure DSs (G : Gx) (X : Cx) (st : List Stmt) (p : PSt) : Prop where
  run : PSs X st (lS G p)
/-- weaker knowledge -/
def Wk (I : Ps → Prop) : Ps → Prop := fun ρ => ∃ sl n, Le sl ρ.sl ∧ n ≤ ρ.ink ∧ I ⟨sl, n⟩
theorem Wk.of {I : Ps → Prop} {ρ : Ps} (h : I ρ) : Wk I ρ := ⟨ρ.sl, ρ.ink, Le.refl _, Nat.le_refl _, h⟩
theorem RelB.wk {G : Gx} {F : List (Addr × HO)} {D H : Hp} {σ : L2.St} {ρ : Ps} {sl : Sl} {n : Nat} (R : RelB G F D σ H ρ) (l : Le sl ρ.sl) (hn : n ≤ ρ.ink) : RelB G F D σ H ⟨sl, n⟩ := by
  obtain ⟨a, b, c, d, e, f⟩ := R.le l
  exact ⟨a, b, c, fun p h => (d p h).less hn, e, f⟩
section
variable {G : Gx} {X : Cx} {a b c e : Expr} {es : List Expr} {pos : Pos} {pa pb pc : PEt} {pt pu : PTt} {pl : PAt} {st : Stmt} {sts : List Stmt} {p q : PSt}
theorem DS.of {t : TS} (h : PS X st t) (s : SimS G t p) : DS G X st p := ⟨⟨fun pins sh σ H E I ⟨D, ρ, Ep, a, b, c, d⟩ => h.run pins sh σ H E I (s D σ H ρ Ep E a b c d)⟩⟩
theorem DSs.of {t : TS} (h : PSs X sts t) (s : SimS G t p) : DSs G X sts p := ⟨⟨fun pins sh σ H E I ⟨D, ρ, Ep, a, b, c, d⟩ => h.run pins sh σ H E I (s D σ H ρ Ep E a b c d)⟩⟩
theorem DSs.nox (h : DSs G X.nox sts p) : DSs G X sts p := ⟨h.run.nox⟩
def pNext : PSt := fun E ρ => E.nx ρ
def pSeq (p q : PSt) : PSt := fun E ρ => p { E with nx := q E } ρ
theorem s_nil : DSs G X [] pNext := DSs.of pss_nil fun D σ H ρ Ep E rel hp ok hx => ok.nx D σ H ρ (Same.refl D) rel hp
theorem s_one (h : DS G X st p) : DSs G X [st] p := ⟨pss_one h.run⟩
theorem s_cons (h : DS G X st p) (h2 : DSs G X sts q) : DSs G X (st :: sts) (pSeq p q) := by
  refine DSs.of (pss_cons h.run h2.run) fun D σ H ρ Ep E rel hp ok hx => ?_
  exact simS_l D σ H ρ { Ep with nx := q Ep } _ rel hp ⟨fun D σ H ρ sm rel h => simS_l D σ H ρ Ep E rel h (ok.up sm) hx, ok.rt, ok.bk, ok.ct⟩ hx
/-- behind the first statement only what is said of it is known -/
def pCut (p q : PSt) : PSt := fun E ρ => ∃ M : Ps → Prop, p { E with nx := Wk M } ρ ∧ ∀ ρ1, M ρ1 → q E ρ1
theorem s_cut (h : DS G X st p) (h2 : DSs G X sts q) : DSs G X (st :: sts) (pCut p q) := by
  refine DSs.of (pss_cons h.run h2.run) fun D σ H ρ Ep E rel hp ok hx => ?_
  obtain ⟨M, hp, hq⟩ := hp
  exact simS_l D σ H ρ { Ep with nx := Wk M } _ rel hp ⟨fun D σ H ρ sm rel ⟨sl, n, l, hn, h⟩ => simS_l D σ H _ Ep E (rel.wk l hn) (hq _ h) (ok.up sm) hx, ok.rt, ok.bk, ok.ct⟩ hx
def pRet (pa : PEt) : PSt := fun E ρ => pa ρ (fun d ρ1 => E.rt d ρ1.ink) E.rs
theorem s_ret (ha : DE G X e pa) : DS G X (.Return (some e) pos) (pRet pa) :=
  DS.of (ps_ret ha.run) fun D σ H ρ Ep E rel hp ok hx => simE_l [] D σ H ρ _ Ep.rs _ rel hp hx fun d ρ1 D1 v H1 _ r1 q1 h1 => ok.rt D1 H1 v d ρ1.ink r1.st r1.pen q1 h1
def pDrop (pa : PEt) : PSt := fun E ρ => pa ρ (fun _ ρ1 => E.nx ρ1) E.rs
theorem s_expr (ha : DE G X e pa) (hs : swapsWith e none pos.line X.env = pure false := by rfl) : DS G X (.Expr e pos) (pDrop pa) :=
  DS.of (ps_expr ha.run hs) fun D σ H ρ Ep E rel hp ok hx => simE_l [] D σ H ρ _ Ep.rs _ rel hp hx fun d ρ1 D1 v H1 e1 r1 q1 h1 => ok.nx D1 σ H1 ρ1 e1 r1 h1
def pNever : PSt := fun _ _ => False
theorem s_never : DS G X st pNever := DS.of ps_never fun D σ H ρ Ep E rel hp ok hx => hp
def pIfS (pt : PTt) (p q : PSt) : PSt := fun E ρ => pt ρ (fun c ρ1 => if c = true then p E ρ1 else q E ρ1) E.rs
theorem s_if {sts2 : List Stmt} (hc : DT G X c pt) (ha : DSs G X sts p) (hb : DSs G X sts2 q) : DS G X (.If c sts sts2 pos) (pIfS pt p q) := by
  refine DS.of (ps_if hc.run ha.run hb.run) fun D σ H ρ Ep E rel hp ok hx => ?_
  refine simT_l [] D σ H ρ _ Ep.rs _ rel hp hx fun c ρ1 D1 H1 e1 r1 h1 => ?_
  cases c with
  | true => exact iteT (simS_l D1 σ H1 ρ1 Ep E r1 h1 (ok.up e1) hx)
  | false => exact iteF (simS_l D1 σ H1 ρ1 Ep E r1 h1 (ok.up e1) hx)
abbrev PGt := DV → Ps → (Ps → Prop) → Prop
abbrev PGs' := List DV → Ps → (Ps → Prop) → Prop
def Wr (ks : List Nat) (σ σ' : L2.St) : Prop := σ'.length = σ.length ∧ ∀ i, i ∉ ks → σ'[i]? = σ[i]?
theorem Wr.trans {k1 k2 : List Nat} {σ σ1 σ2 : L2.St} (a : Wr k1 σ σ1) (b : Wr k2 σ1 σ2) : Wr (k1 ++ k2) σ σ2 :=
  ⟨b.1.trans a.1, fun i h => (b.2 i fun z => h (List.mem_append_right _ z)).trans (a.2 i fun z => h (List.mem_append_left _ z))⟩
def SimG (G : Gx) (g : TG) (ks : List Nat) (p : PGt) : Prop := ∀ (F : List (Addr × HO)) (D : Hp) (σ : L2.St) (H : Hp) (ρ : Ps) (v : V) (d : DV) (Q : Ps → Prop) (k : L2.St → Hp → Prop), Rel G F D σ H ρ → Rv G.K D v d → p d ρ Q →
  (∀ ρ' σ', Wr ks σ σ' → Rel G F D σ' H ρ' → Q ρ' → k σ' H) → g v σ H k
def SimGs (G : Gx) (g : TGs) (ks : List Nat) (p : PGs') : Prop := ∀ (F : List (Addr × HO)) (D : Hp) (σ : L2.St) (H : Hp) (ρ : Ps) (vs : List V) (ds : List DV) (Q : Ps → Prop) (k : L2.St → Hp → Prop), Rel G F D σ H ρ → RvA G.K D vs ds → p ds ρ Q →
  (∀ ρ' σ', Wr ks σ σ' → Rel G F D σ' H ρ' → Q ρ' → k σ' H) → g vs σ H k
structure DG (G : Gx) (X : Cx) (tg : Expr) (g : TG) (ks : List Nat) (p : PGt) : Prop where
  run : PG X tg g
  sim : SimG G g ks p
structure DGs (G : Gx) (X : Cx) (tgs : List Expr) (g : TGs) (ks : List Nat) (p : PGs') : Prop where
  run : PGs X tgs g
  sim : SimGs G g ks p
def pName (i : Nat) : PGt := fun d ρ Q => Q { ρ with sl := ρ.sl.set i (some (.val d)) }
theorem wr_set {i : Nat} {σ : L2.St} {v : Option V} : Wr [i] σ (σ.set i v) := ⟨List.length_set, fun j hj => List.getElem?_set_ne fun e => hj (by rw [← e]; exact List.mem_singleton_self _)⟩
theorem g_name {i : Nat} {x : Str} (h : PG X (.Name x pos) (gName i)) : DG G X (.Name x pos) (gName i) [i] (pName i) := ⟨h, fun F D σ H ρ v d Q k rel rv hp cont => cont _ _ wr_set (rel.set rv) hp⟩
def pGNil : PGs' := fun ds ρ Q => match ds with | [] => Q ρ | _ => False
def pGCons (p : PGt) (q : PGs') : PGs' := fun ds ρ Q => match ds with | d :: r => p d ρ fun ρ1 => q r ρ1 Q | [] => False
theorem gs_nil : DGs G X [] gNil [] pGNil := ⟨pgs_nil, fun F D σ H ρ vs ds Q k rel rv hp cont => by
  cases rv with
  | nil => exact ⟨rfl, cont ρ σ ⟨rfl, fun _ _ => rfl⟩ rel hp⟩
  | cons _ _ => exact hp.elim⟩
theorem gs_cons {g : TG} {gs : TGs} {k1 k2 : List Nat} {p : PGt} {q : PGs'} (h1 : DG G X e g k1 p) (h2 : DGs G X es gs k2 q) (hs : (assignEach (e :: es) X.env).map (·.2) = assign e X.env :: (assignEach es X.env).map (·.2) := by rfl) : DGs G X (e :: es) (gCons g gs) (k1 ++ k2) (pGCons p q) :=
  ⟨pgs_cons h1.run h2.run hs, fun F D σ H ρ vs ds Q k rel rv hp cont => by
    cases rv with
    | nil => exact hp.elim
    | cons r1 r2 => exact ⟨_, _, rfl, h1.sim F D σ H ρ _ _ _ _ rel r1 hp fun ρ1 σ1 w1 rel1 hp1 => h2.sim F D σ1 H ρ1 _ _ Q k rel1 r2 hp1 fun ρ2 σ2 w2 => cont ρ2 σ2 (w1.trans w2)⟩⟩
def pGTup (q : PGs') : PGt := fun d ρ Q => match d with | .node .tup ds => q ds ρ Q | _ => False
theorem g_tup {gs : TGs} {q : PGs'} {kk : Nat} {n : Nat} {ks : List Nat} (hc : X.calm = true) (h : DGs G X es gs ks q) (hl : ∀ ds ρ Q, q ds ρ Q → ds.length = n) (hK : X.K = G.K := by rfl)
    (hn : (assignEach es X.env).length = n := by rfl) (hst : (assignEach es X.env).findIdx? (·.1) = none := by rfl) : DG G X (.Tuple es kk pos) (gTup G.K n gs) ks (pGTup q) :=
  ⟨pg_tupK G.K hc h.run hK hn hst, fun F D σ H ρ v d Q k rel rv hp cont => by
    unfold pGTup at hp
    split at hp
    · obtain ⟨a, vs, rfl, h1, h2⟩ := rv_tup rv
      exact ⟨a, vs, rfl, SqT.of (rel.same _ _ h1), by rw [rvA_len h2]; exact hl _ _ _ hp, h.sim F D σ H ρ vs _ Q k rel h2 hp cont⟩
    · exact hp.elim⟩
theorem gl0 : ∀ ds ρ Q, pGNil ds ρ Q → ds.length = 0 := fun ds ρ Q h => by
  unfold pGNil at h
  split at h
  · rfl
  · exact h.elim
theorem gl1 {p : PGt} {q : PGs'} {n : Nat} (hp : ∀ d ρ Q Q', p d ρ Q → (∀ ρ, Q ρ → Q' ρ) → p d ρ Q') (hq : ∀ ds ρ Q, q ds ρ Q → ds.length = n) (hx : ∀ d ρ, ¬ p d ρ fun _ => False) : ∀ ds ρ Q, pGCons p q ds ρ Q → ds.length = n + 1 := fun ds ρ Q h => by
  unfold pGCons at h
  split at h
  · next d r =>
    by_cases hr : r.length = n
    · rw [List.length_cons, hr]
    · exact absurd (hp _ _ _ _ h fun ρ1 z => hr (hq _ _ _ z)) (hx _ _)
  · exact h.elim
theorem glN {i : Nat} {q : PGs'} {n : Nat} (hq : ∀ ds ρ Q, q ds ρ Q → ds.length = n) : ∀ ds ρ Q, pGCons (pName i) q ds ρ Q → ds.length = n + 1 := gl1 (fun d ρ Q Q' h m => m _ h) hq (fun d ρ h => h)
def pSet (g : PGt) (pa : PEt) : PSt := fun E ρ => pa ρ (fun d ρ1 => g d ρ1 E.nx) E.rs
theorem s_set {i : Nat} {x : Str} {pos' : Pos} (hN : X.N.Nodup) (hi : X.N[i]? = some x) (hx : Loc X.env.scope x) (ha : DE G X e pa) (hs : swapsWith e (some (.Name x pos')) pos.line X.env = pure false := by rfl) (hf : X.fn x = true ∨ X.env.scope.names.lookup x = some .local := by first | exact .inl rfl | exact .inr rfl | assumption) :
    DS G X (.Assign [.Name x pos'] e pos) (pSet (pName i) pa) :=
  DS.of (ps_set hN hi hx ha.run hs hf) fun D σ H ρ Ep E rel hp ok hx => simE_l [] D σ H ρ _ Ep.rs _ rel hp hx fun d ρ1 D1 v H1 e1 r1 q1 h1 => ok.nx D1 _ H1 _ e1 (r1.set q1) h1
/-- a, b = x, y -/
def pPar (i j : Nat) (pl : PAt) : PSt := fun E ρ => pl ρ (fun ds ρ1 => match ds with
  | [d, e] => E.nx { ρ1 with sl := (ρ1.sl.set i (some (.val d))).set j (some (.val e)) }
  | _ => False) E.rs
theorem sim_par {i j : Nat} : SimS G (tPar i j (lA G pl)) (pPar i j pl) := by
  intro D σ H ρ Ep E rel hp ok hx
  refine simA_l [] D σ H ρ _ Ep.rs _ rel hp hx fun ds ρ1 D1 vs H1 e1 r1 q1 h1 => ?_
  split at h1
  · obtain ⟨v, w, rfl, h2, h3⟩ := rvA2 q1
    exact ⟨v, w, rfl, ok.nx D1 _ H1 _ e1 ((r1.set h2).set h3) h1⟩
  · exact h1.elim
def SimF (G : Gx) (t : TE) (p : PAt) : Prop := ∀ (F : List (Addr × HO)) (D : Hp) (σ : L2.St) (H : Hp) (ρ : Ps) (Q : List DV → Ps → Prop) (R : PR) (k : VK), Rel G F D σ H ρ → p ρ Q R → ExOk G R →
  (∀ ds ρ' D' vs H' q, Same D D' → Rel G ((q, .lst vs) :: F) D' σ H' ρ' → q ∉ (F ++ G.fr).map (·.1) → RvA G.K D' vs ds → Q ds ρ' → k (.ref q) H') → t σ H k
def lF (G : Gx) (p : PAt) : TE := fun σ H k => ∃ (F : List (Addr × HO)) (D : Hp) (ρ : Ps) (Q : List DV → Ps → Prop) (R : PR), Rel G F D σ H ρ ∧ p ρ Q R ∧ ExOk G R ∧
  ∀ ds ρ' D' vs H' q, Same D D' → Rel G ((q, .lst vs) :: F) D' σ H' ρ' → q ∉ (F ++ G.fr).map (·.1) → RvA G.K D' vs ds → Q ds ρ' → k (.ref q) H'
theorem simF_l {p : PAt} : SimF G (lF G p) p := fun F D σ H ρ Q R k a b c d => ⟨F, D, ρ, Q, R, a, b, c, d⟩
structure DF (G : Gx) (X : Cx) (e : Expr) (p : PAt) : Prop where
  run : PE X e (lF G p)
theorem DF.of {t : TE} {p : PAt} (h : PE X e t) (s : SimF G t p) : DF G X e p := ⟨⟨fun pins sh σ H Q I ⟨F, D, ρ, Qp, R, a, b, c, d⟩ => h.run pins sh σ H Q I (s F D σ H ρ Qp R Q a b c d)⟩⟩
def pFr (p : PAt) : PEt := fun ρ Q R => p ρ (fun ds ρ1 => Q (.lst ds) ρ1) R
theorem simF_e {t : TE} {p : PAt} (s : SimF G t p) : SimE G t (pFr p) := fun F D σ H ρ Q R k rel hp hx cont =>
  s F D σ H ρ _ R k rel hp hx fun ds ρ' D' vs H' q sm r nf rv hq => by
    have rp := r.pop nf
    exact cont _ ρ' _ _ H' (sm.trans rp.2) rp.1 (.lst upd_same (rvA_mono rp.2 rv)) hq
theorem DF.de {p : PAt} (h : DF G X e p) : DE G X e (pFr p) := DE.of h.run (simF_e simF_l)
def pDisp (pl : PAt) : PAt := fun ρ Q R => pl ρ (fun ds ρ1 => ds.length ≤ sizeLine ∧ Q ds ρ1) R
theorem f_lst (hl : DA G X es pl) : DF G X (.List es pos) (pDisp pl) :=
  DF.of (pe_lst hl.run) fun F D σ H ρ Q R k rel hp hx cont => simA_l F D σ H ρ _ R _ rel hp hx fun ds ρ2 D2 vs H2 e2 r2 q2 hp2 => ⟨by rw [rvA_len q2]; exact hp2.1, fun p np => cont ds ρ2 D2 vs _ p e2 (r2.push np) (r2.fresh np) q2 hp2.2⟩
end
end Rg

set_option Elab.async false
set_option linter.all false
set_option maxRecDepth 100000
set_option maxHeartbeats 2000000
namespace Rg
open PySem PySem.Spec PyProof.Rows L2
/-- the items ds come one after another; they are settled, or new tuples -/
structure ItD (K : PySem.W.Frag) (D : Hp) (J : It) (ds : List DV) : Prop where
  ex : ∃ Y, Walk J ds.length (fun H => Same D H) Y ∧ ∀ i x H1 H2, i < ds.length → Same D H1 → Y i H1 x H2 → ∃ d, ds[i]? = some d ∧
    ((H2 = H1 ∧ Rv K D x d) ∨ ∃ T o, x = .ref T ∧ H1 T = none ∧ H2 = upd H1 T o ∧ ∀ D1, Same D D1 → D1 T = none → Rv K (upd D1 T o) x d)
def SimI (G : Gx) (wi : TI) (p : PAt) : Prop := ∀ (F : List (Addr × HO)) (D : Hp) (σ : L2.St) (H : Hp) (ρ : Ps) (Q : List DV → Ps → Prop) (R : PR) (k : It → Hp → Prop), Rel G F D σ H ρ → p ρ Q R → ExOk G R →
  (∀ ds ρ' D' H' J, Same D D' → Rel G F D' σ H' ρ' → ItD G.K D' J ds → Q ds ρ' → k J H') → wi σ H k
structure DI (G : Gx) (X : Cx) (tg iter : Expr) (p : PAt) : Prop where
  ex : ∃ wi, PI X tg iter wi ∧ SimI G wi p
def signsD (z : Str) : List DV := z.cps.toList.map fun c => .str (sgn c)
def rangeD (lo : Int) (n : Nat) : List DV := (List.range n).map fun i => .int (lo + (i : Nat))
def enumD (ds : List DV) : List DV := ds.zipIdx.map fun p => .tup [.int (p.2 : Nat), p.1]
theorem enumD_at {ds : List DV} {i : Nat} {d : DV} (h : ds[i]? = some d) : (enumD ds)[i]? = some (.tup [.int (i : Nat), d]) := by
  unfold enumD
  rw [List.getElem?_map, List.getElem?_zipIdx, h]
  simp
theorem enumD_len {ds : List DV} : (enumD ds).length = ds.length := by simp [enumD]
theorem rangeD_at {lo : Int} {n i : Nat} (h : i < n) : (rangeD lo n)[i]? = some (.int (lo + (i : Nat))) := by
  unfold rangeD
  rw [List.getElem?_map, List.getElem?_range h]
  rfl
theorem rangeD_len {lo : Int} {n : Nat} : (rangeD lo n).length = n := by simp [rangeD]
theorem signsD_at {z : Str} {i c : Nat} (h : z.cps.toList[i]? = some c) : (signsD z)[i]? = some (.str (sgn c)) := by
  unfold signsD
  rw [List.getElem?_map, h]
  rfl
section
variable {K : PySem.W.Frag} {D : Hp}
theorem it_list {a : Addr} {vs : List V} {ds : List DV} (h1 : D a = some (.lst vs)) (h2 : RvA K D vs ds) : ItD K D (Itl K a) ds := by
  refine ⟨YAt vs, ?_, fun i x H1 H2 hi sm ⟨e, hx⟩ => ?_⟩
  · rw [← rvA_len h2]
    exact walk_list.mono (fun H' e => SqL.of (e _ _ h1)) fun _ _ _ _ _ _ y => y
  · obtain ⟨d, h3, h4⟩ := rvA_get h2 hx
    exact ⟨d, h3, .inl ⟨e, h4⟩⟩
theorem it_tup {a : Addr} {vs : List V} {ds : List DV} (h1 : D a = some (.tup vs)) (h2 : RvA K D vs ds) : ItD K D (Itt K a) ds := by
  refine ⟨YAt vs, ?_, fun i x H1 H2 hi sm ⟨e, hx⟩ => ?_⟩
  · rw [← rvA_len h2]
    exact walk_tup.mono (fun H' e => SqT.of (e _ _ h1)) fun _ _ _ _ _ _ y => y
  · obtain ⟨d, h3, h4⟩ := rvA_get h2 hx
    exact ⟨d, h3, .inl ⟨e, h4⟩⟩
theorem it_str {z : Str} : ItD K D (Its z) (signsD z) := by
  refine ⟨fun i H v H' => H' = H ∧ ∃ c, z.cps[i]? = some c ∧ v = .str ⟨#[c]⟩, ?_, fun i x H1 H2 hi sm y => ?_⟩
  · rw [show (signsD z).length = z.cps.size by simp [signsD]]
    exact walk_str.mono (fun _ _ => trivial) fun _ _ _ _ _ _ y => y
  · obtain ⟨e, c, hc, rfl⟩ := y
    exact ⟨.str (sgn c), signsD_at (by rw [← get_tl]; exact hc), .inl ⟨e, .str _⟩⟩
theorem it_range {lo : Int} {n : Nat} : ItD K D (Itr lo n) (rangeD lo n) := by
  refine ⟨YFn fun i => .int (lo + (i : Nat)), ?_, fun i x H1 H2 hi sm y => ?_⟩
  · rw [rangeD_len]
    exact walk_range.mono (fun _ _ => trivial) fun _ _ _ _ _ _ y => y
  · obtain ⟨e, rfl⟩ := y
    exact ⟨.int (lo + (i : Nat)), rangeD_at (by rw [rangeD_len] at hi; exact hi), .inl ⟨e, .int _⟩⟩
theorem it_pair {J : It} {n : Nat} {xs ys : Nat → Option V} {ds : List DV} (hn : ds.length = n) (w : Walk J n (fun H => Same D H) (YPair xs ys)) (h : ∀ i x y, i < n → xs i = some x → ys i = some y → ∃ a b, ds[i]? = some (.tup [a, b]) ∧ Rv K D x a ∧ Rv K D y b) : ItD K D J ds := by
  subst hn
  refine ⟨_, w, fun i x H1 H2 hi sm yy => ?_⟩
  obtain ⟨T, x, y, h1, h2, h3, h4, h5⟩ := yy
  obtain ⟨a, b, h6, h7, h8⟩ := h i x y hi h4 h5
  exact ⟨_, h6, .inr ⟨T, _, h1, h2, h3, fun D1 s e => by rw [h1]; exact .tup upd_same (.cons (rv_mono (s.trans (same_new e)) h7) (.cons (rv_mono (s.trans (same_new e)) h8) .nil))⟩⟩
/-- the items of a list, a tuple, a text -/
def itemsOf : DV → Option (List DV)
  | .node .lst xs => some xs
  | .node .tup xs => some xs
  | .str z => some (signsD z)
  | _ => none
theorem src_of {H : Hp} {v : V} {d : DV} {xs : List DV} (sd : Same D H) (r : Rv K D v d) (e : itemsOf d = some xs) : ∃ (A : SrcV) (vs : List V), SrcOf K H v A vs ∧ RvA K D vs xs ∧ ∀ H', Same D H' → A H' vs := by
  unfold itemsOf at e
  split at e
  · cases e
    obtain ⟨a, vs, rfl, h1, h2⟩ := rv_lst r
    exact ⟨_, vs, .lst (SqL.of (sd _ _ h1)), h2, fun H' s => SqL.of (s _ _ h1)⟩
  · cases e
    obtain ⟨a, vs, rfl, h1, h2⟩ := rv_tup r
    exact ⟨_, vs, .tup (SqT.of (sd _ _ h1)), h2, fun H' s => SqT.of (s _ _ h1)⟩
  · next z =>
    cases e
    rw [rv_str r]
    refine ⟨_, _, .str, ?_, fun _ _ => rfl⟩
    unfold signsD
    induction z.cps.toList with
    | nil => exact .nil
    | cons c t ih => exact .cons (.str _) ih
  · cases e
theorem it_enum {A : SrcV} {vs : List V} {ds : List DV} (hA : ∀ H', Same D H' → A H' vs) (h2 : RvA K D vs ds) : ItD K D (Itn A) (enumD ds) := by
  refine it_pair (n := vs.length) (by rw [enumD_len, rvA_len h2]) (walk_enumA.mono (fun H' e => hA H' e) fun _ _ _ _ _ _ y => y) fun i x y hi e1 e2 => ?_
  cases e1
  obtain ⟨d, h3, h4⟩ := rvA_get h2 e2
  exact ⟨_, _, enumD_at h3, .int _, h4⟩
end
section
variable {G : Gx} {X : Cx} {a b c e tg : Expr} {es : List Expr} {pos : Pos} {pa pb pc : PEt} {pt pu : PTt} {pl : PAt} {st : Stmt} {sts : List Stmt} {p q : PSt}
def pRange1 (pa : PEt) : PAt := fun ρ Q R => pa ρ (fun d ρ1 => match d with
  | .int j => -(2 ^ 62) ≤ j ∧ j < 2 ^ 62 ∧ Q (rangeD 0 j.toNat) ρ1
  | _ => False) R
theorem i_range1 {p : Pos} (hg : Gl X "range") (hm : X.mg "range" = none) (ha : DE G X a pa) (hs : starEach [a] X.env = [(false, eval a X.env)] := by rfl) (hs' : starEach [a] X.env = (false, eval a X.env) :: starEach [] X.env := by rfl) : DI G X tg (.Call (.Name "range" p) [a] [] pos) (pRange1 pa) := by
  refine ⟨_, pi_range1 hg hm (pa_cons ha.run pa_nil hs') hs, fun F D σ H ρ Q R k rel hp hx cont => ?_⟩
  refine simE_l F D σ H ρ _ R _ rel hp hx fun d ρ1 D1 v H1 e1 r1 q1 hp1 => ?_
  split at hp1
  · exact ⟨_, by rw [rv_int q1], hp1.1, hp1.2.1, cont _ ρ1 D1 H1 _ e1 r1 it_range hp1.2.2⟩
  · exact hp1.elim
def pEnum (pa : PEt) : PAt := fun ρ Q R => pa ρ (fun d ρ1 => match itemsOf d with
  | some xs => Q (enumD xs) ρ1
  | none => False) R
theorem i_enum {p tpos : Pos} {elts : List Expr} {kk : Nat} (hg : Gl X "enumerate") (hm : X.mg "enumerate" = none) (ha : DE G X a pa) (hs : starEach [a] X.env = [(false, eval a X.env)] := by rfl) (hs' : starEach [a] X.env = (false, eval a X.env) :: starEach [] X.env := by rfl) (hK : X.K = G.K := by rfl) :
    DI G X (.Tuple elts kk tpos) (.Call (.Name "enumerate" p) [a] [] pos) (pEnum pa) := by
  refine ⟨_, pi_enumA G.K hg hm (pa_cons ha.run pa_nil hs') hK hs, fun F D σ H ρ Q R k rel hp hx cont => ?_⟩
  refine simE_l F D σ H ρ _ R _ rel hp hx fun d ρ1 D1 v H1 e1 r1 q1 hp1 => ?_
  split at hp1
  · next xs ex =>
    obtain ⟨A, vs, h1, h2, h3⟩ := src_of r1.same q1 ex
    exact ⟨v, A, vs, rfl, h1, cont _ ρ1 D1 H1 _ e1 r1 (it_enum h3 h2) hp1⟩
  · exact hp1.elim
theorem ItD.turn {F : List (Addr × HO)} {D0 D H1 H2 : Hp} {σ : L2.St} {ρ : Ps} {J : It} {ds : List DV} {Y : Nat → Hp → V → Hp → Prop} {i : Nat} {x : V}
    (h : ∀ i x H1 H2, i < ds.length → Same D0 H1 → Y i H1 x H2 → ∃ d, ds[i]? = some d ∧ ((H2 = H1 ∧ Rv G.K D0 x d) ∨ ∃ T o, x = .ref T ∧ H1 T = none ∧ H2 = upd H1 T o ∧ ∀ D1, Same D0 D1 → D1 T = none → Rv G.K (upd D1 T o) x d))
    (hi : i < ds.length) (y : Y i H1 x H2) (sm : Same D0 D) (rel : Rel G F D σ H1 ρ) : ∃ d D', ds[i]? = some d ∧ Same D D' ∧ Rel G F D' σ H2 ρ ∧ Rv G.K D' x d := by
  obtain ⟨d, h1, h2⟩ := h i x H1 H2 hi (sm.trans rel.same) y
  rcases h2 with ⟨e, r⟩ | ⟨T, o, e1, e2, e3, r⟩
  · subst e
    exact ⟨d, D, h1, Same.refl D, rel, rv_mono sm r⟩
  · subst e3
    exact ⟨d, upd D T o, h1, rel.newS e2, rel.new e2, r D sm (rel.same.free e2)⟩
def pFor (pi : PAt) (pg : PGt) (pb : PSt) : PSt := fun E ρ => pi ρ (fun ds ρ1 => ∃ I : Nat → Ps → Prop, I 0 ρ1 ∧
  (∀ i d ρ2, ds[i]? = some d → I i ρ2 → pg d ρ2 fun ρ3 => pb { E with nx := Wk (I (i + 1)), ct := Wk (I (i + 1)), bk := E.nx } ρ3) ∧ ∀ ρ2, I ds.length ρ2 → E.nx ρ2) E.rs
theorem s_for {g : TG} {ks : List Nat} {pg : PGt} {pi : PAt} (hp : PassesOwn (model X.prog X.w) X.A X.env X.xe) (hc : X.calm = true) (hi : DI G X tg a pi) (hg : DG G X tg g ks pg) (hb : DSs G X sts p) (hs : ∀ x, foldedSetIterable a X.env x = pure x := by intro _; rfl) : DS G X (.For tg a sts [] pos) (pFor pi pg p) := by
  obtain ⟨wi, h1, s1⟩ := hi.ex
  refine DS.of (ps_for hp hc h1 hg.run hb.run hs) fun D σ H ρ Ep E rel hp ok hx => ?_
  refine s1 [] D σ H ρ _ Ep.rs _ rel hp hx fun ds ρ1 D1 H1 J e1 r1 it hp1 => ?_
  obtain ⟨I, i0, turn, fin⟩ := hp1
  obtain ⟨Y, w, hY⟩ := it.ex
  refine for_it w (fun i σ H => ∃ D2 ρ2, Same D1 D2 ∧ Rel G [] D2 σ H ρ2 ∧ I i ρ2) ⟨D1, ρ1, Same.refl D1, r1, i0⟩ ?_ ?_ ?_
  · rintro i σ H _ ⟨D2, ρ2, sm, r2, _⟩
    exact sm.trans r2.same
  · rintro i x σ H H' hi ⟨D2, ρ2, sm, r2, i2⟩ y
    obtain ⟨d, D3, h3, sm3, r3, rv3⟩ := ItD.turn (J := J) hY hi y sm r2
    refine hg.sim [] D3 σ H' ρ2 x d _ _ r3 rv3 (turn i d ρ2 h3 i2) fun ρ4 σ4 _ r4 h4 => ?_
    refine simS_l D3 σ4 H' ρ4 _ _ r4 h4 ⟨?_, ok.rt, fun D σ H ρ e => ok.nx D σ H ρ (((e1.trans sm).trans sm3).trans e), ?_⟩ hx
    · rintro D5 σ5 H5 ρ5 sm5 r5 ⟨sl, n, l, hn, h5⟩
      exact ⟨D5, _, (sm.trans sm3).trans sm5, r5.wk l hn, h5⟩
    · rintro D5 σ5 H5 ρ5 sm5 r5 ⟨sl, n, l, hn, h5⟩
      exact ⟨D5, _, (sm.trans sm3).trans sm5, r5.wk l hn, h5⟩
  · rintro σ H ⟨D2, ρ2, sm, r2, i2⟩
    exact ok.nx D2 σ H ρ2 (e1.trans sm) r2 (fin ρ2 i2)
def wipeP (sl : Sl) : List Nat → Sl
  | [] => sl
  | v :: vs => (wipeP sl vs).set v none
theorem wipe_none {σ : L2.St} : ∀ {vs : List Nat} {i : Nat}, i ∈ vs → (wipe σ vs)[i]? = none ∨ (wipe σ vs)[i]? = some none
  | v :: vs, i, h => by
    unfold wipe
    by_cases e : v = i
    · subst e
      rw [List.getElem?_set_self']
      cases (wipe σ vs)[v]? with
      | none => exact .inl rfl
      | some _ => exact .inr rfl
    · rw [List.getElem?_set_ne e]
      rcases List.mem_cons.mp h with h | h
      · exact absurd h.symm e
      · exact wipe_none h
theorem wipe_other {σ : L2.St} : ∀ {vs : List Nat} {i : Nat}, i ∉ vs → (wipe σ vs)[i]? = σ[i]?
  | [], i, _ => rfl
  | v :: vs, i, h => by
    unfold wipe
    rw [List.getElem?_set_ne (fun e => h (by rw [e]; exact List.mem_cons_self))]
    exact wipe_other fun z => h (List.mem_cons_of_mem _ z)
theorem wipe_eq {σ σ' : L2.St} {vs : List Nat} (hl : σ.length = σ'.length) (h : ∀ i, i ∉ vs → σ[i]? = σ'[i]?) : wipe σ vs = wipe σ' vs := by
  apply List.ext_getElem?
  intro i
  by_cases hi : i ∈ vs
  · have l1 := wipe_length σ vs
    have l2 := wipe_length σ' vs
    rcases wipe_none (σ := σ) hi with e1 | e1 <;> rcases wipe_none (σ := σ') hi with e2 | e2
    · rw [e1, e2]
    · have a := List.getElem?_eq_none_iff.mp e1
      have b := (List.getElem?_eq_some_iff.mp e2).1
      omega
    · have a := List.getElem?_eq_none_iff.mp e2
      have b := (List.getElem?_eq_some_iff.mp e1).1
      omega
    · rw [e1, e2]
  · rw [wipe_other hi, wipe_other hi, h i hi]
theorem RelB.wipe {F : List (Addr × HO)} {D H : Hp} {σ : L2.St} {ρ : Ps} (R : RelB G F D σ H ρ) : ∀ vs : List Nat, RelB G F D (wipe σ vs) H { ρ with sl := wipeP ρ.sl vs }
  | [] => R
  | v :: vs => (R.wipe vs).drop none
theorem wr_wipe {ks vs : List Nat} {σ σ' : L2.St} (h : Wr ks (wipe σ vs) σ') (hk : ∀ i ∈ ks, i ∈ vs) : wipe σ' vs = wipe σ vs := by
  refine (wipe_eq (h.1.trans (wipe_length σ vs)) fun i hi => ?_)
  rw [h.2 i fun z => hi (hk i z), wipe_other hi]
/-- slots of which nothing is said may hold anything -/
theorem rs_any {K : PySem.W.Frag} {D H H0 : Hp} {Fa : List Addr} : ∀ {σ σ' : L2.St} {sl : Sl} {as : List Addr}, Rs K D H H0 Fa σ sl as → σ'.length = σ.length → (∀ (i : Nat) (o : SV), sl[i]? = some (some o) → σ'[i]? = σ[i]?) → Rs K D H H0 Fa σ' sl as
  | _, σ', _, _, .nil, l, h => by
    cases σ' with
    | nil => exact .nil
    | cons _ _ => cases l
  | _, σ', _, _, .no r, l, h => by
    cases σ' with
    | nil => cases l
    | cons x t => exact .no (rs_any r (Nat.succ.inj l) fun i o e => by simpa using h (i + 1) o (by simpa using e))
  | _, σ', _, _, .val q r, l, h => by
    cases σ' with
    | nil => cases l
    | cons x t =>
      have e0 := Option.some.inj (h 0 _ rfl)
      subst e0
      exact .val q (rs_any r (Nat.succ.inj l) fun i o e => by simpa using h (i + 1) o (by simpa using e))
  | _, σ', _, _, .own ob d z y r, l, h => by
    cases σ' with
    | nil => cases l
    | cons x t =>
      have e0 := Option.some.inj (h 0 _ rfl)
      subst e0
      exact .own ob d z y (rs_any r (Nat.succ.inj l) fun i o e => by simpa using h (i + 1) o (by simpa using e))
theorem wipeP_none {sl : Sl} : ∀ {vs : List Nat} {i : Nat} {o : SV}, (wipeP sl vs)[i]? = some (some o) → i ∉ vs
  | [], i, o, _ => by simp
  | v :: vs, i, o, h => by
    unfold wipeP at h
    by_cases e : v = i
    · subst e
      rw [List.getElem?_set_self'] at h
      cases hh : (wipeP sl vs)[v]? with
      | none => rw [hh] at h; cases h
      | some _ => rw [hh] at h; cases h
    · rw [List.getElem?_set_ne e] at h
      intro hm
      rcases List.mem_cons.mp hm with z | z
      · exact e z.symm
      · exact wipeP_none h z
/-- the same state with other things in the block's own slots -/
theorem RelB.swap {F : List (Addr × HO)} {D H : Hp} {σ σ' : L2.St} {ρ : Ps} {vs : List Nat} (R : RelB G F D σ H ρ) (hl : σ'.length = σ.length) (h : ∀ i, i ∉ vs → σ'[i]? = σ[i]?) : RelB G F D σ' H { ρ with sl := wipeP ρ.sl vs } := by
  have R1 := R.wipe vs
  obtain ⟨as, r⟩ := R1.sl
  refine ⟨R1.st, ⟨as, rs_any r ?_ fun i o e => ?_⟩, R1.fr, R1.pen, R1.ph, R1.nt⟩
  · rw [hl]
    exact (wipe_length σ vs).symm
  · have hi := wipeP_none e
    rw [h i hi, wipe_other hi]
def LcIn (vs : List Nat) (pg : PGt) (pt : PTt) (pe : PEt) (Q : List DV → Ps → Prop) (ds : List DV) (ρ1 : Ps) : Prop := ∃ I : Nat → List DV → Ps → Prop, I 0 [] ρ1 ∧
  (∀ i d acc ρ2, ds[i]? = some d → I i acc ρ2 → pg d { ρ2 with sl := wipeP ρ2.sl vs } fun ρ3 => pt ρ3 (fun b ρ4 => if b = true then
    pe ρ4 (fun y ρ5 => acc.length < sizeLine ∧ Wk (I (i + 1) (acc ++ [y])) { ρ5 with sl := wipeP ρ5.sl vs }) fun _ _ => False
    else Wk (I (i + 1) acc) { ρ4 with sl := wipeP ρ4.sl vs }) fun _ _ => False) ∧
  ∀ acc ρ2, I ds.length acc ρ2 → Q acc { ρ2 with sl := wipeP ρ2.sl vs }
def pLc (vs : List Nat) (pi : PAt) (pg : PGt) (pt : PTt) (pe : PEt) : PAt := fun ρ Q R => pi ρ (LcIn vs pg pt pe Q) R
theorem ex_never {G : Gx} : ExOk G fun _ _ => False := ⟨fun _ _ _ _ _ _ _ _ _ _ _ r => r.elim⟩
def pYes : PTt := fun ρ Q _ => Q true ρ
theorem simT_yes : SimT G tYes pYes := fun F D σ H ρ Q R k rel hp hx cont => cont true ρ D H (Same.refl D) rel hp
theorem sim_lc {vs : List Nat} {pi : PAt} {g : TG} {ks : List Nat} {pg : PGt} {wi : TI} {tt : TT} {te : TE} {pe : PEt} (si : SimI G wi pi) (sg : SimG G g ks pg) (hk : ∀ i ∈ ks, i ∈ vs) (st : SimT G tt pt) (se : SimE G te pe) : SimF G (tLc wi g tt te vs) (pLc vs pi pg pt pe) := by
  intro F D σ H ρ Q R k rel hp hx cont
  refine si F D σ H ρ _ R _ rel hp hx fun ds ρ1 D1 H1 J e1 r1 it hp1 => ?_
  obtain ⟨I, i0, turn, fin⟩ := hp1
  obtain ⟨Y, w, hY⟩ := it.ex
  intro L hL
  have nf := r1.fresh hL
  refine lc_it w (fun i H' => ∃ D2 ρ2 acc vs', Same D1 D2 ∧ Rel G ((L, .lst vs') :: F) D2 σ H' ρ2 ∧ RvA G.K D2 vs' acc ∧ I i acc ρ2) ⟨D1, ρ1, [], [], Same.refl D1, r1.push hL, .nil, i0⟩ ?_ ?_ ?_
  · rintro i H' _ ⟨D2, ρ2, acc, vs', sm, r2, _⟩
    exact sm.trans r2.same
  · rintro i x H2 H3 hi ⟨D2, ρ2, acc, vs', sm, r2, ra, i2⟩ y
    obtain ⟨d, D3, h3, sm3, r3, rv3⟩ := ItD.turn (J := J) hY hi y sm r2
    refine sg _ D3 _ H3 _ x d _ _ (r3.wipe vs) rv3 (turn i d acc ρ2 h3 i2) fun ρ4 σ4 w4 r4 h4 => ?_
    have ew := wr_wipe w4 hk
    have back : ∀ {D5 H5 : Hp} {ρ5 : Ps} {o5 : HO}, Rel G ((L, o5) :: F) D5 σ4 H5 ρ5 → Rel G ((L, o5) :: F) D5 σ H5 { ρ5 with sl := wipeP ρ5.sl vs } := fun {D5 H5 ρ5 o5} r5 => by
      refine r5.swap ?_ fun i hi => ?_
      · rw [w4.1]
        exact (wipe_length σ vs).symm
      · rw [w4.2 i (fun z => hi (hk i z)), wipe_other hi]
    refine ⟨ew, ?_⟩
    refine st _ D3 σ4 H3 ρ4 _ (fun _ _ => False) _ r4 h4 ex_never fun b ρ5 D5 H5 sm5 r5 h5 => ?_
    cases b with
    | true =>
      refine iteT ?_
      refine se _ D5 σ4 H5 ρ5 _ (fun _ _ => False) _ r5 h5 ex_never fun y ρ6 D6 v6 H6 sm6 r6 q6 h6 => ?_
      obtain ⟨hz, sl, n, l, hn, h7⟩ := h6
      have ra6 := rvA_mono ((sm3.trans sm5).trans sm6) ra
      refine ⟨vs', r6.top, by rw [rvA_len ra]; exact hz, D6, _, _, vs' ++ [v6], ((sm.trans sm3).trans sm5).trans sm6, (((back r6).poke nf).wk l hn), rvA_app ra6 (rvA_one q6), h7⟩
    | false =>
      obtain ⟨sl, n, l, hn, h7⟩ := (show Wk (I (i + 1) acc) _ from h5)
      exact iteF ⟨D5, _, acc, vs', (sm.trans sm3).trans sm5, ((back r5).wk l hn), rvA_mono (sm3.trans sm5) ra, h7⟩
  · rintro H' ⟨D2, ρ2, acc, vs', sm, r2, ra, i2⟩
    exact cont acc _ D2 vs' H' L (e1.trans sm) (r2.swap rfl fun _ _ => rfl) nf ra (fin acc ρ2 i2)
abbrev Gx.nox (G : Gx) : Gx := { G with E := fun _ _ _ => False }
theorem f_lc {elt : Expr} {ifs : List Expr} {scope : Scope} {own : List (Str × Nat)} {pi : PAt} {g : TG} {ks : List Nat} {pg : PGt} {tt : TT} {pe : PEt} (hc : X.calm = true) (hN : X.N.Nodup) (hi : DI G X tg a pi) (ok : BlkOk X.N X.env.scope scope own)
    (hg : ∀ (s : Shared) (H : Hp) (C : Addr) (cl : List (Str × Addr)) (fp : List Addr), DG G (X.blk s H scope (compEnvC scope cl C X.env) fp) tg g ks pg) (hk : ∀ i ∈ ks, i ∈ own.map (·.2))
    (ht : ∀ (s : Shared) (H : Hp) (C : Addr) (cl : List (Str × Addr)) (fp : List Addr), PTs (X.blk s H scope (compEnvC scope cl C X.env) fp) ifs tt) (st : SimT G tt pt)
    (he : ∀ (s : Shared) (H : Hp) (C : Addr) (cl : List (Str × Addr)) (fp : List Addr), DE G (X.blk s H scope (compEnvC scope cl C X.env) fp) elt pe) (hs : ∀ x, foldedSetIterable a X.env x = pure x := by intro _; rfl) :
    DF G X (.ListComp elt [⟨tg, a, ifs, 0⟩] scope pos) (pLc (own.map (·.2)) pi pg pt pe) := by
  obtain ⟨wi, h1, s1⟩ := hi.ex
  have d0 : SimG G g ks pg := (hg X.s_0 X.H_0 X.env.locals [] []).sim
  exact DF.of (pe_lc hc hN h1 ok (fun s H C cl fp => (hg s H C cl fp).run) ht (fun s H C cl fp => (he s H C cl fp).run) hs) (sim_lc s1 d0 hk st simE_l)
end
end Rg

set_option Elab.async false
set_option linter.all false
set_option maxRecDepth 100000
set_option maxHeartbeats 2000000
namespace Rg
open PySem PySem.Spec PyProof.Rows L2
section
variable {G : Gx} {X : Cx} {a b c e tg : Expr} {es : List Expr} {pos : Pos} {pa pb pc : PEt} {pt pu : PTt} {pl : PAt} {st : Stmt} {sts : List Stmt} {p q : PSt}
section
variable {i : Nat} {y : Str} {py spos : Pos} {elt : Expr} {ifs : List Expr} {scope : Scope} {own : List (Str × Nat)} {pi : PAt} {g : TG} {ks : List Nat} {pg : PGt} {tt : TT} {pe : PEt}
variable {kx vx : Expr} {pk pv : PEt}
end
end
def startP (N : List Str) (ds : List DV) : Sl := ds.map (fun d => some (.val d)) ++ List.replicate (N.length - ds.length) none
theorem rs_start {K : PySem.W.Frag} {D H H0 : Hp} {vs : List V} {ds : List DV} (h : RvA K D vs ds) (m : Nat) : Rs K D H H0 [] (vs.map some ++ List.replicate m none) (ds.map (fun d => some (.val d)) ++ List.replicate m none) [] := by
  have z : ∀ m : Nat, Rs K D H H0 [] (List.replicate m none) (List.replicate m none) [] := by
    intro m
    induction m with
    | zero => exact .nil
    | succ m ih => exact .no ih
  match vs, ds, h with
  | _, _, .nil => exact z m
  | _, _, .cons a b => exact .val a (rs_start b m)
theorem rel_start {K : PySem.W.Frag} {pn : Option Addr} {D H : Hp} {E : XK} {N : List Str} {vs : List V} {ds : List DV} {n : Nat} (sd : Same D H) (ph : ∀ p, pn = some p → H p ≠ none) (h : RvA K D vs ds) (pen : PenOk K D H pn n) : Rel ⟨K, pn, D, H, E, []⟩ [] D (L2.start N vs) H ⟨startP N ds, n⟩ := by
  refine ⟨StepT.refl sd, ⟨[], ?_⟩, fun p hp => by simp at hp, pen, ph, fun p hp => by simp at hp⟩
  unfold L2.start startP
  rw [rvA_len h]
  exact rs_start h _
def ends (Qd : DV → Nat → Prop) (R : PR) : PEnds := { nx := fun ρ => Qd .non ρ.ink, rt := Qd, rs := R }
section
variable {P : Program} {w : World} {K : PySem.W.Frag} {mg : Str → Option Value} {base : Heap}
variable {CX : CXT} {x qual : Str} {params : Arguments} {body : List Stmt} {scope : Scope} {dvs : List V} {kws : List (Str × V)} {f : Addr} {fd : FuncData} {N ps : List Str} {k : Nat} {Fn : PFn}
theorem p_run {pn : Option Addr} {D H : Hp} {E : XK} {vs : List V} {ds : List DV} {n : Nat} {Qd : DV → Nat → Prop} {R : PR} {Q : VK} {pp : PSt} (sd : Same D H) (ph : ∀ p, pn = some p → H p ≠ none) (h : RvA K D vs ds) (pen : PenOk K D H pn n)
    (post : ∀ D' H' v d n', StepT K (Wn pn) D H D' H' → Rv K D' v d → PenOk K D' H' pn n' → Qd d n' → Q v H') (ex : ExOk ⟨K, pn, D, H, E, []⟩ R) (hp : pp (ends Qd R) ⟨startP N ds, n⟩) :
    lS ⟨K, pn, D, H, E, []⟩ pp { nx := fun _ H' => Q .non H', rt := Q } (L2.start N vs) H :=
  ⟨D, _, ends Qd R, rel_start sd ph h pen, hp, ⟨fun D' σ' H' ρ' _ rel q => post D' H' _ _ _ rel.st .non rel.pen q, fun D' H' v d n' s pk rv q => post D' H' v d n' s rv pk q, fun _ _ _ _ _ _ z => z.elim, fun _ _ _ _ _ _ z => z.elim⟩, ex⟩
theorem ok_p (F : FunD K x qual params body scope dvs kws f fd) (S : FnScope N ps scope) (len : ∀ pn ds n Q R, Fn pn ds n Q R → ds.length = ps.length)
    (hbody : ∀ (cdv : Value) (A : Around) (outer : List Env) (s : Shared) (pn : Option Addr) (D H : Hp) (E : XK) (ds : List DV) (n : Nat) (Qd : DV → Nat → Prop) (R : PR), Room k (A.deeper (envOfC qual scope s.heap.objs.size f cdv)) → Fn pn ds n Qd R →
      ∃ pp, DSs ⟨K, pn, D, H, E, []⟩ (cxOf CX P w K mg base N qual scope f cdv A outer s H E) body pp ∧ pp (ends Qd R) ⟨startP N ds, n⟩) : FnOk P w K mg base CX (k + 1) f fd ps (spP K Fn) := by
  refine F.ok S (fun vs H Q E h => ?_) (fun cdv A outer s H vs Q E hr h => ?_)
  · obtain ⟨D, pn, ds, n, Qd, R, _, _, rv, _, hf, _⟩ := h
    rw [rvA_len rv]
    exact len _ _ _ _ _ hf
  · obtain ⟨D, pn, ds, n, Qd, R, sd, ph, rv, pen, hf, post, ex⟩ := h
    obtain ⟨pp, dv, hp⟩ := hbody cdv A outer s pn D H E ds n Qd R hr hf
    exact ⟨_, dv.run, p_run sd ph rv pen post ex hp⟩
theorem ok_pG (F : FunD K x qual params body scope dvs kws f fd) (S : FnScope N ps scope) (len : ∀ pn ds n Q R, Fn pn ds n Q R → ds.length = ps.length)
    (hbody : ∀ (cdv : Value) (A : Around) (outer : List Env) (s : Shared) (pn : Option Addr) (D H : Hp) (E : XK) (ds : List DV) (n : Nat) (Qd : DV → Nat → Prop) (R : PR), Room k (A.deeper (envOfC qual scope s.heap.objs.size f cdv)) → A.guards = some [] → Fn pn ds n Qd R →
      ∃ pp, DSs ⟨K, pn, D, H, E, []⟩ (cxOf CX P w K mg base N qual scope f cdv A outer s H E) body pp ∧ pp (ends Qd R) ⟨startP N ds, n⟩) : FnG P w K mg base CX (k + 1) f fd ps (spP K Fn) := by
  refine FunD.okG F S (fun vs H Q E h => ?_) (fun cdv A outer s H vs Q E hr hG h => ?_)
  · obtain ⟨D, pn, ds, n, Qd, R, _, _, rv, _, hf, _⟩ := h
    rw [rvA_len rv]
    exact len _ _ _ _ _ hf
  · obtain ⟨D, pn, ds, n, Qd, R, sd, ph, rv, pen, hf, post, ex⟩ := h
    obtain ⟨pp, dv, hp⟩ := hbody cdv A outer s pn D H E ds n Qd R hr hG hf
    exact ⟨_, dv.run, p_run sd ph rv pen post ex hp⟩
/-- several ways to say where a block runs -/
theorem pss_ex {X : Cx} {sts : List Stmt} {ι : Type} {t : ι → TS} (h : ∀ i, PSs X sts (t i)) : PSs X sts (fun E σ H => ∃ i, t i E σ H) := ⟨fun pins s σ H E I ⟨i, q⟩ => (h i).run pins s σ H E I q⟩
end
def fnDraw : PFn := fun pn ds n Q _ => ∃ (p : Addr) (m : Int), pn = some p ∧ ds = [.raw (.ref p), .int m] ∧ 1 ≤ n ∧ 1 ≤ m ∧ m < 1000000 ∧ ∀ r : Int, 0 ≤ r → r < m → Q (.int r) (n - 1)
theorem imp_draw {K : PySem.W.Frag} (vs : List V) (H : Hp) (Q : VK) (E : XK) (h : spP K fnDraw vs H Q E) : spDraw K vs H Q E := by
  obtain ⟨D, pn, ds, n, Qd, R, sd, ph, rv, pen, ⟨p, m, rfl, rfl, hn, h1, h2, hq⟩, post, _⟩ := h
  obtain ⟨v, w, rfl, r1, r2⟩ := rvA2 rv
  have e1 := rv_raw r1
  have e2 := rv_int r2
  subst e1 e2
  refine ⟨D, p, m, n - 1, rfl, sd, ?_, h1, h2, fun H' r st pk r0 r1 => ?_⟩
  · have := pen p rfl
    rw [show n - 1 + 1 = n by omega]
    exact this
  · exact post D H' _ _ (n - 1) (st.t.mono fun b e => by rw [e]) (.int r) (fun q e => by cases e; exact pk) (hq r r0 r1)
end Rg

set_option Elab.async false
set_option linter.all false
set_option maxRecDepth 100000
set_option maxHeartbeats 2000000
namespace Rg
open PySem PySem.Spec PyProof.Rows L2
section
variable {G : Gx} {X : Cx} {a b c e tg : Expr} {es : List Expr} {pos : Pos} {pa pb pc : PEt} {pt pu : PTt} {pl : PAt} {st : Stmt} {sts : List Stmt} {p q : PSt}
def iAnyI (K : PySem.W.Frag) (tl : TE) : TI := fun σ H R => tl σ H fun x H1 => (∃ a, x = .ref a ∧ SeqR K a R H1) ∨ ∃ z, x = .str z ∧ R (Its z) H1
theorem pi_any {tl : TE} (hl : PE X a tl) : PI X tg a (iAnyI X.K tl) := by
  constructor
  intro pins s σ H R I h
  refine thn (hl.run pins s σ H _ I h) ?_
  rintro v s1 ⟨x, H1, I1, r1, q⟩
  have fp : ∀ b ∈ [s1.heap.objs.size], FpOk X pins H1 b := fun b hb => by
    obtain rfl : b = s1.heap.objs.size := by simpa using hb
    exact I1.fpOk (Nat.le_refl _) (I1.hok.fresh (Nat.le_refl _))
  have kp : ∀ ob : Obj, Inv X pins σ H1 { s1 with heap := s1.heap.push ob } := fun ob => I1.kept (t' := s1.toks) fun b o e => Heap.get?_push_of_some _ e
  rcases q with ⟨a, rfl, q⟩ | ⟨z, rfl, q⟩
  · obtain rfl := r1
    rcases q with ⟨⟨xs, hq⟩, q⟩ | ⟨⟨xs, hq⟩, q⟩
    · obtain ⟨its, rv, p, hz⟩ := I1.list hq
      exact wpAny_pyIter_list p.isList ⟨_, [s1.heap.objs.size], _, _, H1, rfl, kp _, turn_list a _, ⟨_, Heap.get?_push_size _ rfl, rfl, rfl⟩, fp, q⟩
    · obtain ⟨its, rv, p, hz⟩ := I1.tuple hq
      exact wpAny_pyIter_tuple (show s1.heap.IsTuple a its.toArray from p) ⟨_, [s1.heap.objs.size], _, _, H1, rfl, kp _, turn_tuple a _, ⟨_, Heap.get?_push_size _ rfl, rfl, rfl⟩, fp, q⟩
  · obtain ⟨t, rfl⟩ := r1
    cases ha : z.cps.all (· < 128)
    · exact wpAny_pyIter_wide ha (pi_one (tk := s1.toks) I1 _ (turn_str _ z t "str_iterator" (.inr rfl)) ⟨_, Heap.get?_push_size _ rfl, rfl, rfl⟩ q)
    · exact wpAny_pyIter_ascii ha (pi_one (tk := s1.toks) I1 _ (turn_str _ z t "str_ascii_iterator" (.inl rfl)) ⟨_, Heap.get?_push_size _ rfl, rfl, rfl⟩ q)
def pAny (pa : PEt) : PAt := fun ρ Q R => pa ρ (fun d ρ1 => match itemsOf d with
  | some xs => Q xs ρ1
  | none => False) R
theorem i_any (ha : DE G X a pa) (hK : X.K = G.K := by rfl) : DI G X tg a (pAny pa) := by
  refine ⟨_, (hK ▸ pi_any ha.run : PI X tg a (iAnyI G.K (lE G pa))), fun F D σ H ρ Q R k rel hp hx cont => ?_⟩
  refine simE_l F D σ H ρ _ R _ rel hp hx fun d ρ1 D1 v H1 e1 r1 q1 hp1 => ?_
  split at hp1
  · next xs ex =>
    unfold itemsOf at ex
    split at ex
    · cases ex
      obtain ⟨p, vs, rfl, h1, h2⟩ := rv_lst q1
      exact .inl ⟨p, rfl, .inl ⟨⟨vs, SqL.of (r1.same _ _ h1)⟩, cont _ ρ1 D1 H1 _ e1 r1 (it_list h1 h2) hp1⟩⟩
    · cases ex
      obtain ⟨p, vs, rfl, h1, h2⟩ := rv_tup q1
      exact .inl ⟨p, rfl, .inr ⟨⟨vs, SqT.of (r1.same _ _ h1)⟩, cont _ ρ1 D1 H1 _ e1 r1 (it_tup h1 h2) hp1⟩⟩
    · cases ex
      exact .inr ⟨_, rv_str q1, cont _ ρ1 D1 H1 _ e1 r1 it_str hp1⟩
    · cases ex
  · exact hp1.elim
theorem b_mul : BinD G X (binaryOp .Mult) oMul := by
  refine ⟨_, OpR.or op_mul op_rep, fun F D σ H ρ x y a b Q k rel ra rb ho cont => ?_⟩
  unfold oMul at ho
  split at ho
  · exact .inl ⟨_, _, rv_int ra, rv_int rb, ho.1, cont _ _ D H (Same.refl D) rel (.int _) ho.2⟩
  · obtain ⟨p, vs, rfl, h1, h2⟩ := rv_lst ra
    refine .inr ⟨p, _, vs, rfl, rv_int rb, rel.same _ _ h1, ho.1, ho.2.1, by rw [rvA_len h2]; exact ho.2.2.1, fun l hl => ?_⟩
    exact cont _ _ _ _ (rel.newS hl) (rel.new hl) (.lst upd_same (rvA_mono (rel.newS hl) (rvA_rep h2 _))) ho.2.2.2
  · exact ho.elim
theorem s_par {i j : Nat} {x y : Str} {px py pt' : Pos} {kt k2 : Nat} {pt2 : Pos} (hc : X.calm = true) (hN : X.N.Nodup) (hi : X.N[i]? = some x) (hj : X.N[j]? = some y) (hij : i ≠ j)
    (hx : X.env.scope.names.lookup x = some .local) (hy : X.env.scope.names.lookup y = some .local) (ha : DA G X [a, b] pl)
    (hw : swappedStores [.Tuple [.Name x px, .Name y py] kt pt'] (.Tuple [a, b] k2 pt2) X.env = pure (some [x, y]))
    (hs : swapsWithSole [.Tuple [.Name x px, .Name y py] kt pt'] (.Tuple [a, b] k2 pt2) pos.line X.env = pure false := by rfl) :
    DS G X (.Assign [.Tuple [.Name x px, .Name y py] kt pt'] (.Tuple [a, b] k2 pt2) pos) (pPar i j pl) :=
  DS.of (ps_par hc hN hi hj hij hx hy ha.run hw hs) sim_par
end
end Rg

set_option Elab.async false
set_option linter.all false
set_option maxRecDepth 100000
set_option maxHeartbeats 2000000
namespace Rg
open PySem PySem.Spec PyProof.Rows L2
section
variable {G : Gx} {X : Cx} {a b c e tg : Expr} {es : List Expr} {pos : Pos} {pa pb pc pk pv : PEt} {pt pu : PTt} {pl : PAt} {st : Stmt} {sts : List Stmt} {p q : PSt}
end
end Rg

set_option Elab.async false
set_option linter.all false
set_option maxRecDepth 100000
set_option maxHeartbeats 2000000
namespace Rg
open PySem PySem.Spec PyProof.Rows L2
/-- what an __init__ makes of its arguments: the values of the fields -/
abbrev NFn := Option Addr → List DV → Nat → (List DV → Nat → Prop) → PR → Prop
def Wx (pn : Option Addr) (x : Addr) : Addr → Prop := fun b => b = x ∨ Wn pn b
/-- without the object at x -/
def offX (x : Addr) (H : Hp) : Hp := fun b => if b = x then none else H b
theorem offX_ne {x b : Addr} {H : Hp} (h : b ≠ x) : offX x H b = H b := if_neg h
theorem offX_eq {x : Addr} {H : Hp} : offX x H x = none := if_pos rfl
theorem offX_at {x b : Addr} {H : Hp} {o : HO} (h : offX x H b = some o) : b ≠ x ∧ H b = some o := by
  by_cases q : b = x
  · rw [q, offX_eq] at h
    cases h
  · exact ⟨q, by rwa [offX_ne q] at h⟩
theorem offX_new {x : Addr} {H : Hp} {o : HO} (h : H x = none) : offX x (upd H x o) = H := by
  funext b
  by_cases q : b = x
  · rw [q, offX_eq, h]
  · rw [offX_ne q, upd_ne q]
theorem offX_there {x b : Addr} {H : Hp} (h : offX x H b ≠ none) : b ≠ x ∧ H b ≠ none := by
  cases e : offX x H b with
  | none => exact absurd e h
  | some o =>
    obtain ⟨h1, h2⟩ := offX_at e
    exact ⟨h1, by rw [h2]; exact fun z => nomatch z⟩
theorem StepT.offX {K : PySem.W.Frag} {W : Addr → Prop} {D H D1 H1 : Hp} {x : Addr} (s : StepT K W D H D1 H1) : StepT K W D (offX x H) D1 H1 :=
  ⟨s.dd, s.dh, fun b o hb n e => s.kq b o hb n (offX_at e).2, fun b e => s.ns b (offX_there e).2, fun b e => s.fr b (offX_there e).2, fun b hb t => s.tb b hb (by
    obtain ⟨h0, ps, h, r⟩ := t
    exact ⟨h0, ps, (offX_at h).2, r⟩)⟩
structure ExOkX (x : Addr) (G : Gx) (R : PR) : Prop where
  ok : ∀ (D H : Hp) (e : Exn) (n : Nat) (d : Addr) (ps : List (Str × V)), StepT G.K (Wx G.pn x) G.D0 (offX x G.H0) D H → PenOk G.K D H G.pn n → D d = some (.xd ps) → ps.map (·.1) = e.2.1 → RvA G.K D (ps.map (·.2)) e.2.2 → R e n → G.E (.ref (He.ga G.K e.1)) (some d) H
theorem ExOkX.ex {x : Addr} {G : Gx} {R : PR} (h : ExOkX x G R) : ExOk G R := ⟨fun D H e n d ps s => h.ok D H e n d ps (s.offX.mono fun b z => .inr z)⟩
theorem exX_never {x : Addr} {G : Gx} : ExOkX x G fun _ _ => False := ⟨fun _ _ _ _ _ _ _ _ _ _ _ r => r.elim⟩
theorem stepX_back {K : PySem.W.Frag} {pn : Option Addr} {x dx : Addr} {o o2 : HO} {D1 H1 D' H' : Hp} (hx0 : H1 x = none) (hd : H1 dx = none) (ne : dx ≠ x) (sm : Same D1 H1) (s : StepT K (Wx pn x) D1 (offX x (upd (upd H1 dx o) x o2)) D' H') : StepT K (Wn pn) D1 H1 D' H' := by
  rw [offX_new (by rw [upd_ne (Ne.symm ne)]; exact hx0)] at s
  exact ((((Step.tmp sm hd).any (W := Wx pn x)).t).trans s).fresh fun b z => z.elim (fun e' => .inr (by rw [e']; exact hx0)) .inl
theorem exX_from {G : Gx} {R : PR} {x dx : Addr} {o o2 : HO} {D1 H1 : Hp} (h : ExOk G R) (s0 : StepT G.K (Wn G.pn) G.D0 G.H0 D1 H1) (hx0 : H1 x = none) (hd : H1 dx = none) (ne : dx ≠ x) (sm : Same D1 H1) : ExOkX x ⟨G.K, G.pn, D1, upd (upd H1 dx o) x o2, G.E, []⟩ R :=
  ⟨fun D' H' e n d ps s pen hk' hk rv hr => h.ok D' H' e n d ps (s0.trans (stepX_back hx0 hd ne sm s)) pen hk' hk rv hr⟩
def spNew (K : PySem.W.Frag) (C : Str) (fs : List Str) (Fn : NFn) : Sp := fun vs H Q E => ∃ (D : Hp) (pn : Option Addr) (x dx : Addr) (us : List V) (ds : List DV) (n : Nat) (Qd : List DV → Nat → Prop) (R : PR), vs = .ref x :: us ∧ Same D H ∧ (∀ p, pn = some p → H p ≠ none ∧ p ≠ x) ∧ D x = none ∧ H x = some (.ins (He.ga K C) dx []) ∧ RvA K D us ds ∧ PenOk K D H pn n ∧ Fn pn ds n Qd R ∧
  (∀ D' H' dxe zs es n', StepT K (Wx pn x) D H D' H' → D' x = none → H' x = some (.ins (He.ga K C) dxe (fs.zip zs)) → fs.length = zs.length → RvA K D' zs es → PenOk K D' H' pn n' → Qd es n' → Q .non H') ∧ ExOkX x ⟨K, pn, D, H, E, []⟩ R
section
variable {G : Gx} {X : Cx} {a b c e tg : Expr} {es : List Expr} {pos p : Pos} {pa pb pc : PEt} {pl : PAt} {x : Str}

def pMake (C : Str) (fs : List Str) (Fn : List DV → Nat → (List DV → Nat → Prop) → PR → Prop) (pl : PAt) : PEt := fun ρ Q R => pl ρ (fun ds ρ1 => Fn ds ρ1.ink (fun zs n => Q (.node (.ins C fs) zs) { ρ1 with ink := n }) R) R
theorem rv_isC0 {K : PySem.W.Frag} {D : Hp} {C : Str} {v : V} {d : DV} (h : Rv K D v d) (hc : isC C d = true) : ∃ a dx fs, v = .ref a ∧ D a = some (.ins (He.ga K C) dx fs) := by
  cases h with
  | @ins a dx B fs vs ds h1 h2 h3 =>
    have e1 : B = C := of_decide_eq_true hc
    subst e1
    exact ⟨a, dx, _, rfl, h1⟩
  | _ => cases hc
/-- what may stand on the other side of a comparison -/
structure OthD (K : PySem.W.Frag) (C : Addr) (ok : DV → Bool) : Prop where
  ty : ∀ {D H : Hp} {v : V} {d : DV}, Same D H → Rv K D v d → ok d = true → ∃ t, TyX K H v t ∧ PySem.W.notFirst K C t = true
def pCmpO (C : Str) (ok : DV → Bool) (Fn : List DV → Nat → (DV → Nat → Prop) → PR → Prop) (pa pb : PEt) : PEt := fun ρ Q R => pa ρ (fun d ρ1 => pb ρ1 (fun d2 ρ2 => isC C d = true ∧ ok d2 = true ∧ Fn [d, d2] ρ2.ink (fun z n => Q z { ρ2 with ink := n }) R) R) R
theorem sim_cmpO {CX : CXT} {k j : Nat} {C : Str} {Fn : PFn} {ok : DV → Bool} {ta tb : TE} (o : OthD G.K (He.ga G.K C) ok) (sa : SimE G ta pa) (sb : SimE G tb pb) : SimE G (tOp (rCmpO G.K (He.ga G.K C) (spP G.K Fn) G.E) ta tb) (pCmpO C ok (Fn G.pn) pa pb) := by
  intro F D σ H ρ Q R k rel hp hx cont
  refine sa F D σ H ρ _ R _ rel hp hx fun d ρ1 D1 v H1 e1 r1 q1 hp1 => ?_
  refine sb F D1 σ H1 ρ1 _ R _ r1 hp1 hx fun d2 ρ2 D2 v2 H2 e2 r2 q2 hp2 => ?_
  obtain ⟨h1, h2, hp2⟩ := hp2
  obtain ⟨p1, dx, fs, rfl, h3⟩ := rv_isC0 q1 h1
  obtain ⟨t, h4, h5⟩ := o.ty r2.same q2 h2
  exact ⟨p1, dx, fs, t, rfl, (e2.trans r2.same) _ _ h3, h4, h5, sp_of r2 (.cons (rv_mono e2 q1) (.cons q2 .nil)) hp2 hx fun d ρ' D' v H' s r q h => cont d ρ' D' v H' ((e1.trans e2).trans s) r q h⟩
theorem d_cmpO {CX : CXT} {k j : Nat} {C m : Str} {Fn : PFn} {ok : DV → Bool} {op : CmpOp} (c : MetX X.prog X.w X.K X.mg X.base CX k (He.ga G.K C) m (spP G.K Fn)) (o : OthD G.K (He.ga G.K C) ok) (hr : Room j X.A) (hk : k ≤ j) (hx : Passes CX X G.E) (ha : DE G X a pa) (hb : DE G X b pb) (hm : behindInMarks op b = false)
    (hop : ∀ a b, compareOp op a b = richCompare op a b := by intro _ _; rfl) (hn : (cmpInfo op).2.1 = m := by decide +kernel) (hK : X.K = G.K := by rfl) : DE G X (.Compare a [op] [b] pos) (pCmpO C ok (Fn G.pn) pa pb) := by
  have h := op_cmpO c hr hk hx hop hn
  rw [hK] at h
  exact DE.of (pe_cmpR h ha.run hb.run hm) (sim_cmpO (CX := CX) (k := k) (j := j) o simE_l simE_l)
end
section
end
end Rg

set_option Elab.async false
set_option linter.all false
set_option maxRecDepth 100000
set_option maxHeartbeats 2000000
namespace Rg
open PySem PySem.Spec PyProof.Rows L2
section
variable {G : Gx} {X : Cx} {a b c e tg : Expr} {es : List Expr} {pos p : Pos} {pa pb pc : PEt} {pl : PAt} {x : Str}
end
section
variable {G : Gx} {X : Cx} {a b c e tg : Expr} {es : List Expr} {pos p : Pos}
end
end Rg

set_option Elab.async false
set_option linter.all false
set_option maxRecDepth 100000
set_option maxHeartbeats 4000000
namespace Rg
open PySem PySem.Spec PyProof.Rows L2
theorem exG_ok {P : Program} {w : World} {H : Hp} {h : Heap} {a : Addr} {cls : Value} {d : Option Addr} {oe : Obj} {vs : Array Value} (e : h.get? a = some oe) (z : Zc cls d oe) (hd : oe.data = .fields vs) : ObjOk P w H h a (ExG cls d a) :=
  ⟨⟨oe, vs, e, z, hd⟩, ⟨oe, e⟩, fun _ _ ⟨o, v, q, r⟩ k => ⟨o, v, k o q, r⟩⟩
section
variable {X : Cx} {pins : List (Addr × Obj)} {σ : L2.St} {H : Hp} {s sI s' : Shared} {B : Heap}
theorem landedK {a : Addr} {cls : Value} {d : Option Addr} {oe : Obj} {vs : Array Value} (I : Inv X pins σ H sI) (nb : ∀ b o, sI.heap.get? b = some o → b ∉ frs X.stack → B.get? b = some o) (st : B.StaysIn s'.heap) (up : sI.heap.UpToSlots s'.heap) (os : s'.os = sI.os) (ag : AllBare s'.gens)
    (ga : sI.heap.get? a = none) (na : H a = none) (he : s'.heap.get? a = some oe) (hz : Zc cls d oe) (hd : oe.data = .fields vs) : Inv X pins σ (upd H a (ExG cls d a)) s' := by
  have nf : ∀ b ∈ frs X.stack, ∀ o, sI.heap.get? b = some o → ∃ sl, s'.heap.get? b = some { o with slots := sl } := fun b hb o e => by
    obtain ⟨_, o', e', hd⟩ := I.stack.mem hb
    rw [e] at e'; cases e'
    exact up b o e hd
  have hok : HOk X.prog X.w (upd H a (ExG cls d a)) s'.heap := HOk.laidN ((I.inGround nb).kept st) (fun _ _ e => e) na (exG_ok he hz hd)
  have J := I.call (ch := []) (h' := s'.heap) (g' := s'.gens) (t' := s'.toks) (d' := s'.drawn) (H' := upd H a (ExG cls d a))
    ⟨fun b o e _ hb _ => st b o (nb b o e hb), fun b o e _ hb _ => nf b hb o e, fun b o e n _ => by
        rw [upd_ne (fun z => by rw [z, ga] at e; cases e)]
        exact n, fun b o e _ => by
      by_cases hb : b ∈ frs X.stack
      · obtain ⟨sl, q⟩ := nf b hb o e
        exact ⟨_, q⟩
      · exact ⟨o, st b o (nb b o e hb)⟩, fun b _ e => by rw [upd_ne (ne_of_none e na)]; exact e, fun b _ _ e => by rw [upd_ne (ne_of_none e na)]; exact e, fun b ps e => ⟨#[], by rw [upd_ne (ne_of_none e na), e]; simp⟩⟩
    hok ag (fun _ z => nomatch z)
  obtain ⟨a1, a2, a3, a4, a5⟩ := s'
  have e5 : a5 = sI.os := os
  subst e5
  exact J
theorem suiteK {a : Addr} (I : Inv X pins σ H s) : Inv (X.suite a (X.pn ++ pins)) [] σ H s :=
  ⟨I.ok.suite _ _, I.os, I.bare, I.base, I.loc, I.cell, I.free, I.freeC, fun p hp => I.pin p (by rw [List.append_nil] at hp; exact hp), I.hok, I.len⟩
theorem unsuiteK {a : Addr} {pn' : List (Addr × Obj)} (I : Inv (X.suite a (X.pn ++ pins)) pn' σ H s) (ok : X.Ok) : Inv X pins σ H s :=
  ⟨ok, I.os, I.bare, I.base, I.loc, I.cell, I.free, I.freeC, fun p hp => I.pin p (List.mem_append_left _ hp), I.hok, I.len⟩
end
def noSl (i : Nat) (D : Ends) : Ends := { nx := fun σ' H' => D.nx (σ'.set i none) H', rt := D.rt, bk := fun σ' H' => D.bk (σ'.set i none) H', ct := fun σ' H' => D.ct (σ'.set i none) H' }
def wK (K : PySem.W.Frag) (Wout : WX) (D : Ends) : List (Value × Option Nat × TS) → WX
  | [] => Wout
  | (c, some i, ts) :: r => fun cls d σ H => ∃ b, PySem.W.exmOne K cls c = some b ∧ (b = true → ∀ a, H a = none → ts (noSl i D) (σ.set i (some (.ref a))) (upd H a (ExG cls d a))) ∧ (b = false → wK K Wout D r cls d σ H)
  | (c, none, ts) :: r => fun cls d σ H => ∃ b, PySem.W.exmOne K cls c = some b ∧ (b = true → ts D σ H) ∧ (b = false → wK K Wout D r cls d σ H)
inductive HdK (X : Cx) : List ExceptHandler → List (Value × Option Nat × TS) → Prop
  | nil : HdK X [] []
  | as_ {x n : Str} {c : Value} {i : Nat} {ts : TS} {b₀ : Stmt} {suite : List Stmt} {np pos' : Pos} {hds : List ExceptHandler} {l : List (Value × Option Nat × TS)} (hc : Names X x c) (hN : X.N.Nodup) (hi : X.N[i]? = some n) (hln : X.env.kindOf n = some .local)
      (hsu : ∀ (a : Addr) (pn : List (Addr × Obj)), PSs (X.suite a pn) (b₀ :: suite) ts) (r : HdK X hds l) :
      HdK X (.ExceptHandler (some (.Name x np)) (some n) (b₀ :: suite) pos' :: hds) ((c, some i, ts) :: l)
  | only {x : Str} {c : Value} {ts : TS} {b₀ : Stmt} {suite : List Stmt} {np pos' : Pos} {hds : List ExceptHandler} {l : List (Value × Option Nat × TS)} (hc : Names X x c)
      (hsu : ∀ (a : Addr) (pn : List (Addr × Obj)), PSs (X.suite a pn) (b₀ :: suite) ts) (r : HdK X hds l) :
      HdK X (.ExceptHandler (some (.Name x np)) none (b₀ :: suite) pos' :: hds) ((c, none, ts) :: l)
section
variable {X : Cx} {body : List Stmt} {h₀ : ExceptHandler} {hds : List ExceptHandler} {l : List (Value × Option Nat × TS)} {pos : Pos} {tb : WX → TS} {Wout : WX}
theorem ps_try_K (hs : X.stack = X.env :: X.outer) (hf : X.env.frame = some X.env.locals) (tk : Takes X Wout)
    (hb : ∀ (W : WX) (pn : List (Addr × Obj)) (xe : Value → Shared → Prop), Takes (X.tr pn xe) W → PassesOwn (model X.prog X.w) X.A X.env xe → PSs (X.tr pn xe) body (tb W))
    (hh : HdK X (h₀ :: hds) l) : PS X (.Try body (h₀ :: hds) [] [] pos) (fun D σ H => tb (wK X.K Wout D l) D σ H) := by
  refine ⟨fun pins s σ H D I h => ?_⟩
  have ok := I.ok
  have hfr : X.A.frames = some (X.env :: X.outer) := by rw [ok.frames, hs]
  refine wpAny_Try_except ?_
  refine wpAny_mono ((hb (wK X.K Wout D l) (X.pn ++ pins) (fun e s₁ => wpAny (model X.prog X.w) X.A (noteFrame e X.env) (fun _ s₂ => wpAny (model X.prog X.w) X.A (setFlight e none) (fun _ s₃ =>
    wpAny (model X.prog X.w) X.A (handleBy e X.env (h₀ :: hds)) (SP X pins D) X.xe s₃) X.xe s₂) X.xe s₁) (fun u s' xx => ?_) PassesOwn.looking).run [] s σ H D (I.toTry _) h) (fun f s1 hsp => ?_) (fun e s1 he => he)
  · -- the catch
    obtain ⟨a, B, sI, pins', σ', H', cls, d, rfl, J', nb, up, sky, na, os, ag, w⟩ := xx
    have J : Inv X pins σ' H' sI := J'.ofTry ok
    have sky' : Sky B (X.env :: X.outer) a (Zc cls d) X.env.locals s'.heap := by rw [← hs]; exact sky
    show wpAny (model X.prog X.w) X.A (noteFrame (.ref a) X.env) _ _ _
    refine Sky.land Zc.steady hfr hf sky' fun h3 fl3 up3 => ?_
    have J3 : Inv X pins σ' H' { s' with heap := h3 } := J.landed nb fl3.1 (up.trans up3) os ag
    obtain ⟨oe3, vs3, he3, hz3, hd3⟩ := fl3.there
    have notFr : ∀ {h : Heap} {o : Obj} {vs : Array Value}, h.FunFrames B (X.env :: X.outer) → h.get? a = some o → o.data = .fields vs → a ∉ frs (X.env :: X.outer) := fun {h o vs} ff e dd hm => by
      obtain ⟨_, o', e', hnf⟩ := ff.mem hm
      rw [e] at e'; cases e'
      exact hnf _ dd
    have nfr := notFr fl3.2.2.1 he3 hd3
    have ga : sI.heap.get? a = none := by
      cases e : sI.heap.get? a with
      | none => rfl
      | some o =>
        have q := nb a o e (by rw [hs]; exact nfr)
        rw [fl3.2.1] at q
        cases q
    have S3 := suiteK (a := a) J3
    have go : ∀ {hds' : List ExceptHandler} {l' : List (Value × Option Nat × TS)}, HdK X hds' l' → wK X.K Wout D l' cls d σ' H' →
        wpAny (model X.prog X.w) X.A (handleBy (.ref a) X.env hds') (SP X pins D) X.xe { s' with heap := h3 } := by
      intro hds' l' hk
      induction hk with
      | nil =>
        intro w
        refine wpAny_handleBy_nil ?_
        obtain ⟨k1, k2, k3, oe, vs, T, oT, ts', he, hz, hd, h1, hr⟩ := id fl3
        unfold PySem.passOn
        refine wpAny_bind (wpAny_field he hd h1 ?_)
        rw [if_neg (show ¬ ((Value.ref T == Value.none) = true) from by simp)]
        have fin : wpAny (model X.prog X.w) X.A (setFlight (.ref a) X.env.frame) (fun _ s4 => wpAny (model X.prog X.w) X.A (throw (.ref a) : Sem Flow) (SP X pins D) X.xe s4) X.xe { s' with heap := h3 } := by
          rw [hf]
          refine HandSPX.setFlight_upZ fl3 fun h4 hh4 up4 => wpAny_throw (tk _ _ ?_)
          exact ⟨a, B, sI, pins, σ', H', cls, d, rfl, J, nb, (up.trans up3).trans up4, .inr (.inr (by rw [hs]; exact hh4)), na, os, ag, w⟩
        first
          | exact wpAny_bind (wpAny_pure (wpAny_bind fin))
          | exact wpAny_bind fin
      | @as_ x n c i ts b₀ suite np pos' hds2 l2 hc hN hi hln hsu r ih =>
        intro w
        obtain ⟨b, hb1, hyes, hno⟩ := w
        have hloc : Loc X.env.scope n := .inl hln
        refine wpAny_handleBy_cons (codeAny_handlers_test ?_) (by intro q; cases q)
        have LT : PySem.W.Looks (model X.prog X.w) h3 (typeOf (.ref a)) cls := fun A Q E s k q => wpAny_typeOf_ref (k _ _ he3) (by rw [hz3.1]; exact q)
        have LM := PySem.W.exm_one (M := model X.prog X.w) (J3.kIn) LT hb1
        have test : ∀ {Q : Value → Shared → Prop} {E : Value → Shared → Prop}, Q c { s' with heap := h3 } → wpAny (model X.prog X.w) (X.A.mark (some (.ref a))) (eval (.Name x np) X.env) Q E { s' with heap := h3 } := fun {Q E} q => by
          obtain ⟨hg, hdbg, hm | ⟨hm, hv, hnn⟩⟩ := hc
          · exact ld_glob (X := X.suite a (X.pn ++ pins)) S3 hg hm q hdbg
          · exact ld_blt (X := X.suite a (X.pn ++ pins)) S3 hg hm hv q hnn hdbg
        refine test (LM.here ?_)
        cases b with
        | true =>
          refine codeAny_handlers_suite_as ?_
          refine HandSPX.lands_againZ fl3 fun h4 fl4 up4 => ?_
          obtain ⟨oe4, vs4, he4, hz4, hd4⟩ := fl4.there
          have J4 : Inv X pins σ' (upd H' a (ExG cls d a)) { s' with heap := h4 } := landedK J nb fl4.1 ((up.trans up3).trans up4) os ag ga na he4 hz4 hd4
          refine store_ok (X := X.suite a (X.pn ++ pins)) (v := .ref a) (suiteK J4) hN hi hloc rfl (fun s5 S5 => ?_) (.inr hln)
          refine wpAny_mono ((hsu a (X.pn ++ pins)).run [] s5 _ _ _ S5 (hyes rfl a na)) (fun f s6 hsp => ?_) (fun _ _ z => False.elim z)
          have end_ : ∀ {σ6 : L2.St} {H6 : Hp} {Q : Shared → Prop}, Inv (X.suite a (X.pn ++ pins)) [] σ6 H6 s6 → (∀ s7, Inv X pins (σ6.set i none) H6 s7 → Q s7) →
              wpAny (model X.prog X.w) X.A (do bindName X.env n .none; unbindBehindTheSuite X.env n pos') (fun _ s7 => Q s7) X.xe s6 := fun {σ6 H6 Q} S6 hq => gone_ok (unsuiteK S6 ok) hN hi hln hq
          cases f with
          | next =>
            obtain ⟨σ6, H6, S6, q6⟩ := hsp
            exact end_ S6 fun s7 J7 => ⟨_, _, J7, q6⟩
          | brk =>
            obtain ⟨σ6, H6, S6, q6⟩ := hsp
            exact end_ S6 fun s7 J7 => ⟨_, _, J7, q6⟩
          | cont =>
            obtain ⟨σ6, H6, S6, q6⟩ := hsp
            exact end_ S6 fun s7 J7 => ⟨_, _, J7, q6⟩
          | ret u =>
            obtain ⟨v6, σ6, H6, S6, r6, q6⟩ := hsp
            exact end_ S6 fun s7 J7 => ⟨_, _, _, J7, r6, q6⟩
        | false =>
          show wpAny _ X.A (handleBy (.ref a) X.env hds2) _ _ _
          exact ih (hno rfl)
      | @only x c ts b₀ suite np pos' hds2 l2 hc hsu r ih =>
        intro w
        obtain ⟨b, hb1, hyes, hno⟩ := w
        refine wpAny_handleBy_cons (codeAny_handlers_test ?_) (by intro q; cases q)
        have LT : PySem.W.Looks (model X.prog X.w) h3 (typeOf (.ref a)) cls := fun A Q E s k q => wpAny_typeOf_ref (k _ _ he3) (by rw [hz3.1]; exact q)
        have LM := PySem.W.exm_one (M := model X.prog X.w) (J3.kIn) LT hb1
        have test : ∀ {Q : Value → Shared → Prop} {E : Value → Shared → Prop}, Q c { s' with heap := h3 } → wpAny (model X.prog X.w) (X.A.mark (some (.ref a))) (eval (.Name x np) X.env) Q E { s' with heap := h3 } := fun {Q E} q => by
          obtain ⟨hg, hdbg, hm | ⟨hm, hv, hnn⟩⟩ := hc
          · exact ld_glob (X := X.suite a (X.pn ++ pins)) S3 hg hm q hdbg
          · exact ld_blt (X := X.suite a (X.pn ++ pins)) S3 hg hm hv q hnn hdbg
        refine test (LM.here ?_)
        cases b with
        | true =>
          refine codeAny_handlers_suite ?_
          refine HandSPX.lands_againZ fl3 fun h4 fl4 up4 => ?_
          have J4 : Inv X pins σ' H' { s' with heap := h4 } := J.landed nb fl4.1 ((up.trans up3).trans up4) os ag
          refine wpAny_mono ((hsu a (X.pn ++ pins)).run [] _ _ H' _ (suiteK J4) (hyes rfl)) (fun f s6 hsp => ?_) (fun _ _ z => False.elim z)
          cases f with
          | next =>
            obtain ⟨σ6, H6, S6, q6⟩ := hsp
            exact ⟨_, _, unsuiteK S6 ok, q6⟩
          | brk =>
            obtain ⟨σ6, H6, S6, q6⟩ := hsp
            exact ⟨_, _, unsuiteK S6 ok, q6⟩
          | cont =>
            obtain ⟨σ6, H6, S6, q6⟩ := hsp
            exact ⟨_, _, unsuiteK S6 ok, q6⟩
          | ret u =>
            obtain ⟨v6, σ6, H6, S6, r6, q6⟩ := hsp
            exact ⟨_, _, _, unsuiteK S6 ok, r6, q6⟩
        | false =>
          show wpAny _ X.A (handleBy (.ref a) X.env hds2) _ _ _
          exact ih (hno rfl)
    exact go hh w
  · cases f with
    | next =>
      obtain ⟨σ', H', J', q⟩ := hsp
      exact wpAny_execs_nil ⟨σ', H', J'.ofTry ok, q⟩
    | brk =>
      obtain ⟨σ', H', J', q⟩ := hsp
      exact ⟨σ', H', J'.ofTry ok, q⟩
    | cont =>
      obtain ⟨σ', H', J', q⟩ := hsp
      exact ⟨σ', H', J'.ofTry ok, q⟩
    | ret u =>
      obtain ⟨v, σ', H', J', r, q⟩ := hsp
      exact ⟨v, σ', H', J'.ofTry ok, r, q⟩
end
end Rg

set_option Elab.async false
set_option linter.all false
set_option maxRecDepth 100000
set_option maxHeartbeats 4000000
namespace Rg
open PySem PySem.Spec PyProof.Rows L2
def subX (T : ExT) (x C : Str) : Option Bool := match T.lookup x, T.lookup C with
  | some anc, some _ => some (decide (C ∈ anc))
  | _, _ => none
/-- the classes of exceptions -/
theorem lookup_mem {β : Type} {x : Str} {b : β} : ∀ {l : List (Str × β)}, l.lookup x = some b → (x, b) ∈ l
  | [], h => by cases h
  | (y, c) :: l, h => by
    by_cases e : x = y
    · subst e
      rw [List.lookup_cons_self] at h
      cases h
      exact List.mem_cons_self
    · have q : (x == y) = false := beq_eq_false_iff_ne.mpr e
      rw [List.lookup_cons, q] at h
      exact List.mem_cons_of_mem _ (lookup_mem h)
theorem exmB_ok {K : PySem.W.Frag} {T : ExT} (h : exmB K T = true) {x C : Str} {b : Bool} (e : subX T x C = some b) : PySem.W.exmOne K (.ref (He.ga K x)) (.ref (He.ga K C)) = some b := by
  unfold subX at e
  split at e
  · next anc q e1 e2 =>
    cases e
    have h1 := List.all_eq_true.mp (List.all_eq_true.mp h _ (lookup_mem e1)) _ (lookup_mem e2)
    exact of_decide_eq_true h1
  · cases e
def excDV (x : Exn) : DV := .node (.exc x.1 x.2.1) x.2.2
abbrev PRx := Exn → Ps → Prop
abbrev PSr := PEnds → Ps → PRx → Prop
abbrev PRt := Ps → PQ → PRx → Prop
def XOk (G : Gx) (F : List (Addr × HO)) (D : Hp) (σ : L2.St) (E : L2.St → XK) (R : PRx) : Prop := ∀ (x : Exn) (ρ' : Ps) (D' H' : Hp) (d : Addr) (ps : List (Str × V)), Same D D' → Rel G F D' σ H' ρ' → D' d = some (.xd ps) → ps.map (·.1) = x.2.1 → RvA G.K D' (ps.map (·.2)) x.2.2 → R x ρ' → E σ (.ref (He.ga G.K x.1)) (some d) H'
def lSr (G : Gx) (E : L2.St → XK) (p : PSr) : TS := fun Ed σ H => ∃ (D : Hp) (ρ : Ps) (Ep : PEnds) (R : PRx), Rel G [] D σ H ρ ∧ p Ep ρ R ∧ EndsOk G D Ep Ed ∧ XOk G [] D σ E R
def lR (G : Gx) (E : L2.St → XK) (p : PRt) : TE := fun σ H k => ∃ (F : List (Addr × HO)) (D : Hp) (ρ : Ps) (Q : PQ) (R : PRx), Rel G F D σ H ρ ∧ p ρ Q R ∧ XOk G F D σ E R ∧
  ∀ d ρ' D' v H', Same D D' → Rel G F D' σ H' ρ' → Rv G.K D' v d → Q d ρ' → k v H'
structure DSr (G : Gx) (X : Cx) (st : List Stmt) (p : PSr) : Prop where
  run : ∀ (E : L2.St → XK), (∀ σ, PassesAt (L2.CX X.prog X.w) X σ (E σ)) → PSs X st (lSr G E p)
structure DR (G : Gx) (X : Cx) (e : Expr) (p : PRt) : Prop where
  run : ∀ (E : L2.St → XK), (∀ σ, PassesAt (L2.CX X.prog X.w) X σ (E σ)) → PE X e (lR G E p)
theorem XOk.up {G : Gx} {F : List (Addr × HO)} {D D1 : Hp} {σ : L2.St} {E : L2.St → XK} {R : PRx} (h : XOk G F D σ E R) (s : Same D D1) : XOk G F D1 σ E R := fun x ρ' D' H' d ps e => h x ρ' D' H' d ps (s.trans e)
section
variable {G : Gx} {X : Cx} {a b c e : Expr} {es : List Expr} {pos : Pos} {pl : PAt} {p : PRt} {q : PSr}
def qExpr (p : PRt) : PSr := fun E ρ R => p ρ (fun _ ρ1 => E.nx ρ1) R
theorem r_expr (h : DR G X e p) (hs : swapsWith e none pos.line X.env = pure false := by rfl) : DSr G X [.Expr e pos] (qExpr p) := ⟨fun E hE =>
  ⟨fun pins s σ H Ed I ⟨D, ρ, Ep, R, rel, hp, ok, ex⟩ => (pss_one (ps_expr (h.run E hE) hs)).run pins s σ H Ed I
    ⟨[], D, ρ, _, R, rel, hp, ex, fun d ρ1 D1 v H1 e1 r1 q1 h1 => ok.nx D1 σ H1 ρ1 e1 r1 h1⟩⟩⟩
def noP (i : Nat) (E : PEnds) : PEnds := { nx := fun ρ => E.nx { ρ with sl := ρ.sl.set i none }, rt := E.rt, rs := E.rs, bk := fun ρ => E.bk { ρ with sl := ρ.sl.set i none }, ct := fun ρ => E.ct { ρ with sl := ρ.sl.set i none } }
abbrev PHd := List (Str × Option Nat × PSt)
def hRun (T : ExT) (out : Bool) : PHd → PEnds → Exn → Ps → Prop
  | [], E, x, ρ => out = true ∧ E.rs x ρ.ink
  | (C, some i, q) :: r, E, x, ρ => match subX T x.1 C with
    | some true => q (noP i E) { ρ with sl := ρ.sl.set i (some (.val (excDV x))) }
    | some false => hRun T out r E x ρ
    | none => False
  | (C, none, q) :: r, E, x, ρ => match subX T x.1 C with
    | some true => q E ρ
    | some false => hRun T out r E x ρ
    | none => False
def pTry (T : ExT) (out : Bool) (p : PSr) (hs : PHd) : PSt := fun E ρ => p E ρ (hRun T out hs E)
inductive DH (G : Gx) (X : Cx) : List ExceptHandler → PHd → Prop
  | nil : DH G X [] []
  | as_ {x n C : Str} {i : Nat} {q : PSt} {b₀ : Stmt} {suite : List Stmt} {np pos' : Pos} {hds : List ExceptHandler} {l : PHd} (hg : Gl X x) (hd : (x == ("__debug__" : Str)) = false) (hm : X.mg x = some (.ref (He.ga G.K C))) (hN : X.N.Nodup) (hi : X.N[i]? = some n) (hln : X.env.kindOf n = some .local)
      (hsu : ∀ (a : Addr) (pn : List (Addr × Obj)), DSs G (X.suite a pn) (b₀ :: suite) q) (r : DH G X hds l) : DH G X (.ExceptHandler (some (.Name x np)) (some n) (b₀ :: suite) pos' :: hds) ((C, some i, q) :: l)
  | only {x C : Str} {q : PSt} {b₀ : Stmt} {suite : List Stmt} {np pos' : Pos} {hds : List ExceptHandler} {l : PHd} (hg : Gl X x) (hd : (x == ("__debug__" : Str)) = false) (hm : X.mg x = some (.ref (He.ga G.K C)))
      (hsu : ∀ (a : Addr) (pn : List (Addr × Obj)), DSs G (X.suite a pn) (b₀ :: suite) q) (r : DH G X hds l) : DH G X (.ExceptHandler (some (.Name x np)) none (b₀ :: suite) pos' :: hds) ((C, none, q) :: l)
def hTs (G : Gx) (l : PHd) : List (Value × Option Nat × TS) := l.map fun h => (.ref (He.ga G.K h.1), h.2.1, lS G h.2.2)
theorem DH.hd {hds : List ExceptHandler} {l : PHd} (h : DH G X hds l) : HdK X hds (hTs G l) := by
  induction h with
  | nil => exact .nil
  | as_ hg hd hm hN hi hln hsu r ih => exact .as_ ⟨hg, hd, .inl hm⟩ hN hi hln (fun a pn => (hsu a pn).run) ih
  | only hg hd hm hsu r ih => exact .only ⟨hg, hd, .inl hm⟩ (fun a pn => (hsu a pn).run) ih
theorem hRun_ok {T : ExT} {out : Bool} {Wout : WX} (ht : exmB G.K T = true) (ho : out = true → ∀ cls d σ H, G.E cls d H → Wout cls d σ H) {Ep : PEnds} {Ed : Ends} {D0 : Hp} (ok : EndsOk G D0 Ep Ed) (hx : ExOk G Ep.rs) {x : Exn} {ρ : Ps} {D H : Hp} {σ : L2.St} {d : Addr} {ps : List (Str × V)}
    (sm : Same D0 D) (rel : Rel G [] D σ H ρ) (hd : D d = some (.xd ps)) (hk : ps.map (·.1) = x.2.1) (rv : RvA G.K D (ps.map (·.2)) x.2.2) : ∀ l : PHd, hRun T out l Ep x ρ → wK G.K Wout Ed (hTs G l) (.ref (He.ga G.K x.1)) (some d) σ H
  | [], h => ho h.1 _ _ _ _ (hx.ok D H x ρ.ink d ps rel.st rel.pen hd hk rv h.2)
  | (C, some i, q) :: r, h => by
    unfold hRun at h
    split at h
    · next e =>
      refine ⟨true, exmB_ok ht e, fun _ a ha => ?_, fun z => nomatch z⟩
      have rel1 : Rel G [] (upd D a (ExG (.ref (He.ga G.K x.1)) (some d) a)) σ (upd H a (ExG (.ref (He.ga G.K x.1)) (some d) a)) ρ := rel.new ha
      have s1 := rel.newS (o := ExG (.ref (He.ga G.K x.1)) (some d) a) ha
      have rx : Rv G.K (upd D a (ExG (.ref (He.ga G.K x.1)) (some d) a)) (.ref a) (excDV x) := .exc upd_same (s1 _ _ hd) hk (rvA_mono s1 rv)
      exact ⟨_, _, noP i Ep, rel1.set rx, h, ⟨fun D3 σ3 H3 ρ3 s3 r3 h3 => ok.nx D3 _ H3 _ (sm.trans (s1.trans s3)) (r3.drop none) h3, fun D3 H3 v z n st pk rr h3 => ok.rt D3 H3 v z n st pk rr h3, fun D3 σ3 H3 ρ3 s3 r3 h3 => ok.bk D3 _ H3 _ (sm.trans (s1.trans s3)) (r3.drop none) h3, fun D3 σ3 H3 ρ3 s3 r3 h3 => ok.ct D3 _ H3 _ (sm.trans (s1.trans s3)) (r3.drop none) h3⟩, hx⟩
    · next e => exact ⟨false, exmB_ok ht e, (fun z => nomatch z), fun _ => hRun_ok ht ho ok hx sm rel hd hk rv r h⟩
    · exact h.elim
  | (C, none, q) :: r, h => by
    unfold hRun at h
    split at h
    · next e => exact ⟨true, exmB_ok ht e, fun _ => ⟨D, ρ, Ep, rel, h, ok.up sm, hx⟩, fun z => nomatch z⟩
    · next e => exact ⟨false, exmB_ok ht e, (fun z => nomatch z), fun _ => hRun_ok ht ho ok hx sm rel hd hk rv r h⟩
    · exact h.elim
theorem s_tryG {T : ExT} {out : Bool} {Wout : WX} {body : List Stmt} {h₀ : ExceptHandler} {hds : List ExceptHandler} {l : PHd} (hs : X.stack = X.env :: X.outer) (hf : X.env.frame = some X.env.locals) (tk : Takes X Wout) (ht : exmB G.K T = true) (ho : out = true → ∀ cls d σ H, G.E cls d H → Wout cls d σ H)
    (hb : ∀ (pn : List (Addr × Obj)) (xe : Value → Shared → Prop), DSr G (X.tr pn xe) body q) (hh : DH G X (h₀ :: hds) l) (hK : X.K = G.K) : DS G X (.Try body (h₀ :: hds) [] [] pos) (pTry T out q l) := by
  refine DS.of (ps_try_K (tb := fun W => lSr G (WE W) q) hs hf tk (fun W pn xe tk' _ => (hb pn xe).run (WE W) fun σ => passAt tk' σ) hh.hd) fun D σ H ρ Ep E rel hp ok hx => ?_
  exact ⟨D, ρ, Ep, _, rel, hp, ok, fun x ρ' D' H' d ps sm rel' hd hk rv hr => by rw [hK]; exact hRun_ok ht ho ok hx sm rel' hd hk rv l hr⟩
/-- nothing is let out -/
theorem s_try {T : ExT} {body : List Stmt} {h₀ : ExceptHandler} {hds : List ExceptHandler} {l : PHd} (ht : exmB G.K T = true)
    (hb : ∀ (pn : List (Addr × Obj)) (xe : Value → Shared → Prop), DSr G (X.tr pn xe) body q) (hh : DH G X (h₀ :: hds) l) (hs : X.stack = X.env :: X.outer := by rfl) (hf : X.env.frame = some X.env.locals := by rfl) (hK : X.K = G.K := by rfl) : DS G X (.Try body (h₀ :: hds) [] [] pos) (pTry T false q l) :=
  s_tryG hs hf takes0 ht (fun z => nomatch z) hb hh hK
theorem exN {G : Gx} : ExOk G.nox fun _ _ => False := ex_never
/-- rel of the same G but for the wish -/
theorem RelB.nox {F : List (Addr × HO)} {D : Hp} {σ : L2.St} {H : Hp} {ρ : Ps} (h : RelB G F D σ H ρ) : RelB G.nox F D σ H ρ := ⟨h.st, h.sl, h.fr, h.pen, h.ph, h.nt⟩
theorem RelB.yox {F : List (Addr × HO)} {D : Hp} {σ : L2.St} {H : Hp} {ρ : Ps} (h : RelB G.nox F D σ H ρ) : RelB G F D σ H ρ := ⟨h.st, h.sl, h.fr, h.pen, h.ph, h.nt⟩
end
def calmF (Fn : PFn) : PFn := fun pn ds n Q _ => Fn pn ds n Q fun _ _ => False
section
variable {P : Program} {w : World} {K : PySem.W.Frag} {mg : Str → Option Value} {base : Heap} {k : Nat} {f : Addr} {fd : FuncData} {ps : List Str} {sp : Sp} {Fn : PFn}
theorem calm_sp {vs : List V} {H : Hp} {Q : VK} {E : XK} (h : spP K (calmF Fn) vs H Q E) : spP K Fn vs H Q fun _ _ _ => False := by
  obtain ⟨D, pn, ds, n, Qd, R, sd, ph, rv, pen, hf, post, ex⟩ := h
  exact ⟨D, pn, ds, n, Qd, _, sd, ph, rv, pen, hf, post, ex_never⟩
theorem calm_cx {outer : List Env} {H : Hp} {s s' : Shared} {u : Value} (h : L2.CX P w outer H s (fun _ _ _ => False) u s') : False := by
  obtain ⟨_, _, _, _, _, _, _, _, _, _, _, _, z⟩ := h
  exact z
theorem FnOk.calm (F : FnOk P w K mg base (L2.CX P w) k f fd ps (spP K Fn)) : FnOk P w K mg base CX0 k f fd ps (spP K (calmF Fn)) :=
  ⟨fun vs H Q E h => F.len _ _ _ _ (calm_sp h), fun A outer s H args us vs Q E hr he hb hv hs => codeAny_mono (F.run A outer s H args us vs Q _ hr he hb hv (calm_sp hs)) fun r s' hq => by
    cases r with
    | error e => exact (calm_cx hq).elim
    | ok fl => cases fl <;> exact hq⟩
theorem CalX.calm {x : Str} (c : CalX P w K mg base (L2.CX P w) k x (spP K Fn)) : CalX P w K mg base CX0 k x (spP K (calmF Fn)) := by
  obtain ⟨f, fd, ps, F, g, kp, b⟩ := c.ex
  exact ⟨f, fd, ps, FnOk.calm F, g, kp, b⟩
theorem MetX.calm {C : Addr} {m : Str} (c : MetX P w K mg base (L2.CX P w) k C m (spP K Fn)) : MetX P w K mg base CX0 k C m (spP K (calmF Fn)) := by
  obtain ⟨f, fd, ps, hm, F, b⟩ := c.ex
  exact ⟨f, fd, ps, hm, FnOk.calm F, b⟩
def calmN (Fn : NFn) : NFn := fun pn ds n Q _ => Fn pn ds n Q fun _ _ => False
theorem MkX.calm {C : Str} {fs : List Str} {Fn : NFn} {x : Str} (c : MkX P w K mg base (L2.CX P w) k x (He.ga K C) (spNew K C fs Fn)) : MkX P w K mg base CX0 k x (He.ga K C) (spNew K C fs (calmN Fn)) := by
  obtain ⟨f, fd, ps, M, F, g, b⟩ := c.ex
  have cs : ∀ {vs : List V} {H : Hp} {Q : VK} {E : XK}, spNew K C fs (calmN Fn) vs H Q E → spNew K C fs Fn vs H Q fun _ _ _ => False := fun {vs H Q E} h => by
    obtain ⟨D, pn, x, dx, us, ds, n, Qd, R, h1, h2, h3, h4, h5, h6, h7, h8, h9, _⟩ := h
    exact ⟨D, pn, x, dx, us, ds, n, Qd, _, h1, h2, h3, h4, h5, h6, h7, h8, h9, exX_never⟩
  refine ⟨f, fd, ps, M, ⟨fun vs H Q E h => F.len _ _ _ _ (cs h), fun A outer s H args us vs Q E hr he hb hv hs => codeAny_mono (F.run A outer s H args us vs Q _ hr he hb hv (cs hs)) fun r s' hq => ?_⟩, g, b⟩
  cases r with
  | error e => exact (calm_cx hq).elim
  | ok fl => cases fl <;> exact hq
end
section
variable {G : Gx} {X : Cx} {e : Expr} {es : List Expr} {pos p : Pos} {pl : PAt} {x : Str}
def tMakeA (C : Addr) (sp : Sp) (E : L2.St → XK) (t : TA) : TE := fun σ H Q => t σ H fun vs H1 => ∀ x dx, H1 x = none → H1 dx = none → dx ≠ x → sp (.ref x :: vs) (upd (upd H1 dx (.own x)) x (.ins C dx [])) (fun v H2 => v = .non ∧ Q (.ref x) H2) (E σ)
def qMake (C : Str) (fs : List Str) (Fn : List DV → Nat → (List DV → Nat → Prop) → PR → Prop) (pl : PAt) : PRt := fun ρ Q R => pl ρ (fun ds ρ1 => Fn ds ρ1.ink (fun zs n => Q (.node (.ins C fs) zs) { ρ1 with ink := n }) (fun x n => R x { ρ1 with ink := n })) fun _ _ => False
end
end Rg

set_option Elab.async false
set_option linter.all false
set_option maxRecDepth 100000
set_option maxHeartbeats 4000000
namespace Rg
open PySem PySem.Spec PyProof.Rows L2
theorem oexB_ok {K : PySem.W.Frag} {C : Addr} (h : oexB K C = true) : OexC K C := by
  unfold oexB at h
  obtain ⟨h1, h⟩ := Bool.and_eq_true_iff.mp h
  obtain ⟨h2, h⟩ := Bool.and_eq_true_iff.mp h
  obtain ⟨h3, h⟩ := Bool.and_eq_true_iff.mp h
  obtain ⟨h4, h5⟩ := Bool.and_eq_true_iff.mp h
  refine ⟨?_, He.eqO_ok h2, of_decide_eq_true h3, of_decide_eq_true h4, h5⟩
  split at h1
  · rename_i dd cd sl ho
    split at h1
    · rename_i C' bm k0 k1 k2 k3 n k5 hm hs
      obtain ⟨g1, h1⟩ := Bool.and_eq_true_iff.mp h1
      obtain ⟨g2, h1⟩ := Bool.and_eq_true_iff.mp h1
      obtain ⟨g3, h1⟩ := Bool.and_eq_true_iff.mp h1
      obtain ⟨g4, g5⟩ := Bool.and_eq_true_iff.mp h1
      have e1 := of_decide_eq_true g1
      have e2 := of_decide_eq_true g2
      subst e1 e2
      obtain ⟨nm, bs, mro, ns, qn, hd, sn, sub, ab, col, del⟩ := cd
      dsimp only at hm g3 g4
      subst hm g3
      have e4 : del = false := by
        cases del with
        | false => rfl
        | true => cases g4
      subst e4
      have hsl : sl = #[k0, k1, k2, k3, some (.builtin "ValueError.__new__"), k5] := by
        obtain ⟨l⟩ := sl
        simp only at hs
        rw [hs]
      subst hsl
      exact ⟨nm, qn, ns, bs, bm, sn, sub, ab, col, dd, k0, k1, k2, k3, k5, ho, g5⟩
    · cases h1
  · cases h1
theorem excCB_ok {K : PySem.W.Frag} {D : Addr} (h : excCB K D = true) : ExcC K D := by
  unfold excCB at h
  obtain ⟨h1, h⟩ := Bool.and_eq_true_iff.mp h
  obtain ⟨h2, h⟩ := Bool.and_eq_true_iff.mp h
  obtain ⟨h3, h⟩ := Bool.and_eq_true_iff.mp h
  obtain ⟨h4, h⟩ := Bool.and_eq_true_iff.mp h
  obtain ⟨h5, h⟩ := Bool.and_eq_true_iff.mp h
  obtain ⟨h6, h⟩ := Bool.and_eq_true_iff.mp h
  obtain ⟨h7, h8⟩ := Bool.and_eq_true_iff.mp h
  exact ⟨He.eqO_ok h1, He.eqO_ok h2, of_decide_eq_true h3, h4, He.eqO_ok h5, He.eqO_ok h6, of_decide_eq_true h7, of_decide_eq_true h8⟩
theorem excsB_ok {K : PySem.W.Frag} {T : ExT} (h : excsB K T = true) {x C : Str} {b : Bool} (e : subX T x C = some b) : ExcC K (He.ga K x) := by
  unfold subX at e
  split at e
  · next anc q e1 e2 => exact excCB_ok (List.all_eq_true.mp h _ (lookup_mem e1))
  · cases e
theorem kitXB_ok {K : PySem.W.Frag} {T : ExT} (h : kitXB K T = true) {x C : Str} {b : Bool} (e : subX T x C = some b) : PySem.W.kitOne K (.ref (He.ga K x)) (.ref (He.ga K C)) = some b := by
  unfold subX at e
  split at e
  · next anc q e1 e2 =>
    cases e
    exact of_decide_eq_true (List.all_eq_true.mp (List.all_eq_true.mp (Bool.and_eq_true_iff.mp h).1 _ (lookup_mem e1)) _ (lookup_mem e2))
  · cases e
theorem kitXB_ty {K : PySem.W.Frag} {T : ExT} (h : kitXB K T = true) {n : String} {C : Str} (hn : n ∈ tyNames) (e : (T.lookup C).isSome = true) : PySem.W.kitOne K (.type n) (.ref (He.ga K C)) = some false := by
  obtain ⟨anc, e1⟩ := Option.isSome_iff_exists.mp e
  exact of_decide_eq_true (List.all_eq_true.mp (List.all_eq_true.mp (Bool.and_eq_true_iff.mp h).2 _ hn) _ (lookup_mem e1))
def spXI (C : Addr) (fs : List Str) : Sp := fun vs H Q _ => ∃ (a : Addr) (ys : List V), vs = .ref a :: ys ∧ ys.length = fs.length ∧ H a = some (exo a C none) ∧
  ∀ (d : Addr) (H' : Hp), H d = none → d ≠ a → H' a = some (exo a C (some d)) → H' d = some (exd d (fs.zip ys).reverse) → (∀ b, b ≠ a → b ≠ d → H' b = H b) → Q .non H'
structure XcX (P : Program) (w : World) (K : PySem.W.Frag) (mg : Str → Option Value) (base : Heap) (k : Nat) (x : Str) (C : Addr) (fs : List Str) : Prop where
  ex : ∃ (fI : Addr) (fd : FuncData) (ps : List Str), OexC K C ∧ PySem.W.findIn K (.ref C) "__init__" = some (some (.ref fI)) ∧ PySem.W.typeIn K (.ref fI) = some (.type "function") ∧ FnOk P w K mg base CX0 k fI fd ps (spXI C fs) ∧ Binds K fd ps [] ∧ mg x = some (.ref C)
theorem rvA_rev {K : PySem.W.Frag} {D : Hp} : ∀ {vs : List V} {ds : List DV}, RvA K D vs ds → RvA K D vs.reverse ds.reverse
  | _, _, .nil => .nil
  | _, _, .cons a b => by
    rw [List.reverse_cons, List.reverse_cons]
    exact rvA_app (rvA_rev b) (.cons a .nil)
section
variable {G : Gx} {X : Cx} {a b c e : Expr} {es : List Expr} {pos p pos2 : Pos} {pl : PAt} {pa : PEt} {x : Str}
def pRaise (C : Str) (fs : List Str) (pl : PAt) : PSt := fun E ρ => pl ρ (fun ds ρ1 => ds.length = fs.length ∧ E.rs (C, fs.reverse, ds.reverse) ρ1.ink) E.rs
theorem s_raise {k j : Nat} {C : Str} {fs : List Str} (c : XcX X.prog X.w X.K X.mg X.base k x (He.ga G.K C) fs) (tk : Takes X fun cls d _ H => G.E cls d H) (hr : Room j X.A) (hk : k + 1 ≤ j) (hg : Gl X x) (ha : DA G X (e :: es) pl) (hfs : fs.length ≤ 900 := by decide) (hc : X.calm = true := by rfl)
    (hdb : (x == ("__debug__" : Str)) = false := by decide) (he : starEach (e :: es) X.env = (false, eval e X.env) :: starEach es X.env := by rfl) (hpl : (backTo pos (starEach es X.env)).any (·.1) = false := by rfl) :
    DS G X (.Raise (some (.Call (.Name x p) (e :: es) [] pos)) none pos2) (pRaise C fs pl) := by
  obtain ⟨fI, fd, ps, O, iC, tI, F, b, hm⟩ := c.ex
  refine DS.of (ps_raise hc tk (pmk_oex O iC tI F (hr.mono hk) b .nil pass0 hg hm ha.run hdb he hpl)) fun D σ H ρ Ep E rel hp ok hx => ?_
  refine simA_l [] D σ H ρ _ Ep.rs _ rel hp hx fun ds ρ1 D1 vs H1 e1 r1 q1 hp1 => ?_
  obtain ⟨hl, hp1⟩ := hp1
  have vl : vs.length = fs.length := (rvA_len q1).trans hl
  refine ⟨by omega, fun a0 ha0 => ⟨a0, vs, by rw [List.append_nil], vl, upd_same, fun d H' hd hda h1 h2 h3 => ?_⟩⟩
  have hd1 : H1 d = none := by rw [upd_ne hda] at hd; exact hd
  refine ⟨rfl, d, _, h1, h2, hd1, ?_⟩
  have eH : upd (del H' a0) d (.xd (fs.zip vs).reverse) = upd H1 d (.xd (fs.zip vs).reverse) := by
    funext b0
    by_cases hb : b0 = d
    · rw [hb, upd_same, upd_same]
    · rw [upd_ne hb, upd_ne hb]
      by_cases hb2 : b0 = a0
      · rw [hb2, del_same, ha0]
      · rw [del_ne hb2, h3 b0 hb2 hb, upd_ne hb2]
  rw [eH]
  have r2 : Rel G [] (upd D1 d (.xd (fs.zip vs).reverse)) σ (upd H1 d (.xd (fs.zip vs).reverse)) ρ1 := r1.new hd1
  refine hx.ok _ _ (C, fs.reverse, ds.reverse) ρ1.ink d (fs.zip vs).reverse r2.st r2.pen upd_same ?_ ?_ hp1
  · rw [List.map_reverse]
    show (List.map Prod.fst (fs.zip vs)).reverse = fs.reverse
    rw [List.map_fst_zip (by omega)]
  · rw [List.map_reverse]
    show RvA G.K _ (List.map Prod.snd (fs.zip vs)).reverse ds.reverse
    rw [List.map_snd_zip (by omega)]
    exact rvA_mono (r1.newS hd1) (rvA_rev q1)
theorem rv_exc {K : PySem.W.Frag} {D : Hp} {v : V} {C : Str} {fs : List Str} {ds : List DV} (h : Rv K D v (.node (.exc C fs) ds)) : ∃ a d ps, v = .ref a ∧ D a = some (ExG (.ref (He.ga K C)) (some d) a) ∧ D d = some (.xd ps) ∧ ps.map (·.1) = fs ∧ RvA K D (ps.map (·.2)) ds := by
  cases h with
  | exc h1 h2 h3 h4 => exact ⟨_, _, _, rfl, h1, h2, h3, h4⟩
theorem zip_map (ps : List (Str × V)) : (ps.map (·.1)).zip (ps.map (·.2)) = ps := by
  induction ps with
  | nil => rfl
  | cons p r ih => rw [List.map_cons, List.map_cons, List.zip_cons_cons, ih]
def tFldX (K : PySem.W.Frag) (f : Str) (te : TE) : TE := fun σ H Q => te σ H fun x H1 => ∃ (a0 C d : Addr) (ps : List (Str × V)) (v : V), x = .ref a0 ∧ H1 a0 = some (ExG (.ref C) (some d) a0) ∧ H1 d = some (.xd ps) ∧ ExcC K C ∧ PySem.W.findIn K (.ref C) f = some none ∧ ps.lookup f = some v ∧ Q v H1
theorem inst_exc {pins : List (Addr × Obj)} {σ : L2.St} {H : Hp} {s : Shared} {a0 C d : Addr} {ps : List (Str × V)} (I : Inv X pins σ H s) (h1 : H a0 = some (ExG (.ref C) (some d) a0)) (h2 : H d = some (.xd ps)) :
    ∃ oe od, PySem.W.InstAt s.heap a0 oe C (some od) ∧ ∀ f v, ps.lookup f = some v → ∃ u, PySem.W.lookIn f od = some (some u) ∧ RelV v u := by
  obtain ⟨⟨oe, vs, ho, hz, hd⟩, _, _⟩ := I.hok a0 _ h1
  have hxd : ObjOk X.prog X.w H s.heap d (.xd ps) := I.hok d _ h2
  obtain ⟨mA, hns, hr⟩ := hxd
  obtain ⟨od, hod, hl⟩ := lookIn_ns hns
  refine ⟨oe, od, ⟨ho, hz.1, by unfold PySem.W.notCls; rw [hd] <;> rfl, by rw [hz.2]; exact hod⟩, fun f v e => ?_⟩
  obtain ⟨u, hu, ru⟩ := RelO.some_of (v := v) (o := mA f) (by rw [← e]; exact hr f)
  exact ⟨u, by rw [hl, hu], ru⟩
theorem pe_fldX {f : Str} {te : TE} (he : PE X e te) (hb : attributeBase e f X.env (eval e X.env) = eval e X.env := by rfl) : PE X (.Attribute e f pos) (tFldX X.K f te) := by
  refine ⟨fun pins s σ H Q I h => ?_⟩
  refine attr_of hb (thn (he.run pins s σ H _ I h) fun u s1 hh => ?_)
  obtain ⟨x, H1, I1, rx, a0, C, d, ps, v, ex, h1, h2, T, hno, l, q⟩ := hh
  subst ex
  obtain rfl : u = Value.ref a0 := rx
  obtain ⟨oe, od, J, hl⟩ := inst_exc I1 h1 h2
  obtain ⟨u, hu, ru⟩ := hl _ _ l
  exact HandSPX.exc_get I1.kIn J T.hg T.hk T.hs (PySem.W.findObj_own T.hd hno rfl hu) (handed_of ru) ⟨v, H1, I1.tok _, ru, q⟩
def FldX (K : PySem.W.Frag) (f : Str) (Cs : List Str) : Prop := ∀ C ∈ Cs, ExcC K (He.ga K C) ∧ PySem.W.findIn K (.ref (He.ga K C)) f = some none
theorem fldXB_ok {K : PySem.W.Frag} {f : Str} {Cs : List Str} (h : fldXB K f Cs = true) : FldX K f Cs := fun C hC => by
  obtain ⟨h1, h2⟩ := Bool.and_eq_true_iff.mp (List.all_eq_true.mp h C hC)
  exact ⟨excCB_ok h1, He.eqO_ok h2⟩
def pFldX (Cs : List Str) (f : Str) (pa : PEt) : PEt := fun ρ Q R => pa ρ (fun d ρ1 => match d with
  | .node (.exc C fs) ds => C ∈ Cs ∧ match lookF f fs ds with | some z => Q z ρ1 | none => False
  | _ => False) R
theorem d_fldX {Cs : List Str} {f : Str} (hf : FldX G.K f Cs) (ha : DE G X a pa) (hb : attributeBase a f X.env (eval a X.env) = eval a X.env := by rfl) (hK : X.K = G.K := by rfl) : DE G X (.Attribute a f pos) (pFldX Cs f pa) := by
  refine DE.of (pe_fldX ha.run hb) fun F D σ H ρ Q R k rel hp hx cont => ?_
  refine simE_l F D σ H ρ _ R _ rel hp hx fun d ρ1 D1 v H1 e1 r1 q1 hp1 => ?_
  split at hp1
  · next C fs ds =>
    obtain ⟨hC, hp1⟩ := hp1
    split at hp1
    · next z ez =>
      obtain ⟨q, dd, ps, rfl, h1, h2, h3, h4⟩ := rv_exc q1
      subst h3
      obtain ⟨w, h5, h6⟩ := rv_field h4 ez
      rw [zip_map] at h5
      rw [hK]
      exact ⟨q, _, dd, ps, w, rfl, r1.same _ _ h1, r1.same _ _ h2, (hf C hC).1, (hf C hC).2, h5, cont _ _ D1 _ H1 e1 r1 h6 hp1⟩
    · exact hp1.elim
  · exact hp1.elim
/-- the class of a value, caught exceptions among them -/
inductive TyY (K : PySem.W.Frag) (H : Hp) : V → Value → Prop where
  | base {x : V} {t : Value} (h : TyX K H x t) : TyY K H x t
  | exc {a0 C d : Addr} {ps : List (Str × V)} (h1 : H a0 = some (ExG (.ref C) (some d) a0)) (h2 : H d = some (.xd ps)) (T : ExcC K C) : TyY K H (.ref a0) (.ref C)
theorem kitx_exc {K : PySem.W.Frag} {x D : Addr} {ox : Obj} {od : Option Obj} (T : ExcC K D) : PySem.W.KitX K (.ref x) (.ref D) (fun h => PySem.W.InstAt h x ox D od) where
  ty := fun _ _ _ I => I.type
  it := fun _ _ X _ => by
    obtain ⟨cdD, hcD, _⟩ := PySem.W.any_some T.hd
    unfold PySem.W.clsIn at hcD
    split at hcD
    · rename_i c' d' cd' sl' ho
      intro A' Q' E' s' k q
      unfold isType loadHead
      exact wpAny_bind (wpAny_loadPart (k _ _ (X _ _ ho)) (wpAny_pure q))
    · cases hcD
  ne := fun h tp dd its n sl X htp => by
    obtain ⟨cdD, hcD, _⟩ := PySem.W.any_some T.hd
    refine Bool.eq_false_iff.mpr fun q => ?_
    have e : D = tp := Value.ref.inj (beq_iff_eq.mp q)
    subst e
    unfold PySem.W.clsIn at hcD
    split at hcD
    · rename_i c' d' cd' sl' ho
      have z := (X _ _ ho).symm.trans htp
      cases z
    · cases hcD
  ca := fun X I k => PySem.W.kx_classE X I T.hg T.hk T.hs (PySem.W.findObj_dataE (by obtain ⟨cd, hc, _⟩ := PySem.W.any_some T.hd; rw [hc]; rfl) T.ha T.hn T.ht) T.hm k
theorem kit_ofY {pins : List (Addr × Obj)} {σ : L2.St} {H : Hp} {s : Shared} {y : V} {u t : Value} (I : Inv X pins σ H s) (rx : RelV y u) (ty : TyY X.K H y t) : ∃ P : Heap → Prop, PySem.W.KitX X.K u t P ∧ P s.heap ∧ u ≠ .builtin "__main__.__loader__#opaque" := by
  cases ty with
  | base h => exact kit_of I rx h
  | @exc a0 C d ps h1 h2 T =>
    obtain rfl : u = Value.ref a0 := rx
    obtain ⟨oe, od, J, _⟩ := inst_exc I h1 h2
    exact ⟨_, kitx_exc T, J, fun z => nomatch z⟩
def rIsY (K : PySem.W.Frag) : List V → Hp → VK → Prop := fun xs H Q => ∃ (y c : V) (t u : Value) (b : Bool), xs = [y, c] ∧ ClsV c u ∧ TyY K H y t ∧ PySem.W.kitOne K t u = some b ∧ Q (.bl b) H
def rIsYT (K : PySem.W.Frag) : List V → Hp → VK → Prop := fun xs H Q => ∃ (y : V) (tp : Addr) (cs : List V) (t : Value) (us : List Value) (b : Bool), xs = [y, .ref tp] ∧ H tp = some (.tup cs) ∧ Paired ClsV cs us ∧ TyY K H y t ∧ PySem.W.kitAny K t us = some b ∧ Q (.bl b) H
theorem call_isY : CallR X (.builtin "isinstance") (rIsY X.K) := by
  intro pins s σ H xs us Q I r h
  obtain ⟨x, c, t, u, b, rfl, k, ty, e, q⟩ := h
  obtain ⟨u1, u2, rfl, r1, r2⟩ := vals2 r
  have e2 := k.eq r2
  subst e2
  obtain ⟨P, Z, p, hx⟩ := kit_ofY I r1 ty
  exact PySem.W.kia_one Z I.kIn p e hx fun tk => ⟨.bl b, H, I.tok tk, rfl, q⟩
theorem call_isYT : CallR X (.builtin "isinstance") (rIsYT X.K) := by
  intro pins s σ H xs us Q I r h
  obtain ⟨x, tp, cs, t, ws, b, rfl, hT, k, ty, e, q⟩ := h
  obtain ⟨u1, u2, rfl, r1, r2⟩ := vals2 r
  cases (show u2 = Value.ref tp from r2)
  obtain ⟨P, Z, p, hx⟩ := kit_ofY I r1 ty
  obtain ⟨_, its, rv, o, h1, h2, n, h3⟩ := (show ObjOk X.prog X.w H s.heap tp (.tup cs) from I.hok tp _ hT)
  have e3 := ClsV.all k rv
  subst e3
  obtain ⟨oc, od, dt, sl⟩ := o
  simp only at h2 h3
  subst h2 h3
  exact PySem.W.kia_tup Z I.kIn p h1 e hx fun tk => ⟨.bl b, H, I.tok tk, rfl, q⟩
def tyName : DV → Option String
  | .non => some "NoneType"
  | .bl _ => some "bool"
  | .int _ => some "int"
  | .str _ => some "str"
  | .node .lst _ => some "list"
  | .node .tup _ => some "tuple"
  | .node (.dct _) _ => some "dict"
  | _ => none
theorem tyName_in {d : DV} {n : String} (h : tyName d = some n) : n ∈ tyNames := by
  unfold tyName at h
  split at h <;> cases h <;> decide
theorem rv_ty {K : PySem.W.Frag} {D H : Hp} {v : V} {d : DV} {n : String} (h : Rv K D v d) (sd : Same D H) (e : tyName d = some n) : TyX K H v (.type n) := by
  cases h with
  | non => cases e; exact .base .non
  | bl b => cases e; exact .base (.bl b)
  | int i => cases e; exact .base (.int i)
  | str z => cases e; exact .base (.str z)
  | raw v => cases e
  | lst h1 _ => cases e; exact .base (.lst (sd _ _ h1))
  | tup h1 _ => cases e; exact .base (.tup (sd _ _ h1))
  | ins _ _ _ => cases e
  | exc _ _ _ _ => cases e
  | dct h1 _ _ => cases e; exact .base (.dK (sd _ _ h1))
/-- what typeof(x) of an instance asks of its class -/
structure InsTy (K : PySem.W.Frag) (C : Addr) : Prop where
  cl : Cls K C
  ca : PySem.W.findIn K (.ref C) "__class__" = some (some (.builtin "object.__class__"))
  cn : PySem.W.specialIn K (.builtin "object.__class__") "__get__" = some (some (.builtin "getset_descriptor.__get__"))
  ct : PySem.W.takesIn K (.builtin "object.__class__") = some true
  ob : PySem.W.mroIn K C (.type "object") = some true
theorem InsTy.ty {K : PySem.W.Frag} {D H : Hp} {y : V} {C : Str} {fs : List Str} {ds : List DV} (h : InsTy K (He.ga K C)) (sd : Same D H) (r : Rv K D y (.node (.ins C fs) ds)) : TyX K H y (.ref (He.ga K C)) := by
  obtain ⟨a, dx, vs, rfl, h1, _, _⟩ := rv_ins r
  exact .base (.ins (sd _ _ h1) h.cl h.ca h.cn h.ct h.ob)
def isA (K : PySem.W.Frag) (T : ExT) : DV → DV → Bool → Prop
  | .node (.ins C _) _, .raw (.ty n), b => InsTy K (He.ga K C) ∧ PySem.W.kitOne K (.ref (He.ga K C)) (.type n) = some b
  | .node (.ins C _) _, .raw (.ref A), b => InsTy K (He.ga K C) ∧ PySem.W.kitOne K (.ref (He.ga K C)) (.ref A) = some b
  | a, .raw (.ty n), b => ∃ t, tyName a = some t ∧ kitB t n = some b
  | .node (.exc y _) _, .raw (.ref A), b => ∃ C, A = He.ga K C ∧ subX T y C = some b
  | a, .raw (.ref A), b => ∃ C, A = He.ga K C ∧ (T.lookup C).isSome = true ∧ (tyName a).isSome = true ∧ b = false
  | _, _, _ => False
def isClsD : DV → Bool
  | .raw (.ty _) => true
  | .raw (.ref _) => true
  | _ => false
def isAny (K : PySem.W.Frag) (T : ExT) (a : DV) : List DV → Bool → Prop
  | [], b => b = false
  | c :: cs, b => (isA K T a c true ∧ b = true) ∨ (isA K T a c false ∧ isAny K T a cs b)
def oIsi (K : PySem.W.Frag) (T : ExT) : ON := fun ds Q => match ds with
  | [a, .node .tup cs] => cs.all isClsD = true ∧ cs ≠ [] ∧ ∃ b, isAny K T a cs b ∧ Q (.bl b)
  | [a, c] => ∃ b, isA K T a c b ∧ Q (.bl b)
  | _ => False
def tyVal (K : PySem.W.Frag) : DV → Value
  | .node (.exc y _) _ => .ref (He.ga K y)
  | .node (.ins y _) _ => .ref (He.ga K y)
  | a => .type ((tyName a).getD "")
theorem tyVal_ty {K : PySem.W.Frag} {a : DV} {n : String} (h : tyName a = some n) : tyVal K a = .type n := by
  unfold tyVal
  split
  · cases h
  · cases h
  · rw [h]; rfl
theorem isA_kit {K : PySem.W.Frag} {T : ExT} {D H : Hp} {y c : V} {a d : DV} {b : Bool} (hx : excsB K T = true) (hk : kitXB K T = true) (sd : Same D H) (ra : Rv K D y a) (rc : Rv K D c d) (h : isA K T a d b) : ∃ u, ClsV c u ∧ TyY K H y (tyVal K a) ∧ PySem.W.kitOne K (tyVal K a) u = some b := by
  unfold isA at h
  split at h
  · cases rv_raw rc
    exact ⟨_, .ty _, .base (h.1.ty sd ra), h.2⟩
  · cases rv_raw rc
    exact ⟨_, .own _, .base (h.1.ty sd ra), h.2⟩
  · obtain ⟨t, e1, e2⟩ := h
    cases rv_raw rc
    rw [tyVal_ty e1]
    exact ⟨_, .ty _, .base (rv_ty ra sd e1), kit_ty e2⟩
  · obtain ⟨C, rfl, e⟩ := h
    cases rv_raw rc
    obtain ⟨q, dd, ps, rfl, h1, h2, h3, h4⟩ := rv_exc ra
    exact ⟨_, .own _, .exc (sd _ _ h1) (sd _ _ h2) (excsB_ok hx e), kitXB_ok hk e⟩
  · obtain ⟨C, rfl, e1, e2, rfl⟩ := h
    cases rv_raw rc
    obtain ⟨n, e3⟩ := Option.isSome_iff_exists.mp e2
    rw [tyVal_ty e3]
    exact ⟨_, .own _, .base (rv_ty ra sd e3), kitXB_ty hk (tyName_in e3) e1⟩
  · exact h.elim
theorem rv_cls {K : PySem.W.Frag} {D : Hp} {c : V} {d : DV} (rc : Rv K D c d) (h : isClsD d = true) : ∃ u, ClsV c u := by
  unfold isClsD at h
  split at h
  · cases rv_raw rc; exact ⟨_, .ty _⟩
  · cases rv_raw rc; exact ⟨_, .own _⟩
  · cases h
theorem rv_clss {K : PySem.W.Frag} {D : Hp} : ∀ {cs : List V} {ds : List DV}, RvA K D cs ds → ds.all isClsD = true → ∃ us, Paired ClsV cs us
  | _, _, .nil, _ => ⟨[], .nil⟩
  | _, _, .cons r1 r2, hc => by
    rw [List.all_cons] at hc
    obtain ⟨c1, c2⟩ := Bool.and_eq_true_iff.mp hc
    obtain ⟨u, k⟩ := rv_cls r1 c1
    obtain ⟨us, ks⟩ := rv_clss r2 c2
    exact ⟨u :: us, .cons k ks⟩
theorem isAny_kit {K : PySem.W.Frag} {T : ExT} {D H : Hp} {y : V} {a : DV} {b : Bool} (hx : excsB K T = true) (hk : kitXB K T = true) (sd : Same D H) (ra : Rv K D y a) : ∀ {cs : List V} {ds : List DV}, RvA K D cs ds → ds.all isClsD = true → isAny K T a ds b → ∃ us, Paired ClsV cs us ∧ PySem.W.kitAny K (tyVal K a) us = some b ∧ (ds ≠ [] → TyY K H y (tyVal K a))
  | _, _, .nil, _, h => by
    have h : b = false := h
    subst h
    exact ⟨[], .nil, kitAny_nil, fun z => absurd rfl z⟩
  | _, _, .cons rc rr, hc, h => by
    rw [List.all_cons] at hc
    obtain ⟨c1, c2⟩ := Bool.and_eq_true_iff.mp hc
    rcases h with ⟨h, rfl⟩ | ⟨h, h2⟩
    · obtain ⟨u, k, ty, e⟩ := isA_kit hx hk sd ra rc h
      obtain ⟨us, ks⟩ := rv_clss rr c2
      exact ⟨u :: us, .cons k ks, kitAny_cons e (fun z => nomatch z) fun _ => rfl, fun _ => ty⟩
    · obtain ⟨u, k, ty, e⟩ := isA_kit hx hk sd ra rc h
      obtain ⟨us, ks, e2, _⟩ := isAny_kit hx hk sd ra rr c2 h2
      exact ⟨u :: us, .cons k ks, kitAny_cons e (fun _ => e2) (fun z => nomatch z), fun _ => ty⟩
theorem c_isi {T : ExT} (hx : excsB G.K T = true) (hk : kitXB G.K T = true) (hK : X.K = G.K := by rfl) : CallD G X (.builtin "isinstance") (oIsi G.K T) := by
  refine ⟨_, CallR.or call_isY call_isYT, fun F D σ H ρ vs ds Q k rel rv ho cont => ?_⟩
  unfold oIsi at ho
  split at ho
  · next a cs =>
    obtain ⟨hc, hn, b, h, q⟩ := ho
    obtain ⟨y, c, rfl, ra, rc⟩ := rvA2 rv
    obtain ⟨tp, cv, rfl, h1, h2⟩ := rv_tup rc
    obtain ⟨us, ks, e, ty⟩ := isAny_kit hx hk rel.same ra h2 hc h
    rw [hK]
    exact .inr ⟨y, tp, cv, _, us, b, rfl, rel.same _ _ h1, ks, ty hn, e, cont _ _ D H (Same.refl D) rel (.bl b) q⟩
  · next a c _ =>
    obtain ⟨b, h, q⟩ := ho
    obtain ⟨y, cv, rfl, ra, rc⟩ := rvA2 rv
    obtain ⟨u, k1, ty, e⟩ := isA_kit hx hk rel.same ra rc h
    rw [hK]
    exact .inl ⟨y, cv, _, u, b, rfl, k1, ty, e, cont _ _ D H (Same.refl D) rel (.bl b) q⟩
  · exact ho.elim
end
end Rg

set_option Elab.async false
set_option linter.all false
set_option maxRecDepth 100000
set_option maxHeartbeats 4000000
namespace Rg
open PySem PySem.Spec PyProof.Rows L2
section
variable {G : Gx} {X : Cx} {a b c e o : Expr} {es : List Expr} {pos p p2 apos : Pos} {pl : PAt} {pa pb : PEt} {x : Str}
def pGetO (C : Str) (Fn : List DV → Nat → (DV → Nat → Prop) → PR → Prop) (pa pb : PEt) : PEt := fun ρ Q R => pa ρ (fun d ρ1 => pb ρ1 (fun d2 ρ2 => isC C d = true ∧ Fn [d, d2] ρ2.ink (fun z n => Q z { ρ2 with ink := n }) R) R) R
theorem d_getO {CX : CXT} {k j : Nat} {C : Str} {Fn : PFn} (c0 : MetX X.prog X.w X.K X.mg X.base CX k (He.ga G.K C) "__getitem__" (spP G.K Fn)) (hfn : ∀ f, Meth X.K (He.ga G.K C) "__getitem__" f → PySem.W.fnIn X.K f = true) (hr : Room j X.A) (hk : k + 1 ≤ j) (hx : Passes CX X G.E) (ha : DE G X a pa) (hb : DE G X b pb)
    (hsl : ∀ x i, subscripted b true (.ref x) i = runValue (.builtin "lifetime.subscript" ⟨[.ref x, i], []⟩) := by intro _ _; rfl) : DE G X (.Subscript a b pos) (pGetO C (Fn G.pn) pa pb) := by
  refine DE.of (pe_ixO c0 hfn hr hk hx ha.run hb.run hsl) fun F D σ H ρ Q R k rel hp hx cont => ?_
  refine simE_l F D σ H ρ _ R _ rel hp hx fun d ρ1 D1 v H1 e1 r1 q1 hp1 => ?_
  refine simE_l F D1 σ H1 ρ1 _ R _ r1 hp1 hx fun d2 ρ2 D2 w H2 e2 r2 q2 hp2 => ?_
  obtain ⟨h1, hp2⟩ := hp2
  obtain ⟨q, dx, fs, rfl, h3⟩ := rv_isC0 (rv_mono e2 q1) h1
  exact ⟨q, dx, fs, rfl, r2.same _ _ h3, sp_of r2 (.cons (rv_mono e2 q1) (.cons q2 .nil)) hp2 hx fun d ρ' D' v H' s r q h => cont d ρ' D' v H' ((e1.trans e2).trans s) r q h⟩
structure DKw (G : Gx) (X : Cx) (kws : List Keyword) (p : PAt) : Prop where
  run : PK X kws (lA G p)
theorem k_nil : DKw G X [] pNil := ⟨⟨fun pos pins s σ H Q I ⟨F, D, ρ, Q0, R, rel, hp, hx, cont⟩ => pk_nil.run pos pins s σ H Q I (cont [] ρ D [] H (Same.refl D) rel .nil hp)⟩⟩
theorem k_cons {kws : List Keyword} {nm : Option Str} {kp : Pos} (ha : DE G X a pa) (hl : DKw G X kws pl) : DKw G X (⟨nm, a, kp⟩ :: kws) (pCons pa pl) := ⟨⟨fun pos pins s σ H Q I ⟨F, D, ρ, Q0, R, rel, hp, hx, cont⟩ => (pk_cons ha.run hl.run).run pos pins s σ H Q I
  ⟨F, D, ρ, _, R, rel, hp, hx, fun d ρ1 D1 v H1 e1 r1 q1 hp1 => ⟨F, D1, ρ1, _, R, r1, hp1, hx, fun ds ρ2 D2 vs H2 e2 r2 q2 hp2 => cont _ ρ2 D2 _ H2 (e1.trans e2) r2 (.cons (rv_mono e2 q1) q2) hp2⟩⟩⟩⟩
end
end Rg

set_option Elab.async false
set_option linter.all false
set_option maxRecDepth 100000
set_option maxHeartbeats 4000000
namespace Rg
open PySem PySem.Spec PyProof.Rows L2
section
variable {G : Gx} {X : Cx} {pos : Pos}
end
theorem ite_T {A B : Prop} {c : Bool} (hc : c = true) (h : A) : if c = true then A else B := by rw [if_pos hc]; exact h
theorem ite_F {A B : Prop} {c : Bool} (hc : c = false) (h : B) : if c = true then A else B := by rw [hc, if_neg Bool.false_ne_true]; exact h
theorem hRun_as {T : ExT} {out : Bool} {C : Str} {i : Nat} {q : PSt} {r : PHd} {E : PEnds} {x : Exn} {ρ : Ps} (e : subX T x.1 C = some true) (h : q (noP i E) { ρ with sl := ρ.sl.set i (some (.val (excDV x))) }) : hRun T out ((C, some i, q) :: r) E x ρ := by
  unfold hRun
  rw [e]
  exact h
end Rg

set_option Elab.async false
set_option linter.all false
set_option maxRecDepth 100000
set_option maxHeartbeats 4000000
namespace Rg
open PySem PySem.Spec PyProof.Rows L2
abbrev lamQ (K : PySem.W.Frag) (P : Addr) : Str := qnK K P ++ ".<locals>.<lambda>"
/-- the heap behind the making of a lambda: as it was, or with a new code object in the table -/
inductive Grown (H H1 : Hp) (P c' : Addr) (q : Str) (ps : Array Value) : Prop
  | hit (pos : Pos) (e : H1 = H) (h : codeAmong pos ps.toList = some (.ref c')) : Grown H H1 P c' q ps
  | new (pos : Pos) (n : H c' = none) (e : H1 = upd (upd H P (.tbl (ps ++ #[rawInt pos.line, rawInt pos.col, .ref c']))) c' (LamX.CodeO c' q)) : Grown H H1 P c' q ps
theorem Grown.step {K : PySem.W.Frag} {W : Addr → Prop} {D H H1 : Hp} {P c' : Addr} {ps : Array Value} (g : Grown H H1 P c' (lamQ K P) ps) (sd : Same D H) (t : TabD K D H P) (hp : H P = some (.tbl ps)) :
    ∃ D1, StepT K W D H D1 H1 ∧ D1 c' = some (LamX.CodeO c' (lamQ K P)) := by
  obtain ⟨d0, ps', h1, ht, hc⟩ := t
  rw [hp] at h1
  cases h1
  cases g with
  | hit pos e h =>
    subst e
    obtain ⟨c, e1, e2⟩ := hc pos _ h
    cases e1
    exact ⟨D, StepT.refl sd, e2⟩
  | new pos n e =>
    have nd : D c' = none := sd.free n
    have nP : P ≠ c' := ne_of_none hp n
    have sD : Same D (upd D c' (LamX.CodeO c' (lamQ K P))) := same_new nd
    have there : ∀ b o, H b = some o → b ≠ P → H1 b = some o := fun b o h hb => by
      rw [e, upd_ne (ne_of_none h n), upd_ne hb]
      exact h
    have atP : H1 P = some (.tbl (ps ++ #[rawInt pos.line, rawInt pos.col, .ref c'])) := by rw [e, upd_ne nP, upd_same]
    refine ⟨upd D c' (LamX.CodeO c' (lamQ K P)), ⟨sD, fun b u h => ?_, fun b o _ hn h => ?_, fun b h => ?_, fun b h hd => ?_, fun b _ tb => ?_⟩, upd_same⟩
    · by_cases q : b = c'
      · rw [q, upd_same] at h
        rw [q, e, upd_same]
        exact h
      · rw [upd_ne q] at h
        exact there b u (sd b u h) fun z => by rw [z, d0] at h; cases h
    · exact there b o h fun z => by
        rw [z, hp] at h
        cases h
        exact hn
    · rw [e]
      exact upd_ne_none (upd_ne_none h)
    · have ne : b ≠ c' := fun z => h (z ▸ n)
      rw [upd_ne ne]
      exact hd
    · by_cases hb : b = P
      · subst hb
        have eL : (ps ++ #[rawInt pos.line, rawInt pos.col, .ref c']).toList = ps.toList ++ [rawInt pos.line, rawInt pos.col, .ref c'] := by simp
        refine ⟨by rw [upd_ne nP]; exact d0, _, atP, by rw [eL]; exact PySem.TriplesOk_snoc _ _ _ _ ht, fun p' cv hcv => ?_⟩
        rw [eL] at hcv
        rcases LamX.among_app _ ht hcv with z | z
        · obtain ⟨c0, e1, e2⟩ := hc p' cv z
          exact ⟨c0, e1, sD _ _ e2⟩
        · exact ⟨c', z, upd_same⟩
      · have hn := tb.there
        have ne : b ≠ c' := fun z => hn (z ▸ n)
        obtain ⟨g0, qs, g1, g2, g3⟩ := tb
        exact ⟨by rw [upd_ne ne]; exact g0, qs, there b _ g1 hb, g2, fun p' cv hcv => let ⟨c0, e1, e2⟩ := g3 p' cv hcv; ⟨c0, e1, sD _ _ e2⟩⟩
section
variable {X : Cx} {pins : List (Addr × Obj)} {σ : L2.St} {H : Hp} {s : Shared}
end
section
variable {X : Cx} {pins : List (Addr × Obj)} {σ : L2.St} {H : Hp} {s : Shared}
end
end Rg

set_option Elab.async false
set_option linter.all false
set_option maxRecDepth 100000
set_option maxHeartbeats 4000000
namespace Rg
open PySem PySem.Spec PyProof.Rows L2
section
variable {G : Gx} {X : Cx} {pb : Hp → Hp → PRt}
end
section
variable {P : Program} {w : World} {K : PySem.W.Frag} {mg : Str → Option Value} {base : Heap}
variable {CX : CXT} {x qual : Str} {params : Arguments} {body : List Stmt} {scope : Scope} {dvs : List V} {kws : List (Str × V)} {f : Addr} {fd : FuncData} {N ps : List Str} {k : Nat} {Fn : PFn} {T : List Addr}
end
section
variable {G : Gx} {X : Cx} {e : Expr} {es : List Expr} {pos p : Pos} {pl : PAt} {x : Str}
end
end Rg

set_option Elab.async false
set_option linter.all false
set_option maxRecDepth 100000
set_option maxHeartbeats 4000000
namespace Rg
open PySem PySem.Spec PyProof.Rows L2
end Rg

set_option Elab.async false
set_option linter.all false
set_option maxRecDepth 100000
set_option maxHeartbeats 4000000
namespace Rg
open PySem PySem.Spec PyProof.Rows L2
section
variable {X : Cx} {CX : CXT} {k j : Nat} {C f a : Addr} {fd : FuncData} {ps : List Str} {sp : Sp} {E : XK} {m : Str} {p pos apos : Pos} {o e : Expr} {es : List Expr} {ta tb : TE} {t : TA}
end
section
variable {G : Gx} {X : Cx} {a b c e tg : Expr} {es : List Expr} {pos p : Pos} {pa pb pc : PEt} {pl : PAt} {x : Str}
end
end Rg

set_option Elab.async false
set_option linter.all false
set_option maxRecDepth 100000
set_option maxHeartbeats 4000000
namespace Rg
open PySem PySem.Spec PyProof.Rows L2
abbrev PPt := Ps → (Option Int → Ps → Prop) → PR → Prop
def lO (G : Gx) (p : PPt) : TO := fun σ H k => ∃ (F : List (Addr × HO)) (D : Hp) (ρ : Ps) (Q : Option Int → Ps → Prop) (R : PR), Rel G F D σ H ρ ∧ p ρ Q R ∧ ExOk G R ∧ ∀ o ρ' D' H', Same D D' → Rel G F D' σ H' ρ' → Q o ρ' → k o H'
structure DO (G : Gx) (X : Cx) (e : Option Expr) (p : PPt) : Prop where
  run : PO X e (lO G p)
def cutD (ds : List DV) (lo hi : Option Int) : List DV := (ds.drop (HT.sIx ds.length 0 lo)).take (HT.sIx ds.length ds.length hi - HT.sIx ds.length 0 lo)
theorem rvA_cut {K : PySem.W.Frag} {D : Hp} {vs : List V} {ds : List DV} (h : RvA K D vs ds) (lo hi : Option Int) : RvA K D (cutV vs lo hi) (cutD ds lo hi) := by
  unfold cutV cutD
  rw [rvA_len h]
  exact rvA_take _ (rvA_drop _ h)
section
variable {G : Gx} {X : Cx} {a b c e : Expr} {lo hi : Option Expr} {pos p2 : Pos} {pa pb pc : PEt} {pl ph : PPt}
def pPN : PPt := fun ρ Q _ => Q none ρ
def pPS (pa : PEt) : PPt := fun ρ Q R => pa ρ (fun d ρ1 => match d with
  | .int i => Q (some i) ρ1
  | _ => False) R
theorem o_none : DO G X none pPN := ⟨⟨fun pins s σ H Q I ⟨F, D, ρ, Q0, R, rel, hp, hx, cont⟩ => po_none.run pins s σ H Q I (cont none ρ D H (Same.refl D) rel hp)⟩⟩
theorem o_some (h : DE G X e pa) : DO G X (some e) (pPS pa) := ⟨⟨fun pins s σ H Q I ⟨F, D, ρ, Q0, R, rel, hp, hx, cont⟩ => (po_some h.run).run pins s σ H Q I
  (simE_l F D σ H ρ _ R _ rel hp hx fun d ρ1 D1 v H1 e1 r1 q1 hp1 => by
    split at hp1
    · exact ⟨_, rv_int q1, cont _ ρ1 D1 H1 e1 r1 hp1⟩
    · exact hp1.elim)⟩⟩
def pSl (pa : PEt) (pl ph : PPt) : PEt := fun ρ Q R => pa ρ (fun d ρ1 => pl ρ1 (fun lo ρ2 => ph ρ2 (fun hi ρ3 => match d with
  | .str z => z.length ≤ sizeLine ∧ Q (.str (cutS z lo hi)) ρ3
  | .node .lst ds => Q (.lst (cutD ds lo hi)) ρ3
  | .node .tup ds => ¬ (HT.sIx ds.length 0 lo = 0 ∧ HT.sIx ds.length ds.length hi = ds.length) ∧ Q (.tup (cutD ds lo hi)) ρ3
  | _ => False) R) R) R
theorem d_slice (ha : DE G X a pa) (hl : DO G X lo pl) (hh : DO G X hi ph) (hK : X.K = G.K := by rfl) : DE G X (.Subscript a (.Slice lo hi none p2) pos) (pSl pa pl ph) := by
  refine DE.of (pe_slice (SlR.or sl_str (SlR.or (sl_listK G.K hK) (sl_tupK G.K hK))) ha.run hl.run hh.run) fun F D σ H ρ Q R k rel hp hx cont => ?_
  refine simE_l F D σ H ρ _ R _ rel hp hx fun d ρ1 D1 v H1 e1 r1 q1 hp1 => ?_
  refine ⟨F, D1, ρ1, _, R, r1, hp1, hx, fun o2 ρ2 D2 H2 e2 r2 hp2 => ?_⟩
  refine ⟨F, D2, ρ2, _, R, r2, hp2, hx, fun o3 ρ3 D3 H3 e3 r3 hp3 => ?_⟩
  have q3 := rv_mono (e2.trans e3) q1
  split at hp3
  · next z =>
    exact .inl ⟨z, rv_str q3, hp3.1, cont _ ρ3 D3 _ H3 ((e1.trans e2).trans e3) r3 (.str _) hp3.2⟩
  · next ds =>
    obtain ⟨x, vs, rfl, h1, h2⟩ := rv_lst q3
    exact .inr (.inl ⟨x, vs, rfl, SqL.of (r3.same _ _ h1), fun p np => cont _ ρ3 _ _ _ (((e1.trans e2).trans e3).trans (r3.newS np)) (r3.new np) (.lst upd_same (rvA_mono (r3.newS np) (rvA_cut h2 o2 o3))) hp3⟩)
  · next ds =>
    obtain ⟨x, vs, rfl, h1, h2⟩ := rv_tup q3
    exact .inr (.inr ⟨x, vs, rfl, SqT.of (r3.same _ _ h1), by rw [rvA_len h2]; exact hp3.1, fun p np => cont _ ρ3 _ _ _ (((e1.trans e2).trans e3).trans (r3.newS np)) (r3.new np) (.tup upd_same (rvA_mono (r3.newS np) (rvA_cut h2 o2 o3))) hp3.2⟩)
  · exact hp3.elim
end
def pKVs : List (PEt × PEt) → (List (Key × DV) → Ps → Prop) → PR → Ps → Prop
  | [], Q, _, ρ => Q [] ρ
  | (pk, pv) :: r, Q, R, ρ => pk ρ (fun k ρ1 => pv ρ1 (fun d ρ2 => match keyOf k with
    | some kk => pKVs r (fun ds ρ3 => Q ((kk, d) :: ds) ρ3) R ρ2
    | none => False) R) R
def mergeD (more : List (Key × DV)) : List (Key × DV) := more.foldl (fun acc kv => dput acc kv.1 kv.2) []
theorem rvP_merge {K : PySem.W.Frag} {D : Hp} : ∀ {vs : List (Key × V)} {ds : List (Key × DV)} {v0 : List (Key × V)} {d0 : List (Key × DV)}, RvP K D vs ds → RvP K D v0 d0 → RvP K D (mergeK v0 vs) (ds.foldl (fun acc kv => dput acc kv.1 kv.2) d0)
  | _, _, _, _, .nil, h0 => h0
  | p :: vs, q :: ds, v0, d0, .cons a b, h0 => by
    show RvP K D (mergeK (putK v0 p.1 p.2) vs) _
    rw [List.foldl_cons]
    refine rvP_merge b ?_
    rw [a.1]
    exact rvP_put _ a.2 h0
section
variable {G : Gx} {X : Cx} {pos : Pos}
inductive DKV (G : Gx) (X : Cx) : List (Option Expr) → List Expr → List (PEt × PEt) → Prop
  | nil : DKV G X [] [] []
  | cons {k v : Expr} {ks : List (Option Expr)} {vs : List Expr} {pk pv : PEt} {l : List (PEt × PEt)} : DE G X k pk → DE G X v pv → DKV G X ks vs l → DKV G X (some k :: ks) (v :: vs) ((pk, pv) :: l)
theorem DKV.pps {ks : List (Option Expr)} {vs : List Expr} {l : List (PEt × PEt)} (h : DKV G X ks vs l) : PPs X pos ks vs (l.map fun p => (lE G p.1, lE G p.2)) := by
  induction h with
  | nil => exact pps_nil
  | cons a b _ ih => exact pps_cons a.run b.run ih
theorem DKV.len {ks : List (Option Expr)} {vs : List Expr} {l : List (PEt × PEt)} (h : DKV G X ks vs l) : l.length = ks.length := by
  induction h with
  | nil => rfl
  | cons _ _ _ ih => exact congrArg Nat.succ ih
theorem sim_kvs : ∀ {l : List (PEt × PEt)} {F : List (Addr × HO)} {D : Hp} {σ : L2.St} {H : Hp} {ρ : Ps} {Q : List (Key × DV) → Ps → Prop} {R : PR} {k : List (V × V) → Hp → Prop}, Rel G F D σ H ρ → pKVs l Q R ρ → ExOk G R →
    (∀ (ds : List (Key × DV)) (vs : List (Key × V)) ρ' D' H', Same D D' → Rel G F D' σ H' ρ' → RvP G.K D' vs ds → vs.length = l.length → Q ds ρ' → k (vs.map fun kv => (kV kv.1, kv.2)) H') → tPairs (l.map fun p => (lE G p.1, lE G p.2)) σ H k
  | [], F, D, σ, H, ρ, Q, R, k, rel, hp, hx, cont => cont [] [] ρ D H (Same.refl D) rel .nil rfl hp
  | (pk, pv) :: l, F, D, σ, H, ρ, Q, R, k, rel, hp, hx, cont => by
    refine simE_l F D σ H ρ _ R _ rel hp hx fun kd ρ1 D1 v1 H1 e1 r1 q1 hp1 => ?_
    refine simE_l F D1 σ H1 ρ1 _ R _ r1 hp1 hx fun d ρ2 D2 v2 H2 e2 r2 q2 hp2 => ?_
    split at hp2
    · next kk ek =>
      have e3 := rv_key (rv_mono e2 q1) ek
      subst e3
      refine sim_kvs r2 hp2 hx fun ds vs ρ' D' H' s r rv hl q => ?_
      exact cont ((kk, d) :: ds) ((kk, v2) :: vs) ρ' D' H' ((e1.trans e2).trans s) r (.cons ⟨rfl, rv_mono s q2⟩ rv) (by rw [List.length_cons, hl]; rfl) q
    · exact hp2.elim
end
end Rg

set_option Elab.async false
set_option linter.all false
set_option maxRecDepth 100000
set_option maxHeartbeats 4000000
namespace Rg
open PySem PySem.Spec PyProof.Rows L2
section
variable {G : Gx} {X : Cx} {a b c e : Expr} {es : List Expr} {pos p : Pos} {pa pb pc : PEt} {pl : PAt} {x : Str}
/-- -i -/
def pNeg (pa : PEt) : PEt := fun ρ Q R => pa ρ (fun d ρ1 => match d with
  | .int i => Q (.int (-i)) ρ1
  | _ => False) R
theorem d_neg (ha : DE G X a pa) : DE G X (.UnaryOp .USub a pos) (pNeg pa) := by
  refine DE.of (pe_un un_neg ha.run) fun F D σ H ρ Q R k rel hp hx cont => ?_
  refine simE_l F D σ H ρ _ R _ rel hp hx fun d ρ1 D1 v H1 e1 r1 q1 hp1 => ?_
  split at hp1
  · exact ⟨_, rv_int q1, cont _ ρ1 D1 _ H1 e1 r1 (.int _) hp1⟩
  · exact hp1.elim
end
end Rg

set_option Elab.async false
set_option linter.all false
set_option maxRecDepth 100000
set_option maxHeartbeats 4000000
namespace Rg
open PySem PySem.Spec PyProof.Rows L2
section
variable {G : Gx} {X : Cx} {a b c e : Expr} {es : List Expr} {pos p : Pos} {pa pb pc : PEt} {pl : PAt} {x : Str}
/-- {} -/
theorem d_dct0 : DE G X (.Dict [] [] pos) (pC (.node (.dct []) [])) := DE.of pe_dnewK fun F D σ H ρ Q R k rel hp hx cont q hq =>
  cont _ _ _ _ _ (rel.newS hq) (rel.new hq) (.dct (ks := []) (vs := []) upd_same rfl .nil) hp
/-- x.join(list of texts) -/
def textsOf : List DV → Option (List Str)
  | [] => some []
  | .str z :: ds => (textsOf ds).map (z :: ·)
  | _ => none
theorem rvA_texts {K : PySem.W.Frag} {D : Hp} : ∀ {vs : List V} {ds : List DV} {ys : List Str}, RvA K D vs ds → textsOf ds = some ys → vs = ys.map V.str
  | _, [], _, .nil, e => by cases e; rfl
  | _, d :: ds, ys, .cons r1 r2, e => by
    cases d with
    | str z =>
      obtain ⟨zs, e1, rfl⟩ := Option.map_eq_some_iff.mp (show (textsOf ds).map (z :: ·) = some ys from e)
      rw [rv_str r1, rvA_texts r2 e1]
      rfl
    | _ => cases e
def pJoin (pa pb : PEt) : PEt := fun ρ Q R => pa ρ (fun d ρ1 => match d with
  | .str z => pb ρ1 (fun d2 ρ2 => match d2 with
    | .node .lst ds => ∃ ys, textsOf ds = some ys ∧ (ys.map (·.length)).sum + ys.length * z.length ≤ 16777216 ∧ Q (.str (Txt.join z ys)) ρ2
    | _ => False) R
  | _ => False) R
theorem d_join {apos : Pos} (ha : DE G X a pa) (hb : DE G X b pb) (hs : starEach [b] X.env = [(false, eval b X.env)] := by rfl) (hbase : attributeBase a "join" X.env (eval a X.env) = eval a X.env := by rfl) (hline : (apos.endLine == pos.line) = true := by rfl) : DE G X (.Call (.Attribute a "join" apos) [b] [] pos) (pJoin pa pb) := by
  refine DE.of (pe_join ha.run hb.run hs hbase hline) fun F D σ H ρ Q R k rel hp hx cont => ?_
  refine simE_l F D σ H ρ _ R _ rel hp hx fun d ρ1 D1 v H1 e1 r1 q1 hp1 => ?_
  split at hp1
  · next z =>
    refine ⟨⟨z, rv_str q1⟩, simE_l F D1 σ H1 ρ1 _ R _ r1 hp1 hx fun d2 ρ2 D2 v2 H2 e2 r2 q2 hp2 => ?_⟩
    split at hp2
    · next ds =>
      obtain ⟨ys, h1, h2, h3⟩ := hp2
      obtain ⟨q, vs, rfl, h4, h5⟩ := rv_lst q2
      have ev := rvA_texts h5 h1
      subst ev
      exact ⟨z, q, ys, rv_str q1, rfl, .inl (SqL.of (r2.same _ _ h4)), h2, cont _ ρ2 D2 _ H2 (e1.trans e2) r2 (.str _) h3⟩
    · exact hp2.elim
  · exact hp1.elim
end
section
variable {X : Cx} {CX : CXT} {k j : Nat} {C f : Addr} {fd : FuncData} {ps : List Str} {sp : Sp} {pos : Pos} {ta tb : TE}
end
section
variable {G : Gx} {X : Cx} {a b : Expr} {pos : Pos} {pa pb : PEt}
end
end Rg

set_option Elab.async false
set_option linter.all false
set_option maxRecDepth 100000
set_option maxHeartbeats 4000000
namespace Rg
open PySem PySem.Spec PyProof.Rows L2
section
variable {G : Gx} {X : Cx} {a b c e : Expr} {pos : Pos} {pa pb pc : PEt} {o o' : O2}
theorem d_chain {op op' : CmpOp} (ho : BinD G X (compareOp op) o) (ho' : BinD G X (compareOp op') o') (ha : DE G X a pa) (hb : DE G X b pb) (hc : DE G X c pc) (hm : lastMarks [op, op'] [b, c] = false := by with_unfolding_all rfl) :
    DE G X (.Compare a [op, op'] [b, c] pos) (pChain o o' pa pb pc) := by
  obtain ⟨r, h, s⟩ := ho.ex
  obtain ⟨r', h', s'⟩ := ho'.ex
  refine DE.of (pe_chain h h' ha.run hb.run hc.run hm) fun F D σ H ρ Q R k rel hp hx cont => ?_
  refine simE_l F D σ H ρ _ R _ rel hp hx fun x ρ1 D1 v H1 e1 r1 q1 hp1 => ?_
  refine simE_l F D1 σ H1 ρ1 _ R _ r1 hp1 hx fun y ρ2 D2 w H2 e2 r2 q2 hp2 => ?_
  refine s F D2 σ H2 ρ2 v w x y _ _ r2 (rv_mono e2 q1) q2 hp2 fun z vz D3 H3 e3 r3 q3 hz => ?_
  have e13 := (e1.trans e2).trans e3
  match z, q3, hz with
  | .bl true, q3, hz =>
    refine ⟨true, rv_bl q3, ?_⟩
    rw [if_pos rfl]
    refine simE_l F D3 σ H3 ρ2 _ R _ r3 hz hx fun w' ρ3 D4 v4 H4 e4 r4 q4 hp4 => ?_
    refine s' F D4 σ H4 ρ3 w v4 y w' _ _ r4 (rv_mono (e3.trans e4) q2) q4 hp4 fun u vu D5 H5 e5 r5 q5 hu => ?_
    cases u with
    | bl k => exact cont _ ρ3 D5 vu H5 ((e13.trans e4).trans e5) r5 q5 hu
    | _ => exact hu.elim
  | .bl false, q3, hz =>
    refine ⟨false, rv_bl q3, ?_⟩
    rw [if_neg (by simp)]
    exact cont _ ρ2 D3 _ H3 e13 r3 (.bl _) hz
theorem t_chain {op op' : CmpOp} (ho : BinD G X (compareOp op) o) (ho' : BinD G X (compareOp op') o') (ha : DE G X a pa) (hb : DE G X b pb) (hc : DE G X c pc) (hm : lastMarks [op, op'] [b, c] = false := by with_unfolding_all rfl) :
    DT G X (.Compare a [op, op'] [b, c] pos) (pTst (pChain o o' pa pb pc)) := by
  obtain ⟨r, h, s⟩ := ho.ex
  obtain ⟨r', h', s'⟩ := ho'.ex
  refine DT.of (pt_chain h h' ha.run hb.run hc.run hm) (sim_tst ?_)
  intro F D σ H ρ Q R k rel hp hx cont
  refine simE_l F D σ H ρ _ R _ rel hp hx fun x ρ1 D1 v H1 e1 r1 q1 hp1 => ?_
  refine simE_l F D1 σ H1 ρ1 _ R _ r1 hp1 hx fun y ρ2 D2 w H2 e2 r2 q2 hp2 => ?_
  refine s F D2 σ H2 ρ2 v w x y _ _ r2 (rv_mono e2 q1) q2 hp2 fun z vz D3 H3 e3 r3 q3 hz => ?_
  have e13 := (e1.trans e2).trans e3
  match z, q3, hz with
  | .bl true, q3, hz =>
    refine ⟨true, rv_bl q3, ?_⟩
    rw [if_pos rfl]
    refine simE_l F D3 σ H3 ρ2 _ R _ r3 hz hx fun w' ρ3 D4 v4 H4 e4 r4 q4 hp4 => ?_
    refine s' F D4 σ H4 ρ3 w v4 y w' _ _ r4 (rv_mono (e3.trans e4) q2) q4 hp4 fun u vu D5 H5 e5 r5 q5 hu => ?_
    cases u with
    | bl k => exact cont _ ρ3 D5 vu H5 ((e13.trans e4).trans e5) r5 q5 hu
    | _ => exact hu.elim
  | .bl false, q3, hz =>
    refine ⟨false, rv_bl q3, ?_⟩
    rw [if_neg (by simp)]
    exact cont _ ρ2 D3 _ H3 e13 r3 (.bl _) hz
end
end Rg

set_option Elab.async false
set_option linter.all false
set_option maxRecDepth 100000
set_option maxHeartbeats 4000000
namespace Rg
open PySem PySem.Spec PyProof.Rows L2
section
variable {G : Gx} {X : Cx} {a b c e : Expr} {es : List Expr} {pos p : Pos} {pa pb pc : PEt} {pl : PAt} {x : Str}
def intsO : List DV → Option (List Int)
  | [] => some []
  | .int i :: ds => (intsO ds).map fun is => i :: is
  | _ => none
theorem rvA_intsO {K : PySem.W.Frag} {D : Hp} : ∀ {vs : List V} {ds : List DV} {is : List Int}, RvA K D vs ds → intsO ds = some is → vs = is.map V.int
  | _, _, _, .nil, e => by
    cases e
    rfl
  | _, _, _, .cons (d := d) a b, e => by
    cases d with
    | int i =>
      obtain ⟨js, e1, e2⟩ := Option.map_eq_some_iff.mp (show (intsO _).map _ = some _ from e)
      subst e2
      rw [rv_int a, rvA_intsO b e1]
      rfl
    | _ => cases e
def oSum : ON := fun ds Q => match ds with
  | [.node .lst xs] => match intsO xs with | some is => Q (.int is.sum) | none => False
  | _ => False
theorem c_sum (hc : X.calm = true) (hK : X.K = G.K := by rfl) : CallD G X (.builtin "sum") oSum := by
  refine ⟨_, cr_sumK G.K hc hK, fun F D σ H ρ vs ds Q k rel ra ho cont => ?_⟩
  unfold oSum at ho
  split at ho
  · split at ho
    · next bs e =>
      obtain ⟨v, rfl, r⟩ := rvA1 ra
      obtain ⟨p, vs, rfl, h1, h2⟩ := rv_lst r
      rw [rvA_intsO h2 e] at h1
      exact ⟨p, bs, rfl, SqL.of (rel.same _ _ h1), cont _ _ D H (Same.refl D) rel (.int _) ho⟩
    · exact ho.elim
  · exact ho.elim
end
structure CmX (P : Program) (w : World) (K : PySem.W.Frag) (mg : Str → Option Value) (base : Heap) (CX : CXT) (k : Nat) (C : Addr) (m : Str) (sp : Sp) : Prop where
  ex : ∃ (q g : Addr), ClX.CRead K C (.type "type") ∧ ClX.CMet K C (.type "type") m q g ∧ FnR P w K mg base CX k g sp
section
variable {G : Gx} {X : Cx} {a b c e o : Expr} {es : List Expr} {pos p apos : Pos} {pa pb pc : PEt} {pl : PAt} {x : Str}
theorem sim_make {C : Str} {fs : List Str} {Fn : NFn} {t : TA} (st : SimA G t pl) : SimE G (tMake (He.ga G.K C) (spNew G.K C fs Fn) [] G.E t) (pMake C fs (Fn G.pn) pl) := by
  intro F D σ H ρ Q R k rel hp hx cont
  refine st F D σ H ρ _ R _ rel hp hx fun ds ρ1 D1 vs H1 e1 r1 q1 hp1 => ?_
  intro x dx hx0 hd ne
  have x1 : (upd H1 dx (.own x)) x = none := by rw [upd_ne (Ne.symm ne)]; exact hx0
  have t1 : Step NoW D1 H1 D1 (upd (upd H1 dx (.own x)) x (.ins (He.ga G.K C) dx [])) := (Step.tmp r1.same hd).trans (Step.tmp (Step.tmp (W := NoW) r1.same hd).dh x1)
  have rN : Rel G F D1 σ (upd (upd H1 dx (.own x)) x (.ins (He.ga G.K C) dx [])) ρ1 := r1.stepN t1.t
  have penx : ∀ p, G.pn = some p → p ≠ x := fun p hp e => by
    have := r1.ph p hp
    exact this (r1.st.free (e ▸ hx0))
  refine ⟨D1, G.pn, x, dx, vs, ds, ρ1.ink, _, R, by rw [List.append_nil], rN.same, fun p hp => ⟨fun h => r1.ph p hp (rN.st.free h), penx p hp⟩, r1.same.free hx0, upd_same, q1, rN.pen, hp1, ?_, exX_from hx r1.st hx0 hd ne r1.same⟩
  intro D' H' dxe zs es' n' st d1 h1 hl rv pk hq
  refine ⟨rfl, ?_⟩
  have st2 : StepT G.K (Wx G.pn x) D1 H1 D' H' := (t1.any (W := Wx G.pn x)).t.trans st
  have st3 : StepT G.K (Wn G.pn) D1 H1 D' H' := st2.fresh fun b z => z.elim (fun e' => .inr (by rw [e']; exact hx0)) .inl
  have sD : Same D' (upd D' x (.ins (He.ga G.K C) dxe (fs.zip zs))) := same_new d1
  have st4 : StepT G.K (Wn G.pn) D1 H1 (upd D' x (.ins (He.ga G.K C) dxe (fs.zip zs))) H' := st3.settle hx0 h1 d1
  have pk2 : PenOk G.K (upd D' x (.ins (He.ga G.K C) dxe (fs.zip zs))) H' G.pn n' := fun p hp => by
    obtain ⟨o, q, ns, t, g, e1, e2, e3, e4⟩ := pk p hp
    exact ⟨by rw [upd_ne (penx p hp)]; exact o, q, ns, t, g, e1, sD.seq e2, e3, e4⟩
  exact cont _ _ _ _ H' (e1.trans (st3.dd.trans sD)) (r1.step st4 pk2) (.ins upd_same hl (rvA_mono sD rv)) hq
end
end Rg

set_option Elab.async false
set_option linter.all false
set_option maxRecDepth 100000
set_option maxHeartbeats 4000000

set_option Elab.async false
set_option linter.all false
set_option maxRecDepth 100000
set_option maxHeartbeats 4000000
namespace Rg
open PySem PySem.Spec PyProof.Rows L2
def kyP : Key → PyData
  | .inl i => .int i
  | .inr x => .str x
mutual
def toPyD : DV → Option PyData
  | .non => some .none
  | .bl b => some (.bool b)
  | .int i => some (.int i)
  | .str x => some (.str x)
  | .raw _ => none
  | .node .lst xs => (toPyDA xs).map PyData.list
  | .node .tup xs => (toPyDA xs).map PyData.tuple
  | .node (.ins _ _) _ => none
  | .node (.exc _ _) _ => none
  | .node (.dct ks) xs => (toPyDA xs).map fun ps => PyData.dict ((ks.map kyP).zip ps)
def toPyDA : List DV → Option (List PyData)
  | [] => some []
  | d :: ds => (toPyD d).bind fun p => (toPyDA ds).map fun ps => p :: ps
end
theorem toPyDA_len : ∀ {ds : List DV} {ps : List PyData}, toPyDA ds = some ps → ps.length = ds.length
  | [], _, e => by
    rw [toPyDA] at e
    cases e
    rfl
  | d :: ds, _, e => by
    rw [toPyDA] at e
    obtain ⟨q, h1, h2⟩ := Option.bind_eq_some_iff.mp e
    obtain ⟨qs, h3, rfl⟩ := Option.map_eq_some_iff.mp h2
    rw [List.length_cons, List.length_cons, toPyDA_len h3]
/-- the dict of the modules stands in K -/
theorem sysB_ok {K : PySem.W.Frag} {h : Heap} (e : sysB K = true) (X : K.In h) : ∃ o, h.get? sysModules = some o ∧ o.cls = .type "dict" := by
  unfold sysB at e
  cases q : K.lookup sysModules with
  | none =>
    rw [q] at e
    cases e
  | some o =>
    obtain ⟨oc, od, dt, sl⟩ := o
    rw [q] at e
    cases oc with
    | type c =>
      cases dt with
      | dict es n =>
        have e2 : c = "dict" := of_decide_eq_true e
        exact ⟨_, X _ _ q, by rw [e2]⟩
      | _ => cases e
    | _ => cases dt <;> cases e
theorem keys_read {h : Heap} {P : Program} {w : World} : ∀ {es : List DictEntry} {kvs : List (Key × Value)} {ks : List Key}, Pairs (mixKind P w) es kvs → kvs.map (·.1) = ks → ReadsAll h (es.map (·.key)) (ks.map kyP) []
  | _, _, _, .nil, e => by
    subst e
    exact .nil
  | _, _, _, .cons (e := e) (kv := kv) h1 _ h3, e0 => by
    subst e0
    have r := keys_read (h := h) h3 rfl
    rcases keyIs_shape (k := kv.1) (v := e.key) h1 with ⟨i, t, a, b⟩ | ⟨x, t, a, b⟩
    · rw [List.map_cons, List.map_cons, List.map_cons, b, a]
      exact ReadsAll.cons (Reads.int i t) r
    · rw [List.map_cons, List.map_cons, List.map_cons, b, a]
      exact ReadsAll.cons (Reads.str x t) r
theorem vals_pairs {P : Program} {w : World} : ∀ {es : List DictEntry} {kvs : List (Key × Value)} {ks : List Key} {vs : List V}, Pairs (mixKind P w) es kvs → KV (ks.zip vs) kvs → ks.length = vs.length → kvs.map (·.1) = ks ∧ Vals vs (es.map (·.val))
  | _, _, [], [], .nil, _, _ => ⟨rfl, .nil⟩
  | _, _, k :: ks, v :: vs, .cons h1 h2 h3, .cons a b, l => by
    obtain ⟨r1, r2⟩ := vals_pairs h3 b (by simpa using l)
    refine ⟨by rw [List.map_cons, r1, ← a.1], ?_⟩
    rw [List.map_cons, h2]
    exact .cons a.2 r2
  | _, _, [], _ :: _, _, _, l => by cases l
  | _, _, _ :: _, [], _, _, l => by cases l
  | _, _, k :: ks, v :: vs, .nil, h, _ => by cases h
  | _, _, [], [], .cons _ _ _, h, _ => by cases h
section
variable {X : Cx} {pins : List (Addr × Obj)} {σ : L2.St} {H D : Hp} {s : Shared}
theorem rv_reads (I : Inv X pins σ H s) (hs : sysB X.K = true) (sd : Same D H) {v : V} {d : DV} (h : Rv X.K D v d) : ∀ p u, toPyD d = some p → RelV v u → ∃ as, Reads s.heap u p as ∧ sysModules ∉ as := by
  obtain ⟨o0, ho0, hc0⟩ := sysB_ok hs I.kIn
  refine Rv.rec (motive_1 := fun v d _ => ∀ p u, toPyD d = some p → RelV v u → ∃ as, Reads s.heap u p as ∧ sysModules ∉ as) (motive_2 := fun vs ds _ => ∀ ps us, toPyDA ds = some ps → Vals vs us → ∃ as, ReadsAll s.heap us ps as ∧ sysModules ∉ as)
    ?_ ?_ ?_ ?_ ?_ ?_ ?_ ?_ ?_ ?_ ?_ ?_ h
  · intro p u e r
    rw [toPyD] at e
    cases e
    cases r
    exact ⟨_, Reads.none, by simp⟩
  · intro b p u e r
    rw [toPyD] at e
    cases e
    cases r
    exact ⟨_, Reads.bool b, by simp⟩
  · intro b p u e r
    rw [toPyD] at e
    cases e
    obtain ⟨t, rfl⟩ := r
    exact ⟨_, Reads.int b t, by simp⟩
  · intro b p u e r
    rw [toPyD] at e
    cases e
    obtain ⟨t, rfl⟩ := r
    exact ⟨_, Reads.str b t, by simp⟩
  · intro v p u e r
    rw [toPyD] at e
    cases e
  · intro a vs ds hD _ ih p u e r
    rw [toPyD] at e
    obtain ⟨ps, h1, rfl⟩ := Option.map_eq_some_iff.mp e
    cases r
    obtain ⟨its, rv, ⟨o, n, ho, hc, _, hd⟩, _⟩ := I.list (SqL.of (sd _ _ hD))
    obtain ⟨as, hr, na⟩ := ih ps its h1 rv
    refine ⟨_, Reads.list ho hc hd hr, fun z => ?_⟩
    rcases List.mem_cons.mp z with z | z
    · rw [← z, ho0] at ho
      cases ho
      rw [hc0] at hc
      injection hc with hc
      exact absurd hc (by decide)
    · exact na z
  · intro a vs ds hD _ ih p u e r
    rw [toPyD] at e
    obtain ⟨ps, h1, rfl⟩ := Option.map_eq_some_iff.mp e
    cases r
    obtain ⟨its, rv, ⟨o, ho, hc, n, hd⟩, _⟩ := I.tuple (SqT.of (sd _ _ hD))
    obtain ⟨as, hr, na⟩ := ih ps its h1 rv
    exact ⟨_, Reads.tuple ho hc hd hr, na⟩
  · intro a dx C fs vs ds _ _ _ _ p u e r
    rw [toPyD] at e
    cases e
  · intro a d C fs ps ds _ _ _ _ _ p u e r
    rw [toPyD] at e
    cases e
  · intro a ks vs ds hD hl rv ih p u e r
    rw [toPyD] at e
    obtain ⟨ps, h1, rfl⟩ := Option.map_eq_some_iff.mp e
    cases r
    obtain ⟨_, ne, ws, kv, o, es, ep, ho, ex, hd, _, pr, _⟩ := I.hok _ _ (sd _ _ hD)
    obtain ⟨k1, k2⟩ := vals_pairs pr kv hl
    obtain ⟨as, hr, na⟩ := ih ps _ h1 k2
    have lp := toPyDA_len h1
    have lv := rvA_len rv
    have l2 : (ks.map kyP).length = ps.length := by rw [List.length_map, hl, lp, lv]
    have rk := keys_read (h := s.heap) (P := X.prog) (w := X.w) pr k1
    have e1 : ((ks.map kyP).zip ps).map (·.1) = ks.map kyP := List.map_fst_zip (by omega)
    have e2 : ((ks.map kyP).zip ps).map (·.2) = ps := List.map_snd_zip (by omega)
    refine ⟨_, Reads.dict ho ex.1 hd (by rw [e1]; exact rk) (by rw [e2]; exact hr), fun z => ?_⟩
    rcases List.mem_append.mp z with z | z
    · rcases List.mem_cons.mp z with z | z
      · rw [← z] at ne
        simp at ne
      · cases z
    · exact na z
  · intro ps us e r
    rw [toPyDA] at e
    cases e
    cases r
    exact ⟨_, ReadsAll.nil, by simp⟩
  · intro v vs d ds _ _ i j ps us e r
    rw [toPyDA] at e
    obtain ⟨q, h1, h2⟩ := Option.bind_eq_some_iff.mp e
    obtain ⟨qs, h3, rfl⟩ := Option.map_eq_some_iff.mp h2
    cases r with
    | cons r1 r2 =>
      obtain ⟨as, q1, n1⟩ := i q _ h1 r1
      obtain ⟨bs, q2, n2⟩ := j qs _ h3 r2
      exact ⟨_, ReadsAll.cons q1 q2, fun z => (List.mem_append.mp z).elim n1 n2⟩
end
structure SmD (n c : Nat) (d : PyData) : Prop where
  dp : d.depth ≤ n
  sh : d.showable = true
  ln : d.shown.length ≤ c
theorem Sm.d {n c : Nat} {d : PyData} (h : Sm n c d) : SmD n c d := ⟨h.dp, h.sh, h.ln⟩
theorem SmD.mono {n c n' c' : Nat} {d : PyData} (h : SmD n c d) (hn : n ≤ n') (hc : c ≤ c') : SmD n' c' d := ⟨Nat.le_trans h.dp hn, h.sh, Nat.le_trans h.ln hc⟩
theorem smD_all {n c : Nat} : ∀ {ds : List PyData}, (∀ d ∈ ds, SmD n c d) → PyData.depthAll ds ≤ n ∧ PyData.showableAll ds = true ∧ piled (PyData.shownAll ds) ≤ ds.length * (c + 2)
  | [], _ => ⟨Nat.zero_le _, rfl, Nat.zero_le _⟩
  | d :: r, h => by
    obtain ⟨h1, h2, h4⟩ := h d List.mem_cons_self
    obtain ⟨i1, i2, i4⟩ := smD_all (ds := r) fun x hx => h x (List.mem_cons_of_mem _ hx)
    refine ⟨Nat.max_le.mpr ⟨h1, i1⟩, ?_, ?_⟩
    · show (PyData.showable d && PyData.showableAll r) = true
      rw [h2, i2] <;> rfl
    · show piled (PyData.shown d :: PyData.shownAll r) ≤ _
      rw [piled_cons, List.length_cons, Nat.add_mul]
      omega
theorem smD_list {n c : Nat} {ds : List PyData} (h : ∀ d ∈ ds, SmD n c d) : SmD (n + 1) (ds.length * (c + 2) + 3) (.list ds) := by
  obtain ⟨i1, i2, i4⟩ := smD_all h
  refine ⟨?_, i2, ?_⟩
  · show PyData.depthAll ds + 1 ≤ n + 1
    omega
  · have e := listText_le (PyData.shownAll ds)
    simp only [PyData.shown]
    omega
theorem smD_tup {n c : Nat} {ds : List PyData} (h : ∀ d ∈ ds, SmD n c d) : SmD (n + 1) (ds.length * (c + 2) + 3) (.tuple ds) := by
  obtain ⟨i1, i2, i4⟩ := smD_all h
  refine ⟨?_, i2, ?_⟩
  · show PyData.depthAll ds + 1 ≤ n + 1
    omega
  · have e := tupleText_le (PyData.shownAll ds)
    simp only [PyData.shown]
    omega
theorem smD_kv {n c : Nat} : ∀ {kvs : List (PyData × PyData)}, (∀ p ∈ kvs, SmD n c p.1 ∧ SmD n c p.2) → PyData.depthKv kvs ≤ n ∧ PyData.showableKv kvs = true ∧ piled (PyData.shownKv kvs) ≤ kvs.length * (2 * c + 4)
  | [], _ => ⟨Nat.zero_le _, rfl, Nat.zero_le _⟩
  | (a, b) :: r, h => by
    obtain ⟨⟨h1, h2, h3⟩, ⟨g1, g2, g3⟩⟩ := h (a, b) List.mem_cons_self
    obtain ⟨i1, i2, i4⟩ := smD_kv (kvs := r) fun x hx => h x (List.mem_cons_of_mem _ hx)
    refine ⟨Nat.max_le.mpr ⟨Nat.max_le.mpr ⟨h1, g1⟩, i1⟩, ?_, ?_⟩
    · show (PyData.showable a && PyData.showable b && PyData.showableKv r) = true
      rw [h2, g2, i2] <;> rfl
    · rw [PyData.shownKv_cons, piled_cons, strLen_append, strLen_append, List.length_cons, Nat.add_mul]
      have e1 : ((": " : String) : Str).length = 2 := rfl
      have e2 : a.shown.length ≤ c := h3
      have e3 : b.shown.length ≤ c := g3
      omega
theorem dictText_le (ts : List Str) : (dictText ts).length ≤ piled ts + 2 := by
  have e1 : (("{" : String) : Str).length = 1 := rfl
  have e2 : (("}" : String) : Str).length = 1 := rfl
  unfold dictText
  rw [strLen_append, strLen_append, e1, e2]
  cases ts with
  | nil =>
    have e4 : (Str.join ", " []).length = 0 := by decide +kernel
    rw [e4]
    omega
  | cons t r =>
    have := join_length_add (t :: r) (by simp)
    omega
theorem smD_dict {n c : Nat} {kvs : List (PyData × PyData)} (h : ∀ p ∈ kvs, SmD n c p.1 ∧ SmD n c p.2) : SmD (n + 1) (kvs.length * (2 * c + 4) + 2) (.dict kvs) := by
  obtain ⟨i1, i2, i4⟩ := smD_kv h
  refine ⟨?_, i2, ?_⟩
  · show PyData.depthKv kvs + 1 ≤ n + 1
    omega
  · have e := dictText_le (PyData.shownKv kvs)
    simp only [PyData.shown]
    omega
def rReprD (K : PySem.W.Frag) : List V → Hp → VK → Prop := fun xs H Q => ∃ (v : V) (D : Hp) (d : DV) (p : PyData), xs = [v] ∧ Same D H ∧ Rv K D v d ∧ toPyD d = some p ∧ SmD 60 10000000 p ∧ Q (.str p.shown) H
theorem call_reprDD {X : Cx} (K : PySem.W.Frag) (hs : sysB K = true) (hg : X.A.guards = some []) (hu : X.A.units + 64 < cLine) (hK : X.K = K := by rfl) : CallR X (.builtin "repr") (rReprD K) := by
  subst hK
  intro pins s σ H xs us Q I r h
  obtain ⟨v, D, d, p, rfl, sd, rv, tp, sm, q⟩ := h
  cases r with
  | cons r1 r2 =>
    cases r2
    rename_i u
    obtain ⟨as, rd, na⟩ := rv_reads I hs sd rv p u tp r1
    have hsz : p.shown.length ≤ sizeLine := Nat.le_trans sm.ln (by decide)
    have hdp := sm.dp
    have fin : ∀ {h' : Heap} {t tk : Tok}, (∀ b o, s.heap.get? b = some o → h'.get? b = some o) → EP X pins σ Q (.str p.shown t) { s with heap := h', toks := tk } := fun {h' t tk} hk => ⟨.str p.shown, H, I.kept (t' := tk) hk, ⟨t, rfl⟩, q⟩
    cases rd with
    | none => exact PySem.P.repr_of_none (fin (h' := s.heap) fun _ _ e => e)
    | bool b => exact PySem.P.repr_of_bool (fin (h' := s.heap) fun _ _ e => e)
    | int i t => exact PySem.P.repr_of_int (by simpa [PyData.showable] using sm.sh) (fin (h' := s.heap) fun _ _ e => e)
    | str x t => exact PySem.P.repr_of_str (fin (h' := s.heap) fun _ _ e => e) hsz
    | list h1 h2 h3 h4 => exact repr_of_reads' (Reads.list h1 h2 h3 h4) sm.sh (fun _ => na) hg (by omega) (fun _ _ e => e) (fun h' t tk hk => fin hk) hsz
    | tuple h1 h2 h3 h4 => exact repr_of_reads' (Reads.tuple h1 h2 h3 h4) sm.sh (fun _ => na) hg (by omega) (fun _ _ e => e) (fun h' t tk hk => fin hk) hsz
    | dict h1 h2 h3 h4 h5 => exact repr_of_reads' (Reads.dict h1 h2 h3 h4 h5) sm.sh (fun _ => na) hg (by omega) (fun _ _ e => e) (fun h' t tk hk => fin hk) hsz
def oReprD : ON := fun ds Q => match ds with
  | [d] => ∃ p, toPyD d = some p ∧ SmD 60 10000000 p ∧ Q (.str p.shown)
  | _ => False
theorem c_reprD {G : Gx} {X : Cx} (hs : sysB G.K = true) (hg : X.A.guards = some []) (hu : X.A.units + 64 < cLine) (hK : X.K = G.K := by rfl) : CallD G X (.builtin "repr") oReprD := by
  refine ⟨_, call_reprDD G.K hs hg hu hK, fun F D σ H ρ vs ds Q k rel ra ho cont => ?_⟩
  unfold oReprD at ho
  split at ho
  · next d =>
    obtain ⟨v, rfl, r⟩ := rvA1 ra
    obtain ⟨p, h1, h2, h3⟩ := ho
    exact ⟨v, D, d, p, rfl, rel.same, r, h1, h2, cont _ _ D H (Same.refl D) rel (.str _) h3⟩
  · exact ho.elim
section
variable {P : Program} {w : World} {K : PySem.W.Frag} {mg : Str → Option Value} {base : Heap} {CX : CXT} {k : Nat} {f : Addr} {fd : FuncData} {ps : List Str} {sp sp' : Sp}
/-- one that raises nothing, where others may raise -/
theorem FnOk.up (F : FnOk P w K mg base CX0 k f fd ps sp) : FnOk P w K mg base CX k f fd ps sp :=
  ⟨F.len, fun A outer s H args us vs Q E hr he hb hv hs => codeAny_mono (F.run A outer s H args us vs Q E hr he hb hv hs) fun r s' hq => by
    cases r with
    | error e => exact False.elim hq
    | ok fl => cases fl <;> exact hq⟩
theorem FnOk.or (F : FnOk P w K mg base CX k f fd ps sp) (F' : FnOk P w K mg base CX k f fd ps sp') : FnOk P w K mg base CX k f fd ps (fun vs H Q E => sp vs H Q E ∨ sp' vs H Q E) :=
  ⟨fun vs H Q E h => h.elim (F.len _ _ _ _) (F'.len _ _ _ _), fun A outer s H args us vs Q E hr he hb hv hs => hs.elim (fun h => F.run A outer s H args us vs Q E hr he hb hv h) fun h => F'.run A outer s H args us vs Q E hr he hb hv h⟩
end
end Rg

set_option Elab.async false
set_option linter.all false
set_option maxRecDepth 100000
set_option maxHeartbeats 4000000
namespace Rg
open PySem PySem.Spec PyProof.Rows L2
abbrev dctD (kvs : List (Key × DV)) : DV := .node (.dct (kvs.map (·.1))) (kvs.map (·.2))
theorem rvP_split {K : PySem.W.Frag} {D : Hp} : ∀ {ps : List (Key × V)} {qs : List (Key × DV)}, RvP K D ps qs → ps = (qs.map (·.1)).zip (ps.map (·.2)) ∧ RvA K D (ps.map (·.2)) (qs.map (·.2))
  | _, _, .nil => ⟨rfl, .nil⟩
  | p :: ps, q :: qs, .cons a b => by
    obtain ⟨e, r⟩ := rvP_split b
    refine ⟨?_, .cons a.2 r⟩
    show p :: ps = (q.1, p.2) :: (qs.map (·.1)).zip (ps.map (·.2))
    rw [← e, ← a.1]
theorem rv_dctOf {K : PySem.W.Frag} {D : Hp} {a : Addr} {ps : List (Key × V)} {qs : List (Key × DV)} (h : D a = some (.dK ps)) (r : RvP K D ps qs) : Rv K D (.ref a) (dctD qs) := by
  obtain ⟨e, r2⟩ := rvP_split r
  refine .dct (vs := ps.map (·.2)) (by rw [← e]; exact h) ?_ r2
  rw [List.length_map, List.length_map, rvP_len r]
section
variable {G : Gx} {X : Cx} {a b c e : Expr} {es : List Expr} {pos p : Pos} {pa pb pc : PEt} {pl : PAt} {x : Str}
def pDctV (l : List (PEt × PEt)) : PEt := fun ρ Q R => pKVs l (fun ds ρ1 => Q (dctD (mergeD ds)) ρ1) R ρ
theorem d_dlit {dpos : Pos} {ks : List (Option Expr)} {vs : List Expr} {l : List (PEt × PEt)} (h : DKV G X ks vs l) (hall : ks.all (·.isSome) = true := by rfl) (hlen : ks.length = vs.length := by rfl) (h0 : ks ≠ [] := by intro z; cases z) (h15 : ks.length ≤ 15 := by decide) :
    DE G X (.Dict ks vs dpos) (pDctV l) := by
  refine DE.of (pe_disp h.pps hall hlen h0 h15) fun F D σ H ρ Q R k rel hp hx cont => fun q hq => ?_
  have R0 := rel.push (o := .dK []) hq
  have nf := rel.fresh hq
  refine sim_kvs (F := (q, .dK []) :: F) R0 hp hx fun ds vs ρ' D' H' s r rv hlv hq2 => ?_
  refine ⟨r.top, vs, rfl, by rw [hlv, h.len]; exact h15, ?_⟩
  have R3 := (r.poke (o' := .dK (mergeK [] vs)) nf).pop nf
  exact cont _ _ _ _ _ (s.trans R3.2) R3.1 (rv_dctOf upd_same (rvP_mono R3.2 (rvP_merge rv .nil))) hq2
end
def repS (x : Str) (n : Nat) : Str := SX.S (List.replicate n x.cps.toList).flatten
theorem foldl_app : ∀ (l : List (Array Nat)) (a : Array Nat), (l.foldl (· ++ ·) a).toList = a.toList ++ (l.map Array.toList).flatten
  | [], a => by simp
  | b :: l, a => by
    rw [List.foldl_cons, foldl_app l (a ++ b)]
    simp
theorem txt_mul (x : Str) (n : Nat) : Txt.mul x (n : Int) = repS x n := by
  unfold Txt.mul repS
  by_cases h0 : ((n : Nat) : Int) < 1
  · rw [if_pos h0]
    have e : n = 0 := by omega
    subst e
    rfl
  · rw [if_neg h0]
    by_cases h1 : (((n : Nat) : Int) == 1 || x.length == 0) = true
    · rw [if_pos h1]
      rcases Bool.or_eq_true_iff.mp h1 with h | h
      · have e : n = 1 := by
          have := beq_iff_eq.mp h
          omega
        subst e
        show x = SX.S (x.cps.toList ++ [])
        rw [List.append_nil]
      · have e : x.cps.toList = [] := by
          have h2 : x.cps.size = 0 := beq_iff_eq.mp h
          exact List.eq_nil_of_length_eq_zero (by simpa using h2)
        have e2 : x = SX.S [] := by
          show x = ⟨[].toArray⟩
          rw [← e]
        rw [e]
        have e3 : ∀ m : Nat, (List.replicate m ([] : List Nat)).flatten = [] := fun m => by
          induction m with
          | zero => rfl
          | succ m ih => rw [List.replicate_succ, List.flatten_cons, ih]; rfl
        rw [e3]
        exact e2
    · rw [if_neg h1, Int.toNat_natCast]
      have e := foldl_app (List.replicate n x.cps) #[]
      rw [List.map_replicate] at e
      show (⟨_⟩ : Str) = ⟨_⟩
      refine congrArg Str.mk ?_
      apply Array.ext'
      rw [e]
      simp
theorem mulOk {x : Str} {n : Nat} (h1 : x.length ≤ 1000) (h2 : n ≤ 1000) : MulOk x (n : Int) := by
  have hm : x.length * n ≤ 1000000 := Nat.mul_le_mul h1 h2
  refine ⟨?_, fun h0 _ => ?_, fun _ _ => ?_⟩
  · rw [decide_eq_false (by omega), decide_eq_false (by omega)]
    rfl
  · have e : (9000000000000000 : Int) ≤ (2 ^ 63 - 1) / (n : Int) := by
      rw [Int.le_ediv_iff_mul_le (by omega)]
      have : (9000000000000000 : Int) * (n : Int) ≤ 9000000000000000 * 1000 := Int.mul_le_mul_of_nonneg_left (by omega) (by decide)
      exact Int.le_trans this (by decide)
    omega
  · rw [Int.toNat_natCast]
    unfold Builtin.Str.tooLong
    simp
    exact Nat.le_trans hm (by decide)
theorem op_mulS {X : Cx} : OpR X (binaryOp .Mult) (fun x y H Q => ∃ (i : Str) (n : Nat), x = .str i ∧ y = .int (n : Nat) ∧ i.length ≤ 1000 ∧ n ≤ 1000 ∧ Q (.str (repS i n)) H) := by
  intro pins s σ H x y v u Q I rx ry h
  obtain ⟨i, n, rfl, rfl, h1, h2, q⟩ := h
  obtain ⟨t, rfl⟩ := rx
  obtain ⟨t', rfl⟩ := ry
  exact SB.mul (mulOk h1 h2) fun t2 k => ⟨.str (Txt.mul i (n : Int)), H, I.tok _, ⟨_, rfl⟩, by rw [txt_mul]; exact q⟩
def oMulS : O2 := fun a b Q => match a, b with
  | .str z, .int k => 0 ≤ k ∧ k ≤ 1000 ∧ z.length ≤ 1000 ∧ Q (.str (repS z k.toNat))
  | _, _ => False
theorem b_mulS {G : Gx} {X : Cx} : BinD G X (binaryOp .Mult) oMulS := by
  refine ⟨_, op_mulS, fun F D σ H ρ x y a b Q k rel ra rb ho cont => ?_⟩
  unfold oMulS at ho
  split at ho
  · next z k =>
    obtain ⟨k0, k1, kz, ho⟩ := ho
    refine ⟨z, k.toNat, rv_str ra, by rw [rv_int rb, Int.toNat_of_nonneg k0], kz, by omega, cont _ _ D H (Same.refl D) rel (.str _) ho⟩
  · exact ho.elim
theorem mapD_at {α β : Type} {f : α → β} {l : List α} {i : Nat} {y : β} (h : (l.map f)[i]? = some y) : ∃ x, l[i]? = some x ∧ y = f x := by
  rw [List.getElem?_map] at h
  obtain ⟨x, h1, h2⟩ := Option.map_eq_some_iff.mp h
  exact ⟨x, h1, h2.symm⟩
/-- a list, item by item -/
theorem lc_xs {α : Type} {vs : List Nat} {pg : PGt} {pe : PEt} {Q : List DV → Ps → Prop} {sl : Sl} {n : Nat} (xs : List α) (g f : α → DV) (hs : xs.length ≤ 1000000) (hw : wipeP sl vs = sl)
    (turn : ∀ (x : α) (k : DV → Ps → Prop), x ∈ xs → (∀ sl', Le sl (wipeP sl' vs) → k (f x) ⟨sl', n⟩) → pg (g x) ⟨sl, n⟩ fun ρ3 => pe ρ3 k fun _ _ => False) (fin : Q (xs.map f) ⟨sl, n⟩) :
    LcIn vs pg pYes pe Q (xs.map g) ⟨sl, n⟩ := by
  refine ⟨fun i acc ρ => acc = (xs.take i).map f ∧ ρ = ⟨sl, n⟩, ⟨by simp, rfl⟩, ?_, ?_⟩
  · rintro i d acc ρ2 hd ⟨rfl, rfl⟩
    obtain ⟨x, hx, rfl⟩ := mapD_at hd
    have hi := (List.getElem?_eq_some_iff.mp hx).1
    show pg (g x) ⟨wipeP sl vs, n⟩ fun ρ3 => pe ρ3 _ fun _ _ => False
    rw [hw]
    refine turn x _ (mem_of_at hx) fun sl' le => ⟨?_, sl, n, le, Nat.le_refl _, ?_, rfl⟩
    · rw [List.length_map, List.length_take]
      exact Nat.lt_of_le_of_lt (Nat.min_le_left _ _) (Nat.lt_of_lt_of_le hi (Nat.le_trans hs (by decide)))
    · rw [take_more hx, List.map_append]
      rfl
  · rintro acc ρ2 ⟨rfl, rfl⟩
    rw [List.length_map, List.take_length]
    show Q _ ⟨wipeP sl vs, n⟩
    rw [hw]
    exact fin
/-- .. some of them -/
theorem lc_xsel {α : Type} {vs : List Nat} {pg : PGt} {pt : PTt} {pe : PEt} {Q : List DV → Ps → Prop} {sl : Sl} {n : Nat} (xs : List α) (g f : α → DV) (b : α → Bool) (hs : xs.length ≤ 1000000) (hw : wipeP sl vs = sl)
    (turn : ∀ (x : α) (k : DV → Ps → Prop) (k0 : Ps → Prop), x ∈ xs → (b x = true → ∀ sl', Le sl (wipeP sl' vs) → k (f x) ⟨sl', n⟩) → (b x = false → ∀ sl', Le sl (wipeP sl' vs) → k0 ⟨sl', n⟩) →
      pg (g x) ⟨sl, n⟩ fun ρ3 => pt ρ3 (fun t ρ4 => if t = true then pe ρ4 k fun _ _ => False else k0 ρ4) fun _ _ => False) (fin : Q ((xs.filter b).map f) ⟨sl, n⟩) :
    LcIn vs pg pt pe Q (xs.map g) ⟨sl, n⟩ := by
  refine ⟨fun i acc ρ => acc = ((xs.take i).filter b).map f ∧ ρ = ⟨sl, n⟩, ⟨by simp, rfl⟩, ?_, ?_⟩
  · rintro i d acc ρ2 hd ⟨rfl, rfl⟩
    obtain ⟨x, hx, rfl⟩ := mapD_at hd
    have hi := (List.getElem?_eq_some_iff.mp hx).1
    show pg (g x) ⟨wipeP sl vs, n⟩ fun ρ3 => pt ρ3 _ fun _ _ => False
    rw [hw]
    refine turn x _ _ (mem_of_at hx) (fun hb sl' le => ⟨?_, sl, n, le, Nat.le_refl _, ?_, rfl⟩) fun hb sl' le => ⟨sl, n, le, Nat.le_refl _, ?_, rfl⟩
    · rw [List.length_map]
      refine Nat.lt_of_le_of_lt (List.length_filter_le _ _) ?_
      rw [List.length_take]
      exact Nat.lt_of_le_of_lt (Nat.min_le_left _ _) (Nat.lt_of_lt_of_le hi (Nat.le_trans hs (by decide)))
    · rw [take_more hx, List.filter_append, List.map_append, List.filter_cons_of_pos hb]
      rfl
    · rw [take_more hx, List.filter_append, List.filter_cons_of_neg (by rw [hb]; exact Bool.false_ne_true), List.filter_nil, List.append_nil]
  · rintro acc ρ2 ⟨rfl, rfl⟩
    rw [List.length_map, List.take_length]
    show Q _ ⟨wipeP sl vs, n⟩
    rw [hw]
    exact fin
end Rg

set_option Elab.async false
set_option linter.all false
set_option maxRecDepth 100000
set_option maxHeartbeats 2000000
namespace PySem
open Sem (wp)
section
variable {M : Model} {A : Around} {R : GenEnd} {Y : Protocol} {n : Nat} {s₀ : Shared} {c : Code} {fs : List Frame} {s : Shared} {env : Env}
  {K : Flow → Sem Fin} {H : Value → Sem Fin} {gd : Bool → Bool} {lv : List Value → List Value}
end
section
variable {prog : Program} {w : World} {A : Around} {R : GenEnd} {Y : Protocol} {n : Nat} {s₀ : Shared} {fs : List Frame} {s : Shared} {env : Env}
end
end PySem

set_option Elab.async false
set_option linter.all false
set_option maxRecDepth 100000
set_option maxHeartbeats 2000000
namespace L2
open PySem PySem.Spec PyProof.Rows GenW
section
variable {X : Cx} {c iter tg : Expr} {a b body : List Stmt} {pos : Pos} {tc : TT} {t u tb : TGn} {wi : TI} {gg : TG}
theorem GC.more {S : Addr} {ip ip' : List (Addr × Obj)} {A : Around} {c : Code} {fs : List Frame} {gd : Bool → Bool} (g : GC X S ip A c fs gd) (h : ∀ p ∈ ip', p.1 ≠ S) : GC X S ip' A c fs gd := ⟨g.pn, h, g.apart, g.over, g.split, g.guard, g.gd⟩
end
end L2

set_option Elab.async false
set_option linter.all false
set_option maxRecDepth 100000
set_option maxHeartbeats 4000000
namespace Rg
open PySem PySem.Spec PyProof.Rows L2
def tStores (K : PySem.W.Frag) : List (Str × Nat) → TS
  | [] => tNext
  | (f, j) :: r => tSeq (sFld K (tVar 0) (tVar j) f) (tStores K r)
structure DSx (G : Gx) (X : Cx) (sts : List Stmt) (fjs : List (Str × Nat)) (p : PSt) : Prop where
  run : PSs X sts (fun E σ H => lS G p { E with nx := tStores G.K fjs E } σ H)
section
variable {G : Gx} {X : Cx} {st : Stmt} {sts : List Stmt} {p q : PSt} {fjs : List (Str × Nat)} {s : Str} {y f : Str} {j : Nat} {pos p1 p2 p3 : Pos}
theorem DSx.nox (h : DSx G X.nox sts fjs p) : DSx G X sts fjs p := ⟨h.run.nox⟩
theorem x_tail (h : PSs X sts (tStores G.K fjs)) : DSx G X sts fjs pNext := ⟨⟨fun pins s σ H E I ⟨D, ρ, Ep, rel, hp, ok, hx⟩ => h.run pins s σ H E I (ok.nx D σ H ρ (Same.refl D) rel hp)⟩⟩
theorem x_cons (h : DS G X st p) (h2 : DSx G X sts fjs q) : DSx G X (st :: sts) fjs (pSeq p q) := by
  refine ⟨⟨fun pins s σ H E I ⟨D, ρ, Ep, rel, hp, ok, hx⟩ => (pss_cons h.run h2.run).run pins s σ H E I ?_⟩⟩
  exact simS_l D σ H ρ { Ep with nx := q Ep } _ rel hp ⟨fun D σ H ρ sm rel h => simS_l D σ H ρ Ep _ rel h (ok.up sm) hx, ok.rt, ok.bk, ok.ct⟩ hx
theorem st_nil : PSs X [] (tStores G.K []) := pss_nil
theorem st_cons (h0 : PE X (.Name s p1) (tVar 0)) (hj : PE X (.Name y p2) (tVar j)) (h : PSs X sts (tStores G.K fjs)) (hK : X.K = G.K := by rfl) (hs : swapsWith (.Name y p2) (some (.Attribute (.Name s p1) f p3)) pos.line X.env = pure false := by rfl) :
    PSs X (.Assign [.Attribute (.Name s p1) f p3] (.Name y p2) pos :: sts) (tStores G.K ((f, j) :: fjs)) := by
  have h1 := ps_fld (f := f) (pos := pos) (pos' := p3) h0 hj hs
  rw [hK] at h1
  exact pss_cons h1 h
end
theorem putF_new {f : Str} {v : V} : ∀ {fs : List (Str × V)}, f ∉ fs.map (·.1) → putF f v fs = fs ++ [(f, v)]
  | [], _ => rfl
  | (g, x) :: r, h => by
    have h1 : ¬ g = f := fun e => h (by rw [e]; exact List.mem_cons_self)
    have h2 : f ∉ r.map (·.1) := fun e => h (List.mem_cons_of_mem _ e)
    show (if g = f then (g, v) :: r else (g, x) :: putF f v r) = _
    rw [if_neg h1, putF_new h2]
    rfl
/-- the slots' values, as they are stored -/
def SlotsV (σ : L2.St) : List (Str × Nat) → List V → Prop
  | [], [] => True
  | (_, j) :: r, u :: us => σ[j]? = some (some u) ∧ SlotsV σ r us
  | _, _ => False
def SlotsD (sl : Sl) : List (Str × Nat) → List DV → Prop
  | [], [] => True
  | (_, j) :: r, d :: ds => sl[j]? = some (some (.val d)) ∧ SlotsD sl r ds
  | _, _ => False
theorem slots_of {G : Gx} {F : List (Addr × HO)} {D : Hp} {σ : L2.St} {H : Hp} {ρ : Ps} (rel : Rel G F D σ H ρ) : ∀ {fjs : List (Str × Nat)} {ds : List DV}, SlotsD ρ.sl fjs ds → ∃ us, SlotsV σ fjs us ∧ RvA G.K D us ds
  | [], [], _ => ⟨[], True.intro, .nil⟩
  | (_, j) :: r, d :: ds, h => by
    obtain ⟨v, h1, h2⟩ := rel.get h.1
    obtain ⟨us, h3, h4⟩ := slots_of rel h.2
    exact ⟨v :: us, ⟨h1, h3⟩, .cons h2 h4⟩
  | [], _ :: _, h => h.elim
  | _ :: _, [], h => h.elim
theorem slotsD_len {sl : Sl} : ∀ {fjs : List (Str × Nat)} {ds : List DV}, SlotsD sl fjs ds → fjs.length = ds.length
  | [], [], _ => rfl
  | _ :: r, _ :: ds, h => congrArg Nat.succ (slotsD_len (fjs := r) (ds := ds) h.2)
  | [], _ :: _, h => h.elim
  | _ :: _, [], h => h.elim
theorem stores_run {K : PySem.W.Frag} {x C dx : Addr} {σ : L2.St} {E : Ends} (h0 : σ[0]? = some (some (.ref x))) (hc : Cls K C) : ∀ (fjs : List (Str × Nat)) (us : List V) (acc : List (Str × V)) (H : Hp),
    (∀ f ∈ fjs.map (·.1), NoAttr K C f) → (fjs.map (·.1)).Nodup → (∀ f ∈ fjs.map (·.1), f ∉ acc.map (·.1)) → acc.length + fjs.length < 1000 → H x = some (.ins C dx acc) → SlotsV σ fjs us →
    (∀ H', (∀ b, b ≠ x → H' b = H b) → H' x = some (.ins C dx (acc ++ (fjs.map (·.1)).zip us)) → E.nx σ H') → tStores K fjs E σ H
  | [], [], acc, H, _, _, _, _, hx, _, k => k H (fun _ _ => rfl) (by rw [hx]; show _ = some (HO.ins C dx (acc ++ [])); rw [List.append_nil])
  | (f, j) :: r, u :: us, acc, H, hn, nd, na, hl, hx, hv, k => by
    have nd' := List.nodup_cons.mp nd
    have hl' : acc.length + (r.length + 1) < 1000 := hl
    refine ⟨u, hv.1, .ref x, h0, x, C, dx, acc, rfl, hx, hc, hn f List.mem_cons_self, by omega, ?_⟩
    refine stores_run h0 hc r us (acc ++ [(f, u)]) _ (fun g hg => hn g (List.mem_cons_of_mem _ hg)) nd'.2 (fun g hg hm => ?_) (by rw [List.length_append, List.length_singleton]; omega) (by rw [upd_same, putF_new (na f List.mem_cons_self)]) hv.2 fun H' h1 h2 => ?_
    · rw [List.map_append] at hm
      rcases List.mem_append.mp hm with z | z
      · exact na g (List.mem_cons_of_mem _ hg) z
      · rw [List.map_cons, List.map_nil, List.mem_singleton] at z
        have z' : g = f := z
        exact nd'.1 (z' ▸ hg)
    · refine k H' (fun b hb => (h1 b hb).trans (upd_ne hb)) (h2.trans ?_)
      rw [List.append_assoc]
      rfl
  | [], _ :: _, _, _, _, _, _, _, _, h, _ => h.elim
  | _ :: _, [], _, _, _, _, _, _, _, h, _ => h.elim
def endsS (x : Addr) (fjs : List (Str × Nat)) (Qd : List DV → Nat → Prop) (R : PR) : PEnds := { nx := fun ρ => ρ.sl[0]? = some (some (.val (.raw (.ref x)))) ∧ ∃ zs, SlotsD ρ.sl fjs zs ∧ Qd zs ρ.ink, rt := fun _ _ => False, rs := R }
section
variable {P : Program} {w : World} {K : PySem.W.Frag} {mg : Str → Option Value} {base : Heap}
variable {CX : CXT} {x qual : Str} {params : Arguments} {body : List Stmt} {scope : Scope} {dvs : List V} {kws : List (Str × V)} {f : Addr} {fd : FuncData} {N ps : List Str} {k : Nat}
theorem ok_newS {C : Str} {fjs : List (Str × Nat)} {Fn : NFn} (F : FunD K x qual params body scope dvs kws f fd) (S : FnScope N ps scope) (hc : Cls K (He.ga K C)) (hn : ∀ f ∈ fjs.map (·.1), NoAttr K (He.ga K C) f) (nd : (fjs.map (·.1)).Nodup) (hl : fjs.length < 1000)
    (len : ∀ pn ds n Q R, Fn pn ds n Q R → ds.length + 1 = ps.length)
    (hbody : ∀ (cdv : Value) (A : Around) (outer : List Env) (s : Shared) (pn : Option Addr) (D H : Hp) (E : XK) (x : Addr) (ds : List DV) (n : Nat) (Qd : List DV → Nat → Prop) (R : PR), Room k (A.deeper (envOfC qual scope s.heap.objs.size f cdv)) → Fn pn ds n Qd R →
      ∃ pp, DSx ⟨K, pn, D, H, E, []⟩ (cxOf CX P w K mg base N qual scope f cdv A outer s H E) body fjs pp ∧ pp (endsS x fjs Qd R) ⟨startP N (.raw (.ref x) :: ds), n⟩) : FnOk P w K mg base CX (k + 1) f fd ps (spNew K C (fjs.map (·.1)) Fn) := by
  refine F.ok S (fun vs H Q E h => ?_) (fun cdv A outer s H vs Q E hr h => ?_)
  · obtain ⟨D, pn, x, dx, us, ds, n, Qd, R, rfl, _, _, _, _, rv, _, hf, _⟩ := h
    rw [List.length_cons, rvA_len rv]
    exact len _ _ _ _ _ hf
  · obtain ⟨D, pn, x, dx, us, ds, n, Qd, R, rfl, sd, ph, dx0, hx, rv, pen, hf, post, ex⟩ := h
    obtain ⟨pp, dv, hp⟩ := hbody cdv A outer s pn D H E x ds n Qd R hr hf
    refine ⟨_, dv.run, D, _, endsS x fjs Qd R, rel_start sd (fun p e => (ph p e).1) (.cons (.raw _) rv) pen, hp, ⟨?_, fun _ _ _ _ _ _ _ _ z => z.elim, fun _ _ _ _ _ _ z => z.elim, fun _ _ _ _ _ _ z => z.elim⟩, ex.ex⟩
    rintro D' σ' H' ρ' sm rel ⟨g0, zs, gs, hq⟩
    have npx : ¬ Wn pn x := fun e => (ph x e).2 rfl
    have hx' : H' x = some (.ins (He.ga K C) dx []) := rel.st.kq x _ npx True.intro hx
    have dx' : D' x = none := rel.st.fr x (by show H x ≠ none; rw [hx]; exact fun z => nomatch z) dx0
    obtain ⟨v0, e0, r0⟩ := rel.get g0
    rw [rv_raw r0] at e0
    obtain ⟨ws, hv, ra⟩ := slots_of rel gs
    refine stores_run e0 hc fjs ws [] H' hn nd (fun _ _ z => nomatch z) (by simpa using hl) hx' hv fun H2 h1 h2 => ?_
    have e2 : H2 = upd H' x (.ins (He.ga K C) dx ((fjs.map (·.1)).zip ws)) := by
      funext b
      by_cases q : b = x
      · rw [q, h2, upd_same]
        rfl
      · rw [h1 b q, upd_ne q]
    have st1 : StepT K (Wx pn x) D H D' H2 := by
      rw [e2]
      exact (rel.st.mono (W' := Wx pn x) fun b z => .inr z).write (.inl (.inl rfl)) dx'
    have st2 : StepT K (fun b => b = x) D' H' D' H2 := by
      rw [e2]
      exact (StepT.refl rel.same).write (.inl rfl) dx'
    exact post D' H2 dx ws zs _ st1 dx' h2 (by rw [List.length_map, slotsD_len gs, rvA_len ra]) ra (fun p hp => (rel.pen p hp).keepT st2 (ph p hp).2) hq
end
structure KMk (P : Program) (w : World) (K : PySem.W.Frag) (mg : Str → Option Value) (base : Heap) (CX : CXT) (k : Nat) (x : Str) (C : Addr) (n : Nat) (ks : List Str) (sp : Sp) : Prop where
  ex : ∃ (f : Addr) (fd : FuncData) (ps : List Str) (g : List Value → List Value → List Value), Mk K C f ∧ FnOk P w K mg base CX k f fd ps sp ∧ mg x = some (.ref C) ∧ KBn K fd ps (n + 1) ks g (fun vs zs => vs ++ zs)
theorem KMk.calm {P : Program} {w : World} {K : PySem.W.Frag} {mg : Str → Option Value} {base : Heap} {k n : Nat} {ks : List Str} {C : Str} {fs : List Str} {Fn : NFn} {x : Str} (c : KMk P w K mg base (L2.CX P w) k x (He.ga K C) n ks (spNew K C fs Fn)) : KMk P w K mg base CX0 k x (He.ga K C) n ks (spNew K C fs (calmN Fn)) := by
  obtain ⟨f, fd, ps, gg, M, F, g, b⟩ := c.ex
  have cs : ∀ {vs : List V} {H : Hp} {Q : VK} {E : XK}, spNew K C fs (calmN Fn) vs H Q E → spNew K C fs Fn vs H Q fun _ _ _ => False := fun {vs H Q E} h => by
    obtain ⟨D, pn, x, dx, us, ds, n, Qd, R, h1, h2, h3, h4, h5, h6, h7, h8, h9, _⟩ := h
    exact ⟨D, pn, x, dx, us, ds, n, Qd, _, h1, h2, h3, h4, h5, h6, h7, h8, h9, exX_never⟩
  refine ⟨f, fd, ps, gg, M, ⟨fun vs H Q E h => F.len _ _ _ _ (cs h), fun A outer s H args us vs Q E hr he hb hv hs => codeAny_mono (F.run A outer s H args us vs Q _ hr he hb hv (cs hs)) fun r s' hq => ?_⟩, g, b⟩
  cases r with
  | error e => exact (calm_cx hq).elim
  | ok fl => cases fl <;> exact hq
section
variable {G : Gx} {X : Cx} {a b c e fe : Expr} {es : List Expr} {kws : List Keyword} {pos p : Pos} {pa pb pc : PEt} {pl pk : PAt} {x : Str} {n : Nat} {ks : List Str}
theorem rvA_app2 {K : PySem.W.Frag} {D : Hp} : ∀ {vs ws : List V} {ds es : List DV}, RvA K D vs ds → RvA K D ws es → RvA K D (vs ++ ws) (ds ++ es)
  | _, _, _, _, .nil, h => h
  | _, _, _, _, .cons a t, h => .cons a (rvA_app2 t h)
structure ClO (P : Program) (w : World) (K : PySem.W.Frag) (mg : Str → Option Value) (base : Heap) (CX : CXT) (k : Nat) (C : Addr) (sp : Sp) : Prop where
  ex : ∃ (g : Addr) (fd : FuncData) (ps : List Str), StX.CallO K C g ∧ FnOk P w K mg base CX k g fd ps sp ∧ Binds K fd ps []
theorem ClO.calm {P : Program} {w : World} {K : PySem.W.Frag} {mg : Str → Option Value} {base : Heap} {k : Nat} {C : Addr} {Fn : PFn} (c : ClO P w K mg base (L2.CX P w) k C (spP K Fn)) : ClO P w K mg base CX0 k C (spP K (calmF Fn)) := by
  obtain ⟨f, fd, ps, g, F, b⟩ := c.ex
  exact ⟨f, fd, ps, g, FnOk.calm F, b⟩
def pCallO (C : Str) (Fn : List DV → Nat → (DV → Nat → Prop) → PR → Prop) (pa : PEt) (pl : PAt) : PEt := fun ρ Q R => pa ρ (fun d ρ1 => isC C d = true ∧ pl ρ1 (fun ds ρ2 => Fn (d :: ds) ρ2.ink (fun z n => Q z { ρ2 with ink := n }) R) R) R
theorem d_callO {CX : CXT} {k j : Nat} {C : Str} {Fn : PFn} (ho : DE G X fe pa) (c : ClO X.prog X.w X.K X.mg X.base CX k (He.ga G.K C) (spP G.K Fn)) (hr : Room j X.A) (hk : k ≤ j) (hx : Passes CX X G.E) (ha : DA G X (e :: es) pl)
    (ht : eval (.Call fe (e :: es) [] pos) X.env = (do callWith pos (← eval fe X.env) [] (backTo pos (starEach (e :: es) X.env)) (backToKw pos (keywordEach [] X.env))) := by rfl)
    (he : starEach (e :: es) X.env = (false, eval e X.env) :: starEach es X.env := by rfl) (hpl : (backTo pos (starEach es X.env)).any (·.1) = false := by rfl) :
    DE G X (.Call fe (e :: es) [] pos) (pCallO C (Fn G.pn) pa pl) := by
  obtain ⟨g, fd, ps, co, F, b⟩ := c.ex
  refine DE.of (StX.pe_callO ho.run co (FnOk.raw F b .nil) (hr.mono hk) hx ha.run ht he hpl) fun F D σ H ρ Q R k rel hp hx cont => ?_
  refine simE_l F D σ H ρ _ R _ rel hp hx fun d ρ1 D1 v H1 e1 r1 q1 hp1 => ?_
  obtain ⟨h1, hp2⟩ := hp1
  obtain ⟨q, dx, fs, rfl, h3⟩ := rv_isC0 q1 h1
  refine ⟨q, rfl, simA_l F D1 σ H1 ρ1 _ R _ r1 hp2 hx fun ds ρ2 D2 vs H2 e2 r2 q2 hp3 => ?_⟩
  refine ⟨.inr ⟨dx, _, (e2.trans r2.same) _ _ h3⟩, ?_⟩
  show spP G.K Fn (V.ref q :: vs ++ []) H2 k G.E
  rw [List.append_nil]
  exact sp_of r2 (.cons (rv_mono e2 q1) q2) hp3 hx fun d ρ' D' v H' s r q h => cont d ρ' D' v H' ((e1.trans e2).trans s) r q h
end
end Rg

set_option Elab.async false
set_option linter.all false
set_option maxRecDepth 100000
set_option maxHeartbeats 4000000
namespace Rg
open PySem PySem.Spec PyProof.Rows L2
section
variable {X : Cx} {CX : CXT} {k j : Nat} {C : Addr} {sp : Sp} {E : XK} {m : Str} {pos : Pos} {ta tb : TE}
end
section
variable {G : Gx} {X : Cx} {a b : Expr} {pos : Pos} {pa pb : PEt}
end
end Rg

set_option Elab.async false
set_option linter.all false
set_option maxRecDepth 100000
set_option maxHeartbeats 4000000
namespace Rg
open PySem PySem.Spec PyProof.Rows L2
section
variable {X : Cx} {CX : CXT} {k j : Nat} {C : Addr} {sp : Sp} {m : Str} {pos : Pos} {ta tb : TE}
end
section
variable {G : Gx} {X : Cx} {a b c : Expr} {pos : Pos} {pa pb : PEt} {pt : PTt} {p q : PRt}
end
structure PGEnds where
  nx : List DV → Ps → Prop
  rs : PR
  bk : List DV → Ps → Prop := fun _ _ => False
  ct : List DV → Ps → Prop := fun _ _ => False
abbrev PGn := PGEnds → List DV → Ps → Prop
def GLk (G : Gx) (D0 : Hp) (p : List DV → Ps → Prop) (t : List V → L2.St → Hp → Prop) : Prop := ∀ D σ H ρ ys ds, Same D0 D → Rel G [] D σ H ρ → RvA G.K D ys ds → p ds ρ → t ys σ H
structure GEndsOk (G : Gx) (D0 : Hp) (Ep : PGEnds) (E : GEnds) : Prop where
  nx : GLk G D0 Ep.nx E.nx
  bk : GLk G D0 Ep.bk E.bk
  ct : GLk G D0 Ep.ct E.ct
theorem GLk.up {G : Gx} {D0 D1 : Hp} {p : List DV → Ps → Prop} {t : List V → L2.St → Hp → Prop} (h : GLk G D0 p t) (s : Same D0 D1) : GLk G D1 p t := fun D σ H ρ ys ds e => h D σ H ρ ys ds (s.trans e)
theorem GEndsOk.up {G : Gx} {D0 D1 : Hp} {Ep : PGEnds} {E : GEnds} (h : GEndsOk G D0 Ep E) (s : Same D0 D1) : GEndsOk G D1 Ep E := ⟨h.nx.up s, h.bk.up s, h.ct.up s⟩
section
variable {G : Gx} {X : Cx} {a b c e tg : Expr} {st : Stmt} {sts sts2 : List Stmt} {pos yp : Pos} {pa : PEt} {pt : PTt} {p q : PGn} {pp : PSt}
end
section
variable {P : Program} {w : World} {K : PySem.W.Frag} {mg : Str → Option Value} {base : Heap}
variable {x qual : Str} {params : Arguments} {body : List Stmt} {scope : Scope} {dvs : List V} {kws : List (Str × V)} {f : Addr} {fd : FuncData} {N ps : List Str} {k : Nat}
end
section
variable {G : Gx} {X : Cx} {a b c e o : Expr} {es : List Expr} {pos pos' p apos : Pos} {pa : PEt} {pl : PAt}
end
end Rg

set_option Elab.async false
set_option linter.all false
set_option maxRecDepth 100000
set_option maxHeartbeats 4000000
namespace Rg
open PySem PySem.Spec PyProof.Rows L2
section
variable {G : Gx} {X : Cx} {es : List Expr} {pos : Pos}
end
end Rg

set_option Elab.async false
set_option linter.all false
set_option maxRecDepth 100000
set_option maxHeartbeats 4000000
namespace Rg
open PySem PySem.Spec PyProof.Rows L2
section
variable {G : Gx} {X : Cx} {a b c e : Expr} {es : List Expr} {pos p : Pos} {pa pb pc : PEt} {pl : PAt} {x : Str}
end
end Rg

set_option Elab.async false
set_option linter.all false
set_option maxRecDepth 100000
set_option maxHeartbeats 4000000
namespace Rg
open PySem PySem.Spec PyProof.Rows L2
abbrev Gf (G : Gx) (x : Addr) (fr : List (Addr × HO)) : Gx := { G with H0 := offX x G.H0, fr := fr }
section
variable {G : Gx} {F : List (Addr × HO)} {D D' H H' : Hp} {σ : L2.St} {ρ : Ps} {x : Addr} {o : HO}
/-- an object that stood at the start is taken into the frame -/
theorem RelB.grab (R : RelB G F D σ H ρ) (h0 : G.H0 x ≠ none) (hx : H x = some o) (dx : D x = none) (np : ∀ p, G.pn = some p → p ≠ x) (no : NT o := by trivial) : RelB (Gf G x G.fr) ((x, o) :: F) D σ H ρ := by
  obtain ⟨as, r⟩ := R.sl
  have z := rs_own_h0 R.frH0 r
  have n : x ∉ as := fun h => h0 (z x h)
  have off0 : ∀ a, G.H0 a = none → offX x G.H0 a = none := fun a h => by
    by_cases q : a = x
    · rw [q]; exact offX_eq
    · rw [offX_ne q]; exact h
  have key : ∀ {σ : L2.St} {sl : Sl} {as : List Addr}, Rs G.K D H G.H0 (F.map (·.1)) σ sl as → Rs G.K D H (offX x G.H0) (F.map (·.1)) σ sl as := by
    intro σ sl as r
    induction r with
    | nil => exact .nil
    | no _ ih => exact .no ih
    | val q _ ih => exact .val q ih
    | own ob d z n _ ih => exact .own ob d (off0 _ z) n ih
  obtain ⟨as', _, r3⟩ := rs_push (key r) n
  refine ⟨R.st.offX, ⟨as', r3⟩, fun q hq => ?_, R.pen, fun p e => by show offX x G.H0 p ≠ none; rw [offX_ne (np p e)]; exact R.ph p e, List.forall_mem_cons.mpr ⟨no, R.nt⟩⟩
  rcases List.mem_cons.mp hq with e | e
  · rw [e]
    exact ⟨hx, dx, offX_eq⟩
  · obtain ⟨f1, f2, f3⟩ := R.fr q e
    exact ⟨f1, f2, off0 _ f3⟩
theorem stepX_off {K : PySem.W.Frag} {pn : Option Addr} {D0 H0 D1 H1 : Hp} (s : StepT K (Wn pn) D0 (offX x H0) D1 H1) (h1 : H1 x ≠ none) (d1 : D1 x = none) : StepT K (Wx pn x) D0 H0 D1 H1 := by
  refine ⟨s.dd, s.dh, fun b o hb n e => s.kq b o (fun z => hb (.inr z)) n (by rw [offX_ne (fun z => hb (.inl z))]; exact e), fun b e => ?_, fun b e d => ?_, fun b hb t => s.tb b (fun z => hb (.inr z)) ?_⟩
  · by_cases q : b = x
    · rw [q]; exact h1
    · exact s.ns b (by rw [offX_ne q]; exact e)
  · by_cases q : b = x
    · rw [q]; exact d1
    · exact s.fr b (by rw [offX_ne q]; exact e) d
  · obtain ⟨g0, ps, h, r⟩ := t
    exact ⟨g0, ps, by rw [offX_ne (fun z => hb (.inl z))]; exact h, r⟩
end
structure WS where
  fs : List (Str × Option DV)
  kvs : List (Key × DV)
def FldR (K : PySem.W.Frag) (D : Hp) (a : Addr) : List (Str × V) → List (Str × Option DV) → Prop := Paired fun p q => p.1 = q.1 ∧ match q.2 with
  | some d => Rv K D p.2 d
  | none => p.2 = .ref a
theorem fldR_mono {K : PySem.W.Frag} {D D' : Hp} {a : Addr} (e : Same D D') : ∀ {ps : List (Str × V)} {fs : List (Str × Option DV)}, FldR K D a ps fs → FldR K D' a ps fs
  | _, _, .nil => .nil
  | (_, _) :: _, (_, some _) :: _, .cons h r => .cons ⟨h.1, rv_mono e h.2⟩ (fldR_mono e r)
  | (_, _) :: _, (_, none) :: _, .cons h r => .cons ⟨h.1, h.2⟩ (fldR_mono e r)
theorem fldR_names {K : PySem.W.Frag} {D : Hp} {a : Addr} : ∀ {ps : List (Str × V)} {fs : List (Str × Option DV)}, FldR K D a ps fs → ps.map (·.1) = fs.map (·.1)
  | _, _, .nil => rfl
  | _, _, .cons h r => by rw [List.map_cons, List.map_cons, h.1, fldR_names r]
theorem fldR_app {K : PySem.W.Frag} {D : Hp} {a : Addr} {f : Str} {v : V} {d : DV} (h : Rv K D v d) : ∀ {ps : List (Str × V)} {fs : List (Str × Option DV)}, FldR K D a ps fs → FldR K D a (ps ++ [(f, v)]) (fs ++ [(f, some d)])
  | _, _, .nil => .cons ⟨rfl, h⟩ .nil
  | _, _, .cons g r => .cons g (fldR_app h r)
theorem fldR_dict {K : PySem.W.Frag} {D : Hp} {a : Addr} {f : Str} : ∀ {ps : List (Str × V)} {fs : List (Str × Option DV)}, FldR K D a ps fs → fs.lookup f = some none → ps.lookup f = some (.ref a)
  | _, _, .nil, e => nomatch e
  | (g, v) :: ps, (g2, o) :: fs, .cons h r, e => by
    obtain ⟨h1, h2⟩ := h
    have h1 : g = g2 := h1
    subst h1
    by_cases q : f = g
    · subst q
      rw [List.lookup_cons_self] at e ⊢
      cases e
      exact congrArg some h2
    · have b : (f == g) = false := beq_eq_false_iff_ne.mpr q
      rw [List.lookup_cons, b] at e ⊢
      exact fldR_dict r e
abbrev frm (K : PySem.W.Frag) (C : Str) (x dx a : Addr) (ps : List (Str × V)) (qs : List (Key × V)) : List (Addr × HO) := [(x, .ins (He.ga K C) dx ps), (a, .dK qs)]
def RelI (G : Gx) (C : Str) (x : Addr) (W : WS) (D : Hp) (σ : L2.St) (H : Hp) (ρ : Ps) : Prop := ∃ (dx a : Addr) (ps : List (Str × V)) (qs : List (Key × V)), Rel (Gf G x (frm G.K C x dx a ps qs)) [] D σ H ρ ∧ FldR G.K D a ps W.fs ∧ RvP G.K D qs W.kvs ∧ a ≠ x
structure PIEnds where
  nx : Ps → WS → Prop
  rs : PR
  bk : Ps → WS → Prop := fun _ _ => False
  ct : Ps → WS → Prop := fun _ _ => False
abbrev PIt := PIEnds → Ps → WS → Prop
def ILk (G : Gx) (C : Str) (x : Addr) (D0 : Hp) (p : Ps → WS → Prop) (t : L2.St → Hp → Prop) : Prop := ∀ D σ H ρ W, Same D0 D → RelI G C x W D σ H ρ → p ρ W → t σ H
theorem ILk.up {G : Gx} {C : Str} {x : Addr} {D0 D1 : Hp} {p : Ps → WS → Prop} {t : L2.St → Hp → Prop} (h : ILk G C x D0 p t) (s : Same D0 D1) : ILk G C x D1 p t := fun D σ H ρ W e => h D σ H ρ W (s.trans e)
structure EndsI (G : Gx) (C : Str) (x : Addr) (D0 : Hp) (Ep : PIEnds) (E : Ends) : Prop where
  nx : ILk G C x D0 Ep.nx E.nx
  bk : ILk G C x D0 Ep.bk E.bk
  ct : ILk G C x D0 Ep.ct E.ct
theorem EndsI.up {G : Gx} {C : Str} {x : Addr} {D0 D1 : Hp} {Ep : PIEnds} {E : Ends} (h : EndsI G C x D0 Ep E) (s : Same D0 D1) : EndsI G C x D1 Ep E := ⟨h.nx.up s, h.bk.up s, h.ct.up s⟩
def lSi (G : Gx) (C : Str) (x : Addr) (p : PIt) : TS := fun E σ H => ∃ (D : Hp) (ρ : Ps) (W : WS) (Ep : PIEnds), RelI G C x W D σ H ρ ∧ p Ep ρ W ∧ EndsI G C x D Ep E ∧ ExOkX x G Ep.rs
structure DSi (G : Gx) (C : Str) (x : Addr) (X : Cx) (st : Stmt) (p : PIt) : Prop where
  run : PS X st (lSi G C x p)
structure DSsi (G : Gx) (C : Str) (x : Addr) (X : Cx) (sts : List Stmt) (p : PIt) : Prop where
  run : PSs X sts (lSi G C x p)
theorem exI {G : Gx} {x : Addr} {fr : List (Addr × HO)} {R : PR} (h : ExOkX x G R) : ExOk (Gf G x fr) R := ⟨fun D H e n d ps s => h.ok D H e n d ps (s.mono fun b z => .inr z)⟩
section
variable {G : Gx} {C : Str} {x : Addr} {X : Cx} {st : Stmt} {sts : List Stmt} {p q : PIt} {pos p1 p2 p3 : Pos}
def pINil : PIt := fun E ρ W => E.nx ρ W
def pISeq (p q : PIt) : PIt := fun E ρ W => p { E with nx := q E } ρ W
theorem si_nil : DSsi G C x X [] pINil := ⟨⟨fun pins s σ H E I ⟨D, ρ, W, Ep, rel, hp, ok, hx⟩ => pss_nil.run pins s σ H E I (ok.nx D σ H ρ W (Same.refl D) rel hp)⟩⟩
theorem si_cons (h : DSi G C x X st p) (h2 : DSsi G C x X sts q) : DSsi G C x X (st :: sts) (pISeq p q) := ⟨⟨fun pins s σ H E I ⟨D, ρ, W, Ep, rel, hp, ok, hx⟩ => (pss_cons h.run h2.run).run pins s σ H E I
  ⟨D, ρ, W, { Ep with nx := q Ep }, rel, hp, ⟨fun D' σ' H' ρ' W' sm rel' h' => ⟨D', ρ', W', Ep, rel', h', ok.up sm, hx⟩, ok.bk, ok.ct⟩, hx⟩⟩⟩
/-- a statement that stores nothing into self -/
def pIPl (p : WS → Addr → Addr → List (Str × V) → List (Key × V) → PSt) : PIt := fun E ρ W => ∀ (dx a : Addr) (ps : List (Str × V)) (qs : List (Key × V)), p W dx a ps qs { nx := fun ρ' => E.nx ρ' W, rt := fun _ _ => False, rs := E.rs, bk := fun ρ' => E.bk ρ' W, ct := fun ρ' => E.ct ρ' W } ρ
theorem si_plain {p : WS → Addr → Addr → List (Str × V) → List (Key × V) → PSt} (d : ∀ (W : WS) (dx a : Addr) (ps : List (Str × V)) (qs : List (Key × V)), (∀ f, W.fs.lookup f = some none → ps.lookup f = some (.ref a)) → qs.map (·.1) = W.kvs.map (·.1) → DS (Gf G x (frm G.K C x dx a ps qs)) X st (p W dx a ps qs)) : DSi G C x X st (pIPl p) := by
  refine ⟨⟨fun pins s σ H E I ⟨D, ρ, W, Ep, ⟨dx, a, ps, qs, rel, fl, rv, ne⟩, hp, ok, hx⟩ => ?_⟩⟩
  have keys : ∀ {qs : List (Key × V)} {kvs : List (Key × DV)}, RvP G.K D qs kvs → qs.map (·.1) = kvs.map (·.1) := by
    intro qs kvs r
    induction r with
    | nil => rfl
    | cons a _ ih => rw [List.map_cons, List.map_cons, a.1, ih]
  refine (d W dx a ps qs (fun f h => fldR_dict fl h) (keys rv)).run.run pins s σ H E I ⟨D, ρ, _, rel, hp dx a ps qs, ⟨fun D' σ' H' ρ' sm rel' h' => ok.nx D' σ' H' ρ' W sm ⟨dx, a, ps, qs, rel', fldR_mono sm fl, rvP_mono sm rv, ne⟩ h', fun _ _ _ _ _ _ _ _ z => z.elim, fun D' σ' H' ρ' sm rel' h' => ok.bk D' σ' H' ρ' W sm ⟨dx, a, ps, qs, rel', fldR_mono sm fl, rvP_mono sm rv, ne⟩ h', fun D' σ' H' ρ' sm rel' h' => ok.ct D' σ' H' ρ' W sm ⟨dx, a, ps, qs, rel', fldR_mono sm fl, rvP_mono sm rv, ne⟩ h'⟩, exI hx⟩
end
end Rg

set_option Elab.async false
set_option linter.all false
set_option maxRecDepth 100000
set_option maxHeartbeats 4000000
namespace Rg
open PySem PySem.Spec PyProof.Rows L2
def hasKey (keys : List Key) (k : Key) : Bool := keys.any fun j => decide (j = k)
theorem valV_some (k : Key) : ∀ qs : List (Key × V), (valV qs k).isSome = hasKey (qs.map (·.1)) k
  | [] => rfl
  | (j, v) :: r => by
    have ih := valV_some k r
    unfold valV at ih ⊢
    rw [List.find?_cons, List.map_cons]
    show _ = (decide (j = k) || hasKey (r.map (·.1)) k)
    by_cases h : j = k
    · rw [decide_eq_true h]
      rfl
    · rw [decide_eq_false h]
      exact ih
def slSelf (x : Addr) (ρ : Ps) : Prop := ρ.sl[0]? = some (some (.val (.raw (.ref x))))
section
variable {G : Gx} {C : Str} {x : Addr} {X : Cx} {b k v e : Expr} {st : Stmt} {sts : List Stmt} {p q : PIt} {pos p1 p2 p3 : Pos} {pb pk pv pa : PEt} {s f : Str}
def pInF (x : Addr) (W : WS) (f : Str) (pb : PEt) : PTt := fun ρ Q R => pb ρ (fun y ρ1 => slSelf x ρ1 ∧ W.fs.lookup f = some none ∧ match keyOf y with
  | some k => Q (hasKey (W.kvs.map (·.1)) k) ρ1
  | none => False) R
theorem self_at {F : List (Addr × HO)} {D H : Hp} {σ : L2.St} {ρ : Ps} (rel : Rel G F D σ H ρ) (h : slSelf x ρ) : σ[0]? = some (some (.ref x)) := by
  obtain ⟨w, e0, r0⟩ := rel.get h
  rw [rv_raw r0] at e0
  exact e0
theorem t_inF {W : WS} {dx a : Addr} {ps : List (Str × V)} {qs : List (Key × V)} (hu : X.A.units + 1 < cLine) (c : Cls X.K (He.ga G.K C)) (n : NoAttr X.K (He.ga G.K C) f) (lk : ∀ f, W.fs.lookup f = some none → ps.lookup f = some (.ref a)) (hk : qs.map (·.1) = W.kvs.map (·.1)) (hs : PE X (.Name s p1) (tVar 0)) (hb : DE (Gf G x (frm G.K C x dx a ps qs)) X b pb)
    (hK : X.K = G.K := by rfl) : DT (Gf G x (frm G.K C x dx a ps qs)) X (.Compare b [.In] [.Attribute (.Name s p1) f p2] pos) (pInF x W f pb) := by
  refine DT.of (pt_cmp (pc_din hu hb.run (pe_fldK G.K hs hK)) rfl) fun F D σ H ρ Q R k rel hp hx cont => ?_
  refine simE_l F D σ H ρ _ R _ rel hp hx fun y ρ1 D1 w H1 e1 r1 q1 hp1 => ?_
  obtain ⟨hself, wl, hp1⟩ := hp1
  split at hp1
  · next kk ek =>
    have f1 := (r1.fr (x, .ins (He.ga G.K C) dx ps) (List.mem_append_right _ List.mem_cons_self)).1
    have f2 := (r1.fr (a, .dK qs) (List.mem_append_right _ (List.mem_cons_of_mem _ List.mem_cons_self))).1
    refine ⟨_, self_at r1 hself, x, He.ga G.K C, dx, ps, .ref a, rfl, f1, hK ▸ c, hK ▸ n, lk _ wl, a, valV qs kk, rfl, ?_, ?_⟩
    · rw [rv_key q1 ek]
      exact DGet.k f2
    · rw [valV_some, hk]
      exact ⟨_, rfl, cont _ ρ1 D1 H1 e1 r1 hp1⟩
  · exact hp1.elim
/-- self.f[k] = v -/
def pIPut (x : Addr) (f : Str) (pk pv : List (Addr × HO) → PEt) : PIt := fun E ρ W => ∀ fr, pv fr ρ (fun d ρ1 => slSelf x ρ1 ∧ W.fs.lookup f = some none ∧ pk fr ρ1 (fun y ρ2 => W.kvs.length < sizeLine ∧ match keyOf y with
  | some k => E.nx ρ2 ⟨W.fs, dput W.kvs k d⟩
  | none => False) E.rs) E.rs
theorem si_put {pk pv : List (Addr × HO) → PEt} (hu : X.A.units + 1 < cLine) (c : Cls X.K (He.ga G.K C)) (n : NoAttr X.K (He.ga G.K C) f) (hs : PE X (.Name s p1) (tVar 0)) (hk : ∀ fr, DE (Gf G x fr) X k (pk fr)) (hv : ∀ fr, DE (Gf G x fr) X v (pv fr))
    (hsw : swapsWith v (some (.Subscript (.Attribute (.Name s p1) f p2) k p3)) pos.line X.env = pure false := by rfl) (hK : X.K = G.K := by rfl) : DSi G C x X (.Assign [.Subscript (.Attribute (.Name s p1) f p2) k p3] v pos) (pIPut x f pk pv) := by
  refine ⟨⟨fun pins sh σ H E I ⟨D, ρ, W, Ep, ⟨dx, a, ps, qs, rel, fl, rv, ne⟩, hp, ok, hx⟩ => ?_⟩⟩
  refine (ps_dput hu (pe_fldK G.K hs hK) (hk (frm G.K C x dx a ps qs)).run (hv (frm G.K C x dx a ps qs)).run hsw).run pins sh σ H E I ?_
  refine simE_l [] D σ H ρ _ Ep.rs _ rel (hp (frm G.K C x dx a ps qs)) (exI hx) fun d ρ1 D1 u H1 e1 r1 q1 hp1 => ?_
  obtain ⟨hself, lk, hp1⟩ := hp1
  have f1 := (r1.fr (x, .ins (He.ga G.K C) dx ps) (List.mem_append_right _ List.mem_cons_self)).1
  refine ⟨_, self_at r1 hself, x, He.ga G.K C, dx, ps, .ref a, rfl, f1, hK ▸ c, hK ▸ n, fldR_dict fl lk, ?_⟩
  refine simE_l [] D1 σ H1 ρ1 _ Ep.rs _ r1 hp1 (exI hx) fun y ρ2 D2 w H2 e2 r2 q2 hp2 => ?_
  obtain ⟨hz, hp2⟩ := hp2
  split at hp2
  · next kk ek =>
    have f2 := (r2.fr (a, .dK qs) (List.mem_append_right _ (List.mem_cons_of_mem _ List.mem_cons_self))).1
    have sm : Same D D2 := e1.trans e2
    have r3 : RelB (Gf G x (frm G.K C x dx a ps qs)) [(a, .dK (putK qs kk u)), (x, .ins (He.ga G.K C) dx ps)] D2 σ (upd H2 a (.dK (putK qs kk u))) ρ2 := (RelB.swap2 r2).poke (fun z => ne (by simpa using z))
    refine ⟨a, _, rfl, .inl ⟨qs, kk, f2, rv_key q2 ek, by rw [rvP_len rv]; exact hz, rfl⟩, ok.nx D2 σ _ ρ2 ⟨W.fs, dput W.kvs kk d⟩ sm ⟨dx, a, ps, putK qs kk u, ?_, fldR_mono sm fl, rvP_put kk (rv_mono e2 q1) (rvP_mono sm rv), ne⟩ hp2⟩
    have r4 := RelB.swap2 r3
    exact ⟨r4.st, r4.sl, r4.fr, r4.pen, r4.ph, r4.nt⟩
  · exact hp2.elim
/-- self.g = v -/
def pISt (x : Addr) (g : Str) (pv : List (Addr × HO) → PEt) : PIt := fun E ρ W => ∀ fr, pv fr ρ (fun d ρ1 => slSelf x ρ1 ∧ g ∉ W.fs.map (·.1) ∧ W.fs.length < 900 ∧ E.nx ρ1 ⟨W.fs ++ [(g, some d)], W.kvs⟩) E.rs
theorem si_store {g : Str} {pv : List (Addr × HO) → PEt} (c : Cls X.K (He.ga G.K C)) (n : NoAttr X.K (He.ga G.K C) g) (hs : PE X (.Name s p1) (tVar 0)) (hv : ∀ fr, DE (Gf G x fr) X v (pv fr))
    (hsw : swapsWith v (some (.Attribute (.Name s p1) g p2)) pos.line X.env = pure false := by rfl) (hK : X.K = G.K := by rfl) : DSi G C x X (.Assign [.Attribute (.Name s p1) g p2] v pos) (pISt x g pv) := by
  refine ⟨⟨fun pins sh σ H E I ⟨D, ρ, W, Ep, ⟨dx, a, ps, qs, rel, fl, rv, ne⟩, hp, ok, hx⟩ => ?_⟩⟩
  refine (ps_fld hs (hv (frm G.K C x dx a ps qs)).run hsw).run pins sh σ H E I ?_
  refine simE_l [] D σ H ρ _ Ep.rs _ rel (hp (frm G.K C x dx a ps qs)) (exI hx) fun d ρ1 D1 u H1 e1 r1 q1 hp1 => ?_
  obtain ⟨hself, ng, hl, hp1⟩ := hp1
  have f1 := (r1.fr (x, .ins (He.ga G.K C) dx ps) (List.mem_append_right _ List.mem_cons_self)).1
  have nm := fldR_names fl
  have pl : ps.length = W.fs.length := by
    have := congrArg List.length nm
    rwa [List.length_map, List.length_map] at this
  refine ⟨_, self_at r1 hself, x, He.ga G.K C, dx, ps, rfl, f1, c, n, by omega, ?_⟩
  rw [putF_new (by rw [nm]; exact ng)]
  have r3 : RelB (Gf G x (frm G.K C x dx a ps qs)) [(x, .ins (He.ga G.K C) dx (ps ++ [(g, u)])), (a, .dK qs)] D1 σ (upd H1 x (.ins (He.ga G.K C) dx (ps ++ [(g, u)]))) ρ1 := RelB.poke r1 (fun z => ne (by simpa using z : x = a).symm)
  exact ok.nx D1 σ _ ρ1 ⟨W.fs ++ [(g, some d)], W.kvs⟩ e1 ⟨dx, a, ps ++ [(g, u)], qs, ⟨r3.st, r3.sl, r3.fr, r3.pen, r3.ph, r3.nt⟩, fldR_app q1 (fldR_mono e1 fl), rvP_mono e1 rv, ne⟩ hp1
/-- for, the body of which stores into self -/
def WkI (I : Ps → WS → Prop) : Ps → WS → Prop := fun ρ W => ∃ sl n, Le sl ρ.sl ∧ n ≤ ρ.ink ∧ I ⟨sl, n⟩ W
def pIFor (pi : List (Addr × HO) → PAt) (pg : List (Addr × HO) → PGt) (pb : PIt) : PIt := fun E ρ W => ∀ fr0, pi fr0 ρ (fun ds ρ1 => ∃ I : Nat → Ps → WS → Prop, I 0 ρ1 W ∧
  (∀ i d ρ2 W2, ds[i]? = some d → I i ρ2 W2 → ∀ fr, pg fr d ρ2 fun ρ3 => pb { E with nx := WkI (I (i + 1)), ct := WkI (I (i + 1)), bk := E.nx } ρ3 W2) ∧ ∀ ρ2 W2, I ds.length ρ2 W2 → E.nx ρ2 W2) E.rs
theorem RelI.wk {W : WS} {D H : Hp} {σ : L2.St} {ρ : Ps} {sl : Sl} {n : Nat} (R : RelI G C x W D σ H ρ) (l : Le sl ρ.sl) (hn : n ≤ ρ.ink) : RelI G C x W D σ H ⟨sl, n⟩ := by
  obtain ⟨dx, a, ps, qs, rel, r⟩ := R
  exact ⟨dx, a, ps, qs, rel.wk l hn, r⟩
theorem si_for {tg a : Expr} {g : List (Addr × HO) → TG} {ks : List Nat} {pg : List (Addr × HO) → PGt} {pi : List (Addr × HO) → PAt} {p : PIt} (hp : PassesOwn (model X.prog X.w) X.A X.env X.xe) (hc : X.calm = true) (hi : ∀ fr, DI (Gf G x fr) X tg a (pi fr)) (hg : ∀ fr, DG (Gf G x fr) X tg (g fr) ks (pg fr)) (hb : DSsi G C x X sts p) (hs : ∀ x, foldedSetIterable a X.env x = pure x := by intro _; rfl) (hgg : ∀ fr, g fr = g [] := by intro _; rfl) :
    DSi G C x X (.For tg a sts [] pos) (pIFor pi pg p) := by
  refine ⟨⟨fun pins sh σ H E I0 ⟨D, ρ, W, Ep, ⟨dx, ad, ps, qs, rel, fl, rv, ne⟩, hpp, ok, hx⟩ => ?_⟩⟩
  obtain ⟨wi, h1, s1⟩ := (hi (frm G.K C x dx ad ps qs)).ex
  refine (ps_for hp hc h1 (hg []).run hb.run hs).run pins sh σ H E I0 ?_
  refine s1 [] D σ H ρ _ Ep.rs _ rel (hpp (frm G.K C x dx ad ps qs)) (exI hx) fun ds ρ1 D1 H1 J e1 r1 it hp1 => ?_
  obtain ⟨I, i0, turn, fin⟩ := hp1
  obtain ⟨Y, w, hY⟩ := it.ex
  refine for_it w (fun i σ H => ∃ D2 ρ2 W2, Same D1 D2 ∧ RelI G C x W2 D2 σ H ρ2 ∧ I i ρ2 W2) ⟨D1, ρ1, W, Same.refl D1, ⟨dx, ad, ps, qs, r1, fldR_mono e1 fl, rvP_mono e1 rv, ne⟩, i0⟩ ?_ ?_ ?_
  · rintro i σ H _ ⟨D2, ρ2, W2, sm, ⟨dx, ad, ps, qs, r2, _⟩, _⟩
    exact sm.trans r2.same
  · rintro i y σ H H' hi' ⟨D2, ρ2, W2, sm, ⟨dx, ad, ps, qs, r2, fl2, rv2, ne2⟩, i2⟩ yy
    obtain ⟨d, D3, h3, sm3, r3, rv3⟩ := ItD.turn (G := Gf G x (frm G.K C x dx ad ps qs)) (J := J) hY hi' yy sm r2
    have hg1 := hg (frm G.K C x dx ad ps qs)
    rw [hgg] at hg1
    refine hg1.sim [] D3 σ H' ρ2 y d _ _ r3 rv3 (turn i d ρ2 W2 h3 i2 (frm G.K C x dx ad ps qs)) fun ρ4 σ4 _ r4 h4 => ?_
    refine ⟨D3, ρ4, W2, { Ep with nx := WkI (I (i + 1)), ct := WkI (I (i + 1)), bk := Ep.nx }, ⟨dx, ad, ps, qs, r4, fldR_mono sm3 fl2, rvP_mono sm3 rv2, ne2⟩, h4, ⟨?_, (ok.nx).up ((e1.trans sm).trans sm3), ?_⟩, hx⟩
    · rintro D5 σ5 H5 ρ5 W5 sm5 r5 ⟨sl, n, l, hn, h5⟩
      exact ⟨D5, _, W5, (sm.trans sm3).trans sm5, r5.wk l hn, h5⟩
    · rintro D5 σ5 H5 ρ5 W5 sm5 r5 ⟨sl, n, l, hn, h5⟩
      exact ⟨D5, _, W5, (sm.trans sm3).trans sm5, r5.wk l hn, h5⟩
  · rintro σ H ⟨D2, ρ2, W2, sm, r2, i2⟩
    exact ok.nx D2 σ H ρ2 W2 (e1.trans sm) r2 (fin ρ2 W2 i2)
end
end Rg

set_option Elab.async false
set_option linter.all false
set_option maxRecDepth 100000
set_option maxHeartbeats 4000000
namespace Rg
open PySem PySem.Spec PyProof.Rows L2
def lB (G : Gx) (C : Str) (x : Addr) (p : PIEnds → Ps → Prop) : TS := fun E σ H => ∃ (D : Hp) (ρ : Ps) (Ep : PIEnds), Rel G [] D σ H ρ ∧ p Ep ρ ∧ EndsI G C x D Ep E ∧ ExOkX x G Ep.rs
structure DSb (G : Gx) (C : Str) (x : Addr) (X : Cx) (sts : List Stmt) (p : PIEnds → Ps → Prop) : Prop where
  run : PSs X sts (lB G C x p)
section
variable {G : Gx} {C : Str} {x dx : Addr} {X : Cx} {st : Stmt} {sts : List Stmt} {p : PSt} {q : PIt} {qb : PIEnds → Ps → Prop} {pos p1 p2 p3 : Pos} {s f : Str}
def pBCons (p : PSt) (q : PIEnds → Ps → Prop) : PIEnds → Ps → Prop := fun E ρ => p { nx := q E, rt := fun _ _ => False, rs := E.rs } ρ
theorem b_cons (h : DS G X st p) (h2 : DSb G C x X sts qb) : DSb G C x X (st :: sts) (pBCons p qb) := by
  refine ⟨⟨fun pins sh σ H E I ⟨D, ρ, Ep, rel, hp, ok, hx⟩ => (pss_cons h.run h2.run).run pins sh σ H E I ?_⟩⟩
  exact ⟨D, ρ, _, rel, hp, ⟨fun D' σ' H' ρ' sm rel' h' => ⟨D', ρ', Ep, rel', h', ok.up sm, hx⟩, fun _ _ _ _ _ _ _ _ z => z.elim, fun _ _ _ _ _ _ z => z.elim, fun _ _ _ _ _ _ z => z.elim⟩, hx.ex⟩
/-- self.f = {} -/
def pBDict (x : Addr) (f : Str) (q : PIt) : PIEnds → Ps → Prop := fun E ρ => slSelf x ρ ∧ q E ρ ⟨[(f, none)], []⟩
theorem b_dict (hfr : G.fr = []) (h0 : G.H0 x = some (.ins (He.ga G.K C) dx [])) (d0 : G.D0 x = none) (np : ∀ p, G.pn = some p → p ≠ x) (c : Cls X.K (He.ga G.K C)) (n : NoAttr X.K (He.ga G.K C) f) (hs : PE X (.Name s p1) (tVar 0)) (h2 : DSsi G C x X sts q)
    (hsw : swapsWith (.Dict [] [] p3) (some (.Attribute (.Name s p1) f p2)) pos.line X.env = pure false := by rfl) : DSb G C x X (.Assign [.Attribute (.Name s p1) f p2] (.Dict [] [] p3) pos :: sts) (pBDict x f q) := by
  refine ⟨⟨fun pins sh σ H E I ⟨D, ρ, Ep, rel, ⟨hself, hq⟩, ok, hx⟩ => (pss_cons (ps_fld hs pe_dnewK hsw) h2.run).run pins sh σ H E I ?_⟩⟩
  have n0 : G.H0 x ≠ none := by rw [h0]; exact fun z => nomatch z
  intro a ha
  have hx1 : H x = some (.ins (He.ga G.K C) dx []) := rel.st.kq x _ (fun e => np x e rfl) True.intro h0
  have dx1 : D x = none := rel.st.fr x n0 d0
  have ne : a ≠ x := fun z => by rw [z, hx1] at ha; cases ha
  have r1 : RelB G [(a, .dK [])] D σ (upd H a (.dK [])) ρ := by
    have r := rel.push (o := .dK []) ha
    rw [hfr] at r
    exact r
  have r2 := r1.grab n0 (by rw [upd_ne (Ne.symm ne)]; exact hx1) dx1 np
  have r3 := r2.poke (o' := .ins (He.ga G.K C) dx [(f, .ref a)]) (fun z => ne (by simpa using z : x = a).symm)
  refine ⟨.ref x, self_at rel hself, x, He.ga G.K C, dx, [], rfl, by rw [upd_ne (Ne.symm ne)]; exact hx1, c, n, by show 0 < 1000; decide, ?_⟩
  exact ⟨D, ρ, ⟨[(f, none)], []⟩, Ep, ⟨dx, a, [(f, .ref a)], [], ⟨r3.st, r3.sl, r3.fr, r3.pen, r3.ph, r3.nt⟩, .cons ⟨rfl, rfl⟩ .nil, .nil, ne⟩, hq, ok, hx⟩
end
def finV (W : WS) : List DV := W.fs.map fun p => match p.2 with
  | some d => d
  | none => .node (.dct (W.kvs.map (·.1))) (W.kvs.map (·.2))
def endsI (fs : List Str) (Qd : List DV → Nat → Prop) (R : PR) : PIEnds := { nx := fun ρ W => W.fs.map (·.1) = fs ∧ Qd (finV W) ρ.ink, rs := R }
theorem zip_self {κ α : Type} : ∀ ps : List (κ × α), (ps.map (·.1)).zip (ps.map (·.2)) = ps
  | [] => rfl
  | p :: r => by rw [List.map_cons, List.map_cons, List.zip_cons_cons, zip_self r]
theorem rvP_vals {κ : Type} {K : PySem.W.Frag} {D : Hp} : ∀ {qs : List (κ × V)} {kvs : List (κ × DV)}, RvP K D qs kvs → qs.map (·.1) = kvs.map (·.1) ∧ RvA K D (qs.map (·.2)) (kvs.map (·.2))
  | _, _, .nil => ⟨rfl, .nil⟩
  | _, _, .cons a r => ⟨by rw [List.map_cons, List.map_cons, a.1, (rvP_vals r).1], .cons a.2 (rvP_vals r).2⟩
theorem fldR_vals {K : PySem.W.Frag} {D : Hp} {a : Addr} {dd : DV} (hd : Rv K D (.ref a) dd) : ∀ {ps : List (Str × V)} {fs : List (Str × Option DV)}, FldR K D a ps fs → RvA K D (ps.map (·.2)) (fs.map fun p => match p.2 with | some d => d | none => dd)
  | _, _, .nil => .nil
  | (_, _) :: _, (_, some _) :: _, .cons h r => .cons h.2 (fldR_vals hd r)
  | (_, v) :: _, (_, none) :: _, .cons h r => .cons (by have e : v = .ref a := h.2; rw [e]; exact hd) (fldR_vals hd r)
section
variable {P : Program} {w : World} {K : PySem.W.Frag} {mg : Str → Option Value} {base : Heap}
variable {CX : CXT} {x qual : Str} {params : Arguments} {body : List Stmt} {scope : Scope} {dvs : List V} {kws : List (Str × V)} {f : Addr} {fd : FuncData} {N ps : List Str} {k : Nat}
/-- how the end of such a body meets spNew's -/
theorem init_end {C : Str} {fs : List Str} {pn : Option Addr} {D H : Hp} {E : XK} {Q : VK} {x dx : Addr} {n : Nat} {Qd : List DV → Nat → Prop} {R : PR} {body : List Stmt} {X : Cx} {pp : PIEnds → Ps → Prop} {us : List V} {ds : List DV} {N : List Str}
    (dv : DSb ⟨K, pn, D, H, E, []⟩ C x X body pp) (sd : Same D H) (ph : ∀ p, pn = some p → H p ≠ none ∧ p ≠ x) (dx0 : D x = none) (hx : H x = some (.ins (He.ga K C) dx [])) (rv : RvA K D us ds) (pen : PenOk K D H pn n)
    (post : ∀ D' H' dxe zs es n', StepT K (Wx pn x) D H D' H' → D' x = none → H' x = some (.ins (He.ga K C) dxe (fs.zip zs)) → fs.length = zs.length → RvA K D' zs es → PenOk K D' H' pn n' → Qd es n' → Q .non H') (ex : ExOkX x ⟨K, pn, D, H, E, []⟩ R)
    (hp : pp (endsI fs Qd R) ⟨startP N (.raw (.ref x) :: ds), n⟩) : lB ⟨K, pn, D, H, E, []⟩ C x pp { nx := fun _ H' => Q .non H', rt := Q } (L2.start N (.ref x :: us)) H := by
  refine ⟨D, _, endsI fs Qd R, rel_start sd (fun p e => (ph p e).1) (.cons (.raw _) rv) pen, hp, ⟨?_, fun _ _ _ _ _ _ _ z => z.elim, fun _ _ _ _ _ _ _ z => z.elim⟩, ex⟩
  rintro D1 σ1 H1 ρ1 W sm ⟨dx', a, ps, qs, rel, fl, rvd, ne⟩ ⟨hn, hq⟩
  have f1 := rel.fr (x, .ins (He.ga K C) dx' ps) List.mem_cons_self
  obtain ⟨r2, sm2⟩ := (RelB.swap2 rel).pop (fun z => ne (by simpa using z))
  have hx1 : H1 x = some (.ins (He.ga K C) dx' ps) := f1.1
  have g1 := r2.fr (x, .ins (He.ga K C) dx' ps) List.mem_cons_self
  have st := stepX_off (pn := pn) r2.st (by rw [hx1]; exact fun z => nomatch z) g1.2.1
  obtain ⟨k1, k2⟩ := rvP_vals (rvP_mono sm2 rvd)
  have hd : Rv K (upd D1 a (.dK qs)) (.ref a) (.node (.dct (W.kvs.map (·.1))) (W.kvs.map (·.2))) := by
    rw [← k1]
    exact .dct (vs := qs.map (·.2)) (by rw [upd_same, zip_self]) (by rw [List.length_map, List.length_map]) k2
  have nm := fldR_names fl
  refine post _ H1 dx' (ps.map (·.2)) (finV W) ρ1.ink st g1.2.1 ?_ ?_ (fldR_vals hd (fldR_mono sm2 fl)) r2.pen hq
  · rw [hx1, ← hn, ← nm, zip_self]
  · rw [← hn, ← nm, List.length_map, List.length_map]
end
end Rg

set_option Elab.async false
set_option linter.all false
set_option maxRecDepth 100000
set_option maxHeartbeats 4000000
namespace Rg
open PySem PySem.Spec PyProof.Rows L2
def tupFn (Fn : NFn) : NFn := fun pn ds' n Q R => ∃ ds, ds' = [.tup ds] ∧ ds.length ≤ sizeLine ∧ Fn pn ds n Q R
section
variable {P : Program} {w : World} {K : PySem.W.Frag} {mg : Str → Option Value} {base : Heap} {CX : CXT}
theorem spNew_tup {C : Str} {fs : List Str} {Fn : NFn} (hz : ∀ pn ds n Q R, Fn pn ds n Q R → ds.length ≤ sizeLine) {vs : List V} {H : Hp} {Q : VK} {E : XK} (h : spNew K C fs Fn vs H Q E) :
    ∃ ws rest, vs = ws ++ rest ∧ ws.length = ([("self" : Str)]).length ∧ rest.length ≤ sizeLine ∧ ∀ p, H p = none → spNew K C fs (tupFn Fn) (ws ++ [V.ref p]) (upd H p (.tup rest)) Q E := by
  obtain ⟨D, pn, x, dx, us, ds, n, Qd, R, rfl, sd, ph, dx0, hx, rv, pen, hf, post, ex⟩ := h
  have lz := hz _ _ _ _ _ hf
  refine ⟨[.ref x], us, rfl, rfl, by rw [rvA_len rv]; exact lz, fun p hp => ?_⟩
  have st : StepT K NoW D H (upd D p (.tup us)) (upd H p (.tup us)) := (Step.new sd hp).t
  have npx : p ≠ x := fun z => by rw [z, hx] at hp; cases hp
  have sm : Same D (upd D p (.tup us)) := st.dd
  refine ⟨upd D p (.tup us), pn, x, dx, [.ref p], [.tup ds], n, Qd, R, rfl, st.dh, fun q hq => ⟨upd_ne_none (ph q hq).1, (ph q hq).2⟩, by rw [upd_ne (Ne.symm npx)]; exact dx0, by rw [upd_ne (Ne.symm npx)]; exact hx, .cons (.tup upd_same (rvA_mono sm rv)) .nil, pen.keep st, ⟨ds, rfl, lz, hf⟩, fun D' H' dxe zs es n' s d1 h1 hl rvz pk hq => post D' H' dxe zs es n' ((st.any (W := Wx pn x)).trans s) d1 h1 hl rvz pk hq, ⟨fun D' H' e n d ps s => ex.ok D' H' e n d ps ?_⟩⟩
  have e1 : offX x (upd H p (.tup us)) = upd (offX x H) p (.tup us) := by
    funext b
    by_cases q : b = x
    · rw [q, offX_eq, upd_ne (Ne.symm npx), offX_eq]
    · rw [offX_ne q]
      by_cases q2 : b = p
      · rw [q2, upd_same, upd_same]
      · rw [upd_ne q2, upd_ne q2, offX_ne q]
  have sd2 : Same D (offX x H) := fun b o h => by
    have q : b ≠ x := fun z => by rw [z, dx0] at h; cases h
    rw [offX_ne q]
    exact sd b o h
  have s' : StepT K (Wx pn x) (upd D p (.tup us)) (upd (offX x H) p (.tup us)) D' H' := e1 ▸ s
  exact ((Step.new (o := .tup us) sd2 (by rw [offX_ne npx]; exact hp)).any (W := Wx pn x)).t.trans s'
theorem ok_newV {x qual pv : Str} {params : Arguments} {body : List Stmt} {scope : Scope} {f : Addr} {fd : FuncData} {N : List Str} {k : Nat} {C : Str} {fs : List Str} {Fn : NFn} (F : FunD K x qual params body scope [] [] f fd) (S : FnScope N ([("self" : Str)] ++ [pv]) scope) (hCX : StX.CXUp CX)
    (hb : ∀ (kV doc pm : Value) (an : Option Addr) (cdv ct : Value) (us rest : List Value), us.length = ([("self" : Str)]).length → bindArgs (PySem.W.fnOf x qual params body scope .none kV doc pm an cdv ct) ⟨us ++ rest, []⟩ = (newTuple rest >>= fun t => pure ([("self" : Str)].zip us ++ [(pv, t)])))
    (hz : ∀ pn ds n Q R, Fn pn ds n Q R → ds.length ≤ sizeLine)
    (hbody : ∀ (cdv : Value) (A : Around) (outer : List Env) (s : Shared) (pn : Option Addr) (D H : Hp) (E : XK) (x dx : Addr) (ds : List DV) (n : Nat) (Qd : List DV → Nat → Prop) (R : PR), Room k (A.deeper (envOfC qual scope s.heap.objs.size f cdv)) → D x = none → H x = some (.ins (He.ga K C) dx []) → (∀ p, pn = some p → p ≠ x) → Fn pn ds n Qd R →
      ∃ pp, DSb ⟨K, pn, D, H, E, []⟩ C x (cxOf CX P w K mg base N qual scope f cdv A outer s H E) body pp ∧ pp (endsI fs Qd R) ⟨startP N [.raw (.ref x), .tup ds], n⟩) : FnR P w K mg base CX (k + 1) f (spNew K C fs Fn) := by
  obtain ⟨oc, od, dV, kV, doc, pm, an, cdv, ct, osl, rfl, lk, hcd, hD, _⟩ := F.ex
  obtain rfl : dV = .none := by
    rcases hD with ⟨_, e⟩ | ⟨e, _⟩
    · exact e
    · exact absurd rfl e
  have base0 := StX.fn_star (P := P) (w := w) (mg := mg) (base := base) (k := k) (CX := CX) (sp := spNew K C fs (tupFn Fn)) lk hcd S hCX (fun us rest hl => hb _ _ _ _ _ _ us rest hl) fun A outer s H vs Q E hr h => ?_
  · exact base0.imp fun vs H Q E h => spNew_tup hz h
  · obtain ⟨D, pn, x, dx, us, ds', n, Qd, R, rfl, sd, ph, dx0, hx, rv, pen, ⟨ds, rfl, lz, hf⟩, post, ex⟩ := h
    obtain ⟨pp, dv, hp⟩ := hbody cdv A outer s pn D H E x dx ds n Qd R hr dx0 hx (fun p e => (ph p e).2) hf
    exact ⟨_, dv.run, init_end dv sd ph dx0 hx rv pen post ex hp⟩
end
structure MkS (P : Program) (w : World) (K : PySem.W.Frag) (mg : Str → Option Value) (base : Heap) (CX : CXT) (k : Nat) (x : Str) (C : Addr) (sp : Sp) : Prop where
  ex : ∃ g : Addr, Mk K C g ∧ FnR P w K mg base CX k g sp ∧ mg x = some (.ref C)
section
variable {G : Gx} {X : Cx} {a b c e : Expr} {es : List Expr} {pos p sp_ : Pos} {pa pb pc : PEt} {pl : PAt} {x : Str}
theorem sim_makeR {C : Str} {fs : List Str} {Fn : NFn} {t : TA} (st : SimA G t pl) : SimE G (StX.tMakeR (He.ga G.K C) (spNew G.K C fs Fn) G.E t) (pMake C fs (Fn G.pn) pl) := by
  intro F D σ H ρ Q R k rel hp hx cont
  have z := sim_make (C := C) (fs := fs) (Fn := Fn) st F D σ H ρ Q R k rel hp hx cont
  refine st F D σ H ρ _ R _ rel hp hx fun ds ρ1 D1 vs H1 e1 r1 q1 hp1 => ?_
  intro x dx hx0 hd ne
  have x1 : (upd H1 dx (.own x)) x = none := by rw [upd_ne (Ne.symm ne)]; exact hx0
  have t1 : Step NoW D1 H1 D1 (upd (upd H1 dx (.own x)) x (.ins (He.ga G.K C) dx [])) := (Step.tmp r1.same hd).trans (Step.tmp (Step.tmp (W := NoW) r1.same hd).dh x1)
  have rN : Rel G F D1 σ (upd (upd H1 dx (.own x)) x (.ins (He.ga G.K C) dx [])) ρ1 := r1.stepN t1.t
  have penx : ∀ p, G.pn = some p → p ≠ x := fun p hp e => by
    have := r1.ph p hp
    exact this (r1.st.free (e ▸ hx0))
  refine ⟨D1, G.pn, x, dx, vs, ds, ρ1.ink, _, R, rfl, rN.same, fun p hp => ⟨fun h => r1.ph p hp (rN.st.free h), penx p hp⟩, r1.same.free hx0, upd_same, q1, rN.pen, hp1, ?_, exX_from hx r1.st hx0 hd ne r1.same⟩
  intro D' H' dxe zs es' n' st d1 h1 hl rv pk hq
  refine ⟨rfl, ?_⟩
  have st2 : StepT G.K (Wx G.pn x) D1 H1 D' H' := (t1.any (W := Wx G.pn x)).t.trans st
  have st3 : StepT G.K (Wn G.pn) D1 H1 D' H' := st2.fresh fun b z => z.elim (fun e' => .inr (by rw [e']; exact hx0)) .inl
  have sD : Same D' (upd D' x (.ins (He.ga G.K C) dxe (fs.zip zs))) := same_new d1
  have st4 : StepT G.K (Wn G.pn) D1 H1 (upd D' x (.ins (He.ga G.K C) dxe (fs.zip zs))) H' := st3.settle hx0 h1 d1
  have pk2 : PenOk G.K (upd D' x (.ins (He.ga G.K C) dxe (fs.zip zs))) H' G.pn n' := fun p hp => by
    obtain ⟨o, q, ns, t, g, e1, e2, e3, e4⟩ := pk p hp
    exact ⟨by rw [upd_ne (penx p hp)]; exact o, q, ns, t, g, e1, sD.seq e2, e3, e4⟩
  exact cont _ _ _ _ H' (e1.trans (st3.dd.trans sD)) (r1.step st4 pk2) (.ins upd_same hl (rvA_mono sD rv)) hq
theorem d_makeS {CX : CXT} {k j : Nat} {C : Str} {fs : List Str} {Fn : NFn} (c : MkS X.prog X.w X.K X.mg X.base CX k x (He.ga G.K C) (spNew G.K C fs Fn)) (hr : Room j X.A) (hk : k + 1 ≤ j) (hg : Gl X x) (hx : Passes CX X G.E) (ha : DA G X (e :: es) pl)
    (hdb : (x == ("__debug__" : Str)) = false := by decide) (he : starEach (e :: es) X.env = (false, eval e X.env) :: starEach es X.env := by rfl) (hpl : (backTo pos (starEach es X.env)).any (·.1) = false := by rfl) :
    DE G X (.Call (.Name x p) (e :: es) [] pos) (pMake C fs (Fn G.pn) pl) := by
  obtain ⟨g, M, F, hm⟩ := c.ex
  exact DE.of (StX.pe_makeR M F (hr.mono hk) hg hm hx ha.run hdb he hpl) (sim_makeR simA_l)
end
end Rg

set_option Elab.async false
set_option linter.all false
set_option maxRecDepth 100000
set_option maxHeartbeats 4000000
namespace Rg
open PySem PySem.Spec PyProof.Rows L2
section
variable {G : Gx} {X : Cx} {e : Expr} {es : List Expr} {p : Pos} {pa : PEt} {pl : PAt}
end
end Rg

set_option Elab.async false
set_option linter.all false
set_option maxRecDepth 100000
set_option maxHeartbeats 4000000
namespace StX
open PySem PySem.Spec PyProof.Rows L2
section
variable {X : Cx} {CX : CXT} {k i : Nat} {f C : Addr} {sp : Sp} {E : XK} {x : Str} {e : Expr} {te tf : TE} {p sp_ pos : Pos}
end
end StX
namespace Rg
open PySem PySem.Spec PyProof.Rows L2
section
variable {G : Gx} {X : Cx} {e : Expr} {p pos sp_ : Pos} {pa : PEt} {x : Str}
end
end Rg

set_option Elab.async false
set_option linter.all false
set_option maxRecDepth 100000
set_option maxHeartbeats 4000000
namespace Rg
open PySem PySem.Spec PyProof.Rows L2
section
variable {G : Gx} {X : Cx} {b o : Expr} {pos : Pos} {pa pb : PEt}
def pDinK (neg : Bool) (pa pb : PEt) : PTt := fun ρ Q R => pb ρ (fun y ρ1 => pa ρ1 (fun d ρ2 => match d with
  | .node (.dct ks) _ => (match keyOf y with
    | some k => Q (hasKey ks k ^^ neg) ρ2
    | none => False)
  | _ => False) R) R
theorem dct_get {K : PySem.W.Frag} {D : Hp} {v w : V} {ks : List Key} {xs : List DV} {y : DV} {k : Key} (h : Rv K D v (.node (.dct ks) xs)) (hy : Rv K D w y) (ek : keyOf y = some k) {H : Hp} (sm : Same D H) : ∃ a o, v = .ref a ∧ DGet H a w o ∧ o.isSome = hasKey ks k := by
  cases h with
  | dct h l r =>
    rename_i a vs
    refine ⟨a, valV (ks.zip vs) k, rfl, ?_, ?_⟩
    · rw [rv_key hy ek]
      exact DGet.k (sm _ _ h)
    · rw [valV_some, List.map_fst_zip (Nat.le_of_eq l)]
theorem t_dnotinK (hu : X.A.units + 1 < cLine) (ha : DE G X o pa) (hb : DE G X b pb) (hm : behindInMarks .NotIn o = false := by rfl) : DT G X (.Compare b [.NotIn] [o] pos) (pDinK true pa pb) := by
  obtain ⟨t, h1, s1⟩ := ha.ex
  obtain ⟨u, h2, s2⟩ := hb.ex
  refine DT.of (pt_cmp (pc_dnotin hu h2 h1) hm) fun F D σ H ρ Q R k rel hp hx cont => ?_
  refine s2 F D σ H ρ _ R _ rel hp hx fun y ρ1 D1 w H1 e1 r1 q1 hp1 => ?_
  refine s1 F D1 σ H1 ρ1 _ R _ r1 hp1 hx fun d ρ2 D2 v H2 e2 r2 q2 hp2 => ?_
  split at hp2
  · split at hp2
    · next kk ek =>
      obtain ⟨a, o, rfl, g, eo⟩ := dct_get q2 (rv_mono e2 q1) ek r2.same
      refine ⟨a, o, rfl, g, _, rfl, ?_⟩
      rw [eo]
      rw [Bool.xor_true] at hp2
      exact cont _ ρ2 D2 H2 (e1.trans e2) r2 hp2
    · exact hp2.elim
  · exact hp2.elim
/-- d[k], d settled -/
def valD : List (Key × DV) → Key → Option DV
  | [], _ => none
  | p :: r, k => if p.1 = k then some p.2 else valD r k
def pDgetK (pa pb : PEt) : PEt := fun ρ Q R => pa ρ (fun d ρ1 => pb ρ1 (fun y ρ2 => match d with
  | .node (.dct ks) ds => (match keyOf y with
    | some k => (match valD (ks.zip ds) k with
      | some z => Q z ρ2
      | none => False)
    | none => False)
  | _ => False) R) R
theorem val_rv {K : PySem.W.Frag} {D : Hp} {k : Key} {z : DV} : ∀ {ks : List Key} {vs : List V} {ds : List DV}, ks.length = vs.length → RvA K D vs ds → valD (ks.zip ds) k = some z → ∃ v, valV (ks.zip vs) k = some v ∧ Rv K D v z
  | [], _, _, _, _, h => by cases h
  | j :: ks, v :: vs, d :: ds, l, .cons r1 r2, h => by
    rw [List.zip_cons_cons] at h
    rw [List.zip_cons_cons]
    unfold valD at h
    have ev : valV ((j, v) :: ks.zip vs) k = if j = k then some v else valV (ks.zip vs) k := by
      unfold valV
      rw [List.find?_cons]
      by_cases e : j = k
      · rw [if_pos e]
        simp [e]
      · rw [if_neg e]
        simp [e]
    rw [ev]
    by_cases e : j = k
    · rw [if_pos e] at h ⊢
      cases h
      exact ⟨v, rfl, r1⟩
    · rw [if_neg e] at h ⊢
      exact val_rv (Nat.succ.inj l) r2 h
theorem d_dgetK (hu : X.A.units + 1 < cLine) (ha : DE G X o pa) (hb : DE G X b pb) (hs : NoSl b := by exact fun _ _ => rfl) : DE G X (.Subscript o b pos) (pDgetK pa pb) := by
  obtain ⟨t, h1, s1⟩ := ha.ex
  obtain ⟨u, h2, s2⟩ := hb.ex
  refine DE.of (pe_dget hu h1 h2 hs) fun F D σ H ρ Q R k rel hp hx cont => ?_
  refine s1 F D σ H ρ _ R _ rel hp hx fun d ρ1 D1 v H1 e1 r1 q1 hp1 => ?_
  refine s2 F D1 σ H1 ρ1 _ R _ r1 hp1 hx fun y ρ2 D2 w H2 e2 r2 q2 hp2 => ?_
  split at hp2
  · split at hp2
    · next kk ek =>
      split at hp2
      · next z ez =>
        have q3 := rv_mono e2 q1
        cases q3 with
        | dct h l r =>
          obtain ⟨v, e3, r3⟩ := val_rv l r ez
          refine ⟨_, v, rfl, ?_, cont _ ρ2 D2 _ H2 (e1.trans e2) r2 r3 hp2⟩
          rw [rv_key q2 ek, ← e3]
          exact DGet.k (r2.same _ _ h)
      · exact hp2.elim
    · exact hp2.elim
  · exact hp2.elim
end
end Rg

set_option Elab.async false
set_option linter.all false
set_option maxRecDepth 100000
set_option maxHeartbeats 4000000
namespace Rg
open PySem PySem.Spec PyProof.Rows L2
/-- the tuples handed out so far -/
structure ZG (Pa Pb : Nat → Value → Prop) (lo : Addr) (h : Heap) (as : List Addr) : Prop where
  rise : as.Pairwise (· < ·)
  above : ∀ a ∈ as, lo < a
  pairs : ∀ (j : Nat) (a : Addr), as[j]? = some a → ∃ x y, Pa j x ∧ Pb j y ∧ IsTupOf2 h a x y
theorem ZG.there {Pa Pb : Nat → Value → Prop} {lo : Addr} {h : Heap} {as : List Addr} (g : ZG Pa Pb lo h as) {a : Addr} (ha : a ∈ as) : a < h.objs.size := by
  obtain ⟨j, hj⟩ := List.mem_iff_getElem?.mp ha
  obtain ⟨_, _, _, _, e⟩ := g.pairs j a hj
  exact Heap.lt_size e
section
variable {P : Program} {w : World} {A : Around} {E : Value → Shared → Prop} {s : Shared} {z ti to i1 i2 S : Addr} {fa fb : List Addr} {na nb : Nat} {Pa Pb : Nat → Value → Prop} {Sa Sb : Nat → Heap → Prop}
theorem ZSt.keep {h h' : Heap} (x : ZSt h z ti to i1 i2) (k : ∀ b o, b ≠ S → h.get? b = some o → h'.get? b = some o) (nz : z ≠ S) (ni : ti ≠ S) (no : to ≠ S) : ZSt h' z ti to i1 i2 := by
  obtain ⟨⟨f0, b, ho, hf⟩, hi, p, q, hown⟩ := x
  exact ⟨⟨f0, b, k z _ nz ho, hf⟩, k ti _ ni hi, p, q, k to _ no hown⟩
end
section
variable {X : Cx} {a b : Expr} {ta : TA} {p p2 q pos : Pos}
end
section
variable {G : Gx} {X : Cx} {a b : Expr} {pl : PAt} {p p2 q pos : Pos}
end
end Rg

set_option Elab.async false
set_option linter.all false
set_option maxRecDepth 100000
set_option maxHeartbeats 4000000
namespace Rg
open PySem PySem.Spec PyProof.Rows L2
section
variable {G : Gx} {X : Cx} {a b c e : Expr} {es : List Expr} {pos p : Pos} {pa pb pc : PEt} {pl : PAt} {x : Str}
end
end Rg

set_option Elab.async false
set_option linter.all false
set_option maxRecDepth 100000
set_option maxHeartbeats 4000000
namespace Rg
open PySem PySem.Spec PyProof.Rows L2
structure DRc (CX : CXT) (G : Gx) (X : Cx) (e : Expr) (p : PRt) : Prop where
  run : ∀ (E : L2.St → XK), (∀ σ, PassesAt CX X σ (E σ)) → PE X e (lR G E p)
theorem DRc.dr {G : Gx} {X : Cx} {e : Expr} {p : PRt} (h : DRc (L2.CX X.prog X.w) G X e p) : DR G X e p := ⟨h.run⟩
section
variable {CX : CXT} {G : Gx} {X : Cx} {a b c e : Expr} {es : List Expr} {kws : List Keyword} {pos p0 : Pos} {pl pk : PAt} {p : PRt} {x : Str} {n : Nat} {ks : List Str}
end
end Rg

set_option Elab.async false
set_option linter.all false
set_option maxRecDepth 100000
set_option maxHeartbeats 4000000
namespace Rg
open PySem PySem.Spec PyProof.Rows L2
section
variable {CX : CXT} {G : Gx} {X : Cx} {a b c e : Expr} {es : List Expr} {pos p pos2 : Pos} {pl : PAt} {x : Str}
end
section
variable {P : Program} {w : World} {K : PySem.W.Frag} {mg : Str → Option Value} {base : Heap} {CX : CXT} {x qual : Str} {params : Arguments} {body : List Stmt} {scope : Scope} {dvs : List V} {kws : List (Str × V)} {f : Addr} {fd : FuncData} {N ps : List Str} {k : Nat} {sp : Sp}
end
end Rg

set_option Elab.async false
set_option linter.all false
set_option maxRecDepth 100000
set_option maxHeartbeats 4000000
namespace Rg
open PySem PySem.Spec PyProof.Rows L2
section
variable {G : Gx} {X : Cx} {a b c e o : Expr} {es : List Expr} {kws : List Keyword} {pos p apos : Pos} {pa pb pc : PEt} {pl pk : PAt} {x : Str} {n : Nat} {ks : List Str}
structure OwnTy (K : PySem.W.Frag) (C : Str) : Prop where
  ins : InsTy K (He.ga K C)
  self : PySem.W.kitOne K (.ref (He.ga K C)) (.ref (He.ga K C)) = some true
  oth : (tyNames.all fun n => decide (PySem.W.kitOne K (.type n) (.ref (He.ga K C)) = some false)) = true
def oIsiC (K : PySem.W.Frag) (C : Str) : ON := fun ds Q => match ds with
  | [d, .raw (.ref A)] => A = He.ga K C ∧ ((isC C d = true ∧ Q (.bl true)) ∨ ((tyName d).isSome = true ∧ Q (.bl false)))
  | _ => False
theorem c_isiC {C : Str} (h : OwnTy G.K C) (hK : X.K = G.K := by rfl) : CallD G X (.builtin "isinstance") (oIsiC G.K C) := by
  refine ⟨_, call_isY, fun F D σ H ρ vs ds Q k rel rv ho cont => ?_⟩
  unfold oIsiC at ho
  split at ho
  · next d A =>
    obtain ⟨rfl, ho⟩ := ho
    obtain ⟨y, cv, rfl, ra, rc⟩ := rvA2 rv
    cases rv_raw rc
    rw [hK]
    rcases ho with ⟨hC, q⟩ | ⟨hT, q⟩
    · obtain ⟨fs, zs, rfl⟩ : ∃ fs zs, d = .node (.ins C fs) zs := by
        unfold isC at hC
        split at hC
        · next C' fs zs =>
          obtain rfl : C' = C := of_decide_eq_true hC
          exact ⟨fs, zs, rfl⟩
        · cases hC
      exact ⟨y, _, _, _, true, rfl, .own _, .base (h.ins.ty rel.same ra), h.self, cont _ _ D H (Same.refl D) rel (.bl _) q⟩
    · obtain ⟨t, e3⟩ := Option.isSome_iff_exists.mp hT
      exact ⟨y, _, _, _, false, rfl, .own _, .base (rv_ty ra rel.same e3), of_decide_eq_true (List.all_eq_true.mp h.oth _ (tyName_in e3)), cont _ _ D H (Same.refl D) rel (.bl _) q⟩
  · exact ho.elim
def pListF (pl : PAt) : PAt := fun ρ Q R => pl ρ (fun ds ρ1 => match ds with
  | [.node .lst xs] => Q xs ρ1
  | [.node .tup xs] => Q xs ρ1
  | _ => False) R
theorem f_list (hg : Gl X "list") (hm : X.mg "list" = none) (ha : DA G X (e :: es) pl) (hK : X.K = G.K := by rfl)
    (he : starEach (e :: es) X.env = (false, eval e X.env) :: starEach es X.env := by rfl) (hpl : (backTo pos (starEach es X.env)).any (·.1) = false := by rfl) : DF G X (.Call (.Name "list" p) (e :: es) [] pos) (pListF pl) := by
  refine DF.of (pe_callTy (call_list_ofK G.K hK) hg hm (by decide +kernel) ha.run (by decide) (by decide) he hpl) fun F D σ H ρ Q R k rel hp hx cont => ?_
  refine simA_l F D σ H ρ _ R _ rel hp hx fun ds ρ1 D1 vs H1 e1 r1 q1 hp1 => ?_
  split at hp1
  · obtain ⟨v, rfl, r⟩ := rvA1 q1
    obtain ⟨p, vs, rfl, h1, h2⟩ := rv_lst r
    exact ⟨p, vs, rfl, .inl (SqL.of (r1.same _ _ h1)), fun l hl => cont _ _ D1 _ _ l e1 (r1.push hl) (r1.fresh hl) h2 hp1⟩
  · obtain ⟨v, rfl, r⟩ := rvA1 q1
    obtain ⟨p, vs, rfl, h1, h2⟩ := rv_tup r
    exact ⟨p, vs, rfl, .inr (SqT.of (r1.same _ _ h1)), fun l hl => cont _ _ D1 _ _ l e1 (r1.push hl) (r1.fresh hl) h2 hp1⟩
  · exact hp1.elim
end
def dflN (dd : List DV) (Fn : NFn) : NFn := fun pn ds n Q R => Fn pn (ds ++ dd) n Q R
theorem mkS_dfl {P : Program} {w : World} {K : PySem.W.Frag} {mg : Str → Option Value} {base : Heap} {CX : CXT} {k : Nat} {x : Str} {f : Addr} {fd : FuncData} {ps : List Str} {C : Str} {fs : List Str} {Fn : NFn} {dd : List DV} {dvs : List V} {ds : List Value} (hdd : ∀ D, RvA K D dvs dd) (M : Mk K (He.ga K C) f)
    (F : FnOk P w K mg base CX k f fd ps (spNew K C fs Fn)) (hb : Binds K fd ps ds) (hd : Vals dvs ds) (hm : mg x = some (.ref (He.ga K C))) : MkS P w K mg base CX k x (He.ga K C) (spNew K C fs (dflN dd Fn)) :=
  ⟨f, M, (FnOk.raw F hb hd).imp fun vs H Q E h => by
    obtain ⟨D, pn, x, dx, us, es, n, Qd, R, rfl, h1, h2, h3, h4, h5, h6, h7, h8, h9⟩ := h
    exact ⟨D, pn, x, dx, us ++ dvs, es ++ dd, n, Qd, R, rfl, h1, h2, h3, h4, rvA_app2 h5 (hdd D), h6, h7, h8, h9⟩, hm⟩
end Rg

set_option Elab.async false
set_option linter.all false
set_option maxRecDepth 100000
set_option maxHeartbeats 4000000
namespace Rg
open PySem PySem.Spec PyProof.Rows L2
section
variable {P : Program} {w : World} {A : Around} {E : Value → Shared → Prop} {s : Shared}
end
section
variable {G : Gx} {X : Cx} {a b c e : Expr} {lo hi : Option Expr} {pos p2 : Pos} {pa pb pc : PEt} {pl ph : PPt}
end
section
variable {G : Gx} {X : Cx} {c : Expr} {sts sts2 : List Stmt} {pos : Pos} {pt : PTt} {p q : PSr}
end
end Rg

set_option Elab.async false
set_option linter.all false
set_option maxRecDepth 100000
set_option maxHeartbeats 4000000
namespace Rg
open PySem PySem.Spec PyProof.Rows L2
section
variable {X : Cx} {o : Expr} {to : TE} {f : Str} {pos : Pos}
end
abbrev JS := List (Str × DV)
def FldJ (K : PySem.W.Frag) (D : Hp) : List (Str × V) → JS → Prop := Paired fun p q => p.1 = q.1 ∧ Rv K D p.2 q.2
abbrev frmJ (K : PySem.W.Frag) (C : Str) (x dx : Addr) (ps : List (Str × V)) : List (Addr × HO) := [(x, .ins (He.ga K C) dx ps)]
def RelJ (G : Gx) (C : Str) (x : Addr) (fs : JS) (D : Hp) (σ : L2.St) (H : Hp) (ρ : Ps) : Prop := ∃ (dx : Addr) (ps : List (Str × V)), Rel (Gf G x (frmJ G.K C x dx ps)) [] D σ H ρ ∧ FldJ G.K D ps fs
structure PJEnds where
  nx : Ps → JS → Prop
  rs : PR
abbrev PJt := PJEnds → Ps → JS → Prop
def JLk (G : Gx) (C : Str) (x : Addr) (D0 : Hp) (p : Ps → JS → Prop) (t : L2.St → Hp → Prop) : Prop := ∀ D σ H ρ fs, Same D0 D → RelJ G C x fs D σ H ρ → p ρ fs → t σ H
theorem JLk.up {G : Gx} {C : Str} {x : Addr} {D0 D1 : Hp} {p : Ps → JS → Prop} {t : L2.St → Hp → Prop} (h : JLk G C x D0 p t) (s : Same D0 D1) : JLk G C x D1 p t := fun D σ H ρ W e => h D σ H ρ W (s.trans e)
section
variable {G : Gx} {C : Str} {x : Addr} {X : Cx} {v e : Expr} {st : Stmt} {sts : List Stmt} {p q : PJt} {pos p1 p2 p3 : Pos} {s f y : Str} {i : Nat}
end
section
variable {G : Gx} {C : Str} {x dx : Addr} {X : Cx} {st : Stmt} {sts : List Stmt} {p : PSt} {q : PJt} {qb : PJEnds → Ps → Prop}
end
section
variable {P : Program} {w : World} {K : PySem.W.Frag} {mg : Str → Option Value} {base : Heap}
variable {CX : CXT} {x qual : Str} {params : Arguments} {body : List Stmt} {scope : Scope} {dvs : List V} {kws : List (Str × V)} {f : Addr} {fd : FuncData} {N ps : List Str} {k : Nat}
end
end Rg

set_option Elab.async false
set_option linter.all false
set_option maxRecDepth 100000
set_option maxHeartbeats 4000000
namespace Rg
open PySem PySem.Spec PyProof.Rows L2
structure CalD (P : Program) (w : World) (K : PySem.W.Frag) (mg : Str → Option Value) (base : Heap) (CX : CXT) (k : Nat) (x : Str) (dd : List DV) (sp : Sp) : Prop where
  ex : ∃ (f : Addr) (fd : FuncData) (ps : List Str) (ds : List Value) (dvs : List V), FnOk P w K mg base CX k f fd ps sp ∧ mg x = some (.ref f) ∧ PySem.W.keepIn K (.ref f) = true ∧ Binds K fd ps ds ∧ Vals dvs ds ∧ ∀ D, RvA K D dvs dd
structure MetD (P : Program) (w : World) (K : PySem.W.Frag) (mg : Str → Option Value) (base : Heap) (CX : CXT) (k : Nat) (C : Addr) (m : Str) (dd : List DV) (sp : Sp) : Prop where
  ex : ∃ (f : Addr) (fd : FuncData) (ps : List Str) (ds : List Value) (dvs : List V), Meth K C m f ∧ FnOk P w K mg base CX k f fd ps sp ∧ Binds K fd ps ds ∧ Vals dvs ds ∧ ∀ D, RvA K D dvs dd
section
variable {G : Gx} {X : Cx} {a b c e : Expr} {es : List Expr} {pos p : Pos} {pa pb pc : PEt} {pl : PAt} {x : Str} {dd : List DV}
end
theorem CalD.calm {P : Program} {w : World} {K : PySem.W.Frag} {mg : Str → Option Value} {base : Heap} {k : Nat} {x : Str} {dd : List DV} {Fn : PFn} (c : CalD P w K mg base (L2.CX P w) k x dd (spP K Fn)) : CalD P w K mg base CX0 k x dd (spP K (calmF Fn)) := by
  obtain ⟨f, fd, ps, ds, dvs, F, r⟩ := c.ex
  exact ⟨f, fd, ps, ds, dvs, FnOk.calm F, r⟩
theorem MetD.calm {P : Program} {w : World} {K : PySem.W.Frag} {mg : Str → Option Value} {base : Heap} {k : Nat} {C : Addr} {m : Str} {dd : List DV} {Fn : PFn} (c : MetD P w K mg base (L2.CX P w) k C m dd (spP K Fn)) : MetD P w K mg base CX0 k C m dd (spP K (calmF Fn)) := by
  obtain ⟨f, fd, ps, ds, dvs, h, F, r⟩ := c.ex
  exact ⟨f, fd, ps, ds, dvs, h, FnOk.calm F, r⟩
end Rg

set_option Elab.async false
set_option linter.all false
set_option maxRecDepth 100000
set_option maxHeartbeats 4000000
namespace Rg
open PySem PySem.Spec PyProof.Rows L2
section
variable {G : Gx} {X : Cx} {a b c e tg : Expr} {pos : Pos} {pa pb pc : PEt}
end
section
variable {G : Gx} {X : Cx}
end
end Rg

set_option Elab.async false
set_option linter.all false
set_option maxRecDepth 100000
set_option maxHeartbeats 4000000
namespace Rg
open PySem PySem.Spec PyProof.Rows L2
section
variable {P : Program} {w : World} {A : Around}
end
section
variable {G : Gx} {X : Cx} {a e : Expr} {pos : Pos} {pa : PEt}
end
section
variable {G : Gx} {X : Cx} {a tg : Expr} {pos : Pos}
end
section
variable {G : Gx} {X : Cx} {a tg : Expr} {pos : Pos}
end
structure KFn (P : Program) (w : World) (K : PySem.W.Frag) (mg : Str → Option Value) (base : Heap) (CX : CXT) (k : Nat) (x : Str) (n : Nat) (ks : List Str) (gV : List V → List V → List V) (sp : Sp) : Prop where
  ex : ∃ (f : Addr) (fd : FuncData) (ps : List Str) (g : List Value → List Value → List Value), mg x = some (.ref f) ∧ PySem.W.keepIn K (.ref f) = true ∧ FnOk P w K mg base CX k f fd ps sp ∧ KBn K fd ps n ks g gV
theorem KFn.calm {P : Program} {w : World} {K : PySem.W.Frag} {mg : Str → Option Value} {base : Heap} {k n : Nat} {x : Str} {ks : List Str} {gV : List V → List V → List V} {Fn : PFn} (c : KFn P w K mg base (L2.CX P w) k x n ks gV (spP K Fn)) : KFn P w K mg base CX0 k x n ks gV (spP K (calmF Fn)) := by
  obtain ⟨f, fd, ps, g, h1, h2, F, b⟩ := c.ex
  exact ⟨f, fd, ps, g, h1, h2, FnOk.calm F, b⟩
section
variable {G : Gx} {X : Cx} {e : Expr} {es : List Expr} {kws : List Keyword} {pos p : Pos} {pl pk : PAt} {x : Str} {n : Nat} {ks : List Str} {gV : List V → List V → List V} {gD : List DV → List DV → List DV}
end
end Rg

set_option Elab.async false
set_option linter.all false
set_option maxRecDepth 100000
set_option maxHeartbeats 4000000
namespace Rg
open PySem PySem.Spec PyProof.Rows L2
section
variable {G : Gx} {X : Cx} {pos p : Pos} {x : Str}
end
end Rg

set_option Elab.async false
set_option linter.all false
set_option maxRecDepth 100000
set_option maxHeartbeats 4000000
namespace Rg
open PySem PySem.Spec PyProof.Rows L2
section
variable {G : Gx} {X : Cx} {a b c e o : Expr} {es : List Expr} {pos p apos : Pos} {pa pb pc : PEt} {pl pk : PAt} {x : Str}
theorem pe_mkAS {CX : CXT} {k j : Nat} {C : Addr} {sp : Sp} {E : L2.St → XK} {t : TA} (c : MkS X.prog X.w X.K X.mg X.base CX k x C sp) (hr : Room j X.A) (hk : k + 1 ≤ j) (hg : Gl X x) (hx : ∀ σ, PassesAt CX X σ (E σ)) (ha : PA X (e :: es) t)
    (hdb : (x == ("__debug__" : Str)) = false := by decide) (he : starEach (e :: es) X.env = (false, eval e X.env) :: starEach es X.env := by rfl) (hpl : (backTo pos (starEach es X.env)).any (·.1) = false := by rfl) :
    PE X (.Call (.Name x p) (e :: es) [] pos) (tMakeA C sp E t) := by
  obtain ⟨f, M, F, hm⟩ := c.ex
  refine ⟨fun pins s σ H Q I h => ?_⟩
  refine wpAny_Call_Name_kw (ld_glob I hg hm ?_ hdb)
  refine PySem.W.callWith_K (h₀ := X.base) I.ok.mod.kin M.kp (thn (ha.run pos pins s σ H _ I h) fun us s1 ⟨vs, H1, I1, r, q⟩ => ⟨I1.kIn, ?_⟩) he hpl
  have hq := q (s1.heap.objs.size + 1) s1.heap.objs.size (I1.hok.fresh (Nat.le_succ _)) (I1.hok.fresh (Nat.le_refl _)) (Nat.ne_of_lt (Nat.lt_succ_self _))
  have I2 := Inv.made (C := C) I1
  have r2 : Vals (V.ref (s1.heap.objs.size + 1) :: vs) (Value.ref (s1.heap.objs.size + 1) :: us) := .cons rfl r
  refine wpAny_call (make_map (f := f) I1.kIn M.makes M.init (beq_iff_eq.mp M.fn) (codeAny_mono (F _ X.stack _ _ (Value.ref (s1.heap.objs.size + 1) :: us) _ _ (E σ) ((hr.mono hk).make C us []) (I2.env0.make C us []) r2 hq) fun r s' hq' => ?_))
  cases r with
  | error e => exact hx σ pins _ _ e s' I2 hq'
  | ok fl =>
    cases fl with
    | ret u =>
      obtain ⟨v, H', I3, rv, ev, q3⟩ := I2.after hq'
      subst ev
      exact ⟨rv, ⟨V.ref (s1.heap.objs.size + 1), H', I3, rfl, q3⟩⟩
    | next => exact False.elim hq'
    | brk => exact False.elim hq'
    | cont => exact False.elim hq'
theorem r_makeS {k j : Nat} {C : Str} {fs : List Str} {Fn : NFn} (c : MkS X.prog X.w X.K X.mg X.base (L2.CX X.prog X.w) k x (He.ga G.K C) (spNew G.K C fs Fn)) (hr : Room j X.A) (hk : k + 1 ≤ j) (hg : Gl X x) (ha : DA G.nox X (e :: es) pl)
    (hdb : (x == ("__debug__" : Str)) = false := by decide) (he : starEach (e :: es) X.env = (false, eval e X.env) :: starEach es X.env := by rfl) (hpl : (backTo pos (starEach es X.env)).any (·.1) = false := by rfl) :
    DR G X (.Call (.Name x p) (e :: es) [] pos) (qMake C fs (Fn G.pn) pl) := by
  refine ⟨fun E hE => ⟨fun pins s σ H k0 I ⟨F, D, ρ, Q, R, rel, hp, hx, cont⟩ => ?_⟩⟩
  refine (pe_mkAS c hr hk hg hE ha.run hdb he hpl).run pins s σ H k0 I ?_
  refine ⟨F, D, ρ, _, _, rel.nox, hp, exN, fun ds ρ1 D1 vs H1 e1 r1' q1 hp1 => ?_⟩
  have r1 := r1'.yox
  intro x dx hx0 hd ne
  have x1 : (upd H1 dx (.own x)) x = none := by rw [upd_ne (Ne.symm ne)]; exact hx0
  have t1 : Step NoW D1 H1 D1 (upd (upd H1 dx (.own x)) x (.ins (He.ga G.K C) dx [])) := (Step.tmp r1.same hd).trans (Step.tmp (Step.tmp (W := NoW) r1.same hd).dh x1)
  have rN : Rel G F D1 σ (upd (upd H1 dx (.own x)) x (.ins (He.ga G.K C) dx [])) ρ1 := r1.stepN t1.t
  have penx : ∀ p, G.pn = some p → p ≠ x := fun p hp e => by
    have := r1.ph p hp
    exact this (r1.st.free (e ▸ hx0))
  refine ⟨D1, G.pn, x, dx, vs, ds, ρ1.ink, _, _, rfl, rN.same, fun p hp => ⟨fun h => r1.ph p hp (rN.st.free h), penx p hp⟩, r1.same.free hx0, upd_same, q1, rN.pen, hp1, ?_, ⟨fun D' H' y n d ps s pen hdx hk rv hr => hx y _ D' H' d ps (e1.trans s.dd) (r1.step (stepX_back hx0 hd ne r1.same s) pen) hdx hk rv hr⟩⟩
  intro D' H' dxe zs es' n' st d1 h1 hl rv pk hq
  refine ⟨rfl, ?_⟩
  have st2 : StepT G.K (Wx G.pn x) D1 H1 D' H' := (t1.any (W := Wx G.pn x)).t.trans st
  have st3 : StepT G.K (Wn G.pn) D1 H1 D' H' := st2.fresh fun b z => z.elim (fun e' => .inr (by rw [e']; exact hx0)) .inl
  have sD : Same D' (upd D' x (.ins (He.ga G.K C) dxe (fs.zip zs))) := same_new d1
  have st4 : StepT G.K (Wn G.pn) D1 H1 (upd D' x (.ins (He.ga G.K C) dxe (fs.zip zs))) H' := st3.settle hx0 h1 d1
  have pk2 : PenOk G.K (upd D' x (.ins (He.ga G.K C) dxe (fs.zip zs))) H' G.pn n' := fun p hp => by
    obtain ⟨o, q, ns, t, g, e1, e2, e3, e4⟩ := pk p hp
    exact ⟨by rw [upd_ne (penx p hp)]; exact o, q, ns, t, g, e1, sD.seq e2, e3, e4⟩
  exact cont _ _ _ _ H' (e1.trans (st3.dd.trans sD)) (r1.step st4 pk2) (.ins upd_same hl (rvA_mono sD rv)) hq
end
section
variable {X : Cx} {e : Expr} {te : TE} {p q pos mpos apos : Pos}
end
section
variable {G : Gx} {X : Cx} {e : Expr} {pa : PEt} {p mpos apos pos : Pos}
end
end Rg

set_option Elab.async false
set_option linter.all false
set_option maxRecDepth 100000
set_option maxHeartbeats 4000000
namespace Rg
open PySem PySem.Spec PyProof.Rows L2
def Dct0 (h : Heap) (a : Addr) : Prop := ∃ o ep, h.get? a = some o ∧ o.ExactDict ∧ o.data = .dict #[] ep
theorem Dct0.of {P : Program} {w : World} {h : Heap} {a : Addr} {κ : Type} [DecidableEq κ] {knd : KeyKind P w κ} (x : Dct0 h a) : h.DictOf knd a [] := by
  obtain ⟨o, ep, h1, h2, h3⟩ := x
  exact ⟨o, #[], ep, h1, h2, h3, fun e he => by simp at he, .nil, List.nodup_nil⟩
section
variable {G : Gx} {X : Cx}
end
theorem CmX.calm {P : Program} {w : World} {K : PySem.W.Frag} {mg : Str → Option Value} {base : Heap} {k : Nat} {C : Addr} {m : Str} {Fn : PFn} (c : CmX P w K mg base (L2.CX P w) k C m (spP K Fn)) : CmX P w K mg base CX0 k C m (spP K (calmF Fn)) := by
  obtain ⟨q, g, r, cm, F⟩ := c.ex
  refine ⟨q, g, r, cm, fun A outer s H us vs Q E hr e0 rv hs => codeAny_mono (F A outer s H us vs Q _ hr e0 rv (calm_sp hs)) fun r s' hq => ?_⟩
  cases r with
  | error e => exact (calm_cx hq).elim
  | ok fl => cases fl <;> exact hq
end Rg

set_option Elab.async false
set_option linter.all false
set_option maxRecDepth 100000
set_option maxHeartbeats 4000000
namespace Rg
open PySem PySem.Spec PyProof.Rows L2
section
variable {G : Gx} {X : Cx} {b o : Expr} {pos : Pos} {pa pb : PEt}
end
end Rg

set_option Elab.async false
set_option linter.all false
set_option maxRecDepth 100000
set_option maxHeartbeats 4000000
namespace Rg
open PySem PySem.Spec PyProof.Rows L2
section
variable {G : Gx} {X : Cx} {a : Expr} {pos : Pos} {pa : PEt}
end
end Rg

set_option Elab.async false
set_option linter.all false
set_option maxRecDepth 100000
set_option maxHeartbeats 4000000
namespace Rg
open PySem PySem.Spec PyProof.Rows L2
section
variable {G : Gx} {X : Cx}
end
end Rg

set_option Elab.async false
set_option linter.all false
set_option maxRecDepth 100000
set_option maxHeartbeats 4000000
namespace Rg
open PySem PySem.Spec PyProof.Rows L2
def causeAt (h : Heap) (a a2 : Addr) : Heap := (h.update a (Obj.mapFields (·.setIfInBounds 3 (.ref a2)))).update a (Obj.mapFields (·.setIfInBounds 4 (.bool true)))
theorem setO {vs : Array Value} {i j : Nat} {x y : Value} (hij : i ≠ j) (h : vs[j]? = some y) : (vs.setIfInBounds i x)[j]? = some y := by
  rw [Array.getElem?_setIfInBounds_ne hij]
  exact h
theorem causeAt_at {h : Heap} {a a2 : Addr} {oe : Obj} {vs : Array Value} (ha : h.get? a = some oe) (hd : oe.data = .fields vs) :
    (causeAt h a a2).get? a = some ((oe.mapFields (·.setIfInBounds 3 (.ref a2))).mapFields (·.setIfInBounds 4 (.bool true))) ∧ ((oe.mapFields (·.setIfInBounds 3 (.ref a2))).mapFields (·.setIfInBounds 4 (.bool true))).data = .fields ((vs.setIfInBounds 3 (.ref a2)).setIfInBounds 4 (.bool true)) := by
  have d3 := Obj.data_mapFields hd (·.setIfInBounds 3 (.ref a2))
  have h3 := Heap.get?_update_self (Obj.mapFields (·.setIfInBounds 3 (.ref a2))) ha (Obj.isFreed_of_fields d3)
  have d4 := Obj.data_mapFields d3 (·.setIfInBounds 4 (.bool true))
  exact ⟨Heap.get?_update_self (Obj.mapFields (·.setIfInBounds 4 (.bool true))) h3 (Obj.isFreed_of_fields d4), d4⟩
theorem causeAt_ne {h : Heap} {a a2 b : Addr} (hne : a ≠ b) : (causeAt h a a2).get? b = h.get? b := by
  unfold causeAt
  rw [Heap.get?_update_other _ _ hne, Heap.get?_update_other _ _ hne]
theorem raise_made_from {prog : Program} {w : World} {A : Around} {E : Value → Shared → Prop} {env : Env} {s : Shared} {x c : Sem Value} {Q : Flow → Shared → Prop} (hh : A.handled = none)
    (h : wpAny (model prog w) A x (fun v s₁ => ∃ a, v = .ref a ∧ wpAny (model prog w) A c (fun v2 s₂ => ∃ a2 oe vs cls oe2 vs2 cls2, v2 = .ref a2 ∧ s₂.heap.get? a = some oe ∧ oe.cls = cls ∧ oe.data = .fields vs ∧ vs[1]? = some .none ∧ 4 < vs.size ∧
      s₂.heap.get? a2 = some oe2 ∧ oe2.cls = cls2 ∧ oe2.data = .fields vs2 ∧ PySem.W.Looks (model prog w) s₂.heap (isSubtype cls (.type "BaseException")) true ∧ PySem.W.Looks (model prog w) s₂.heap (isSubtype cls2 (.type "BaseException")) true ∧
      PySem.W.Looks (model prog w) (causeAt s₂.heap a a2) (typeOf cls) (.type "type") ∧ E (.ref a) { s₂ with heap := causeAt s₂.heap a a2 }) E s₁) E s) :
    wpAny (model prog w) A (raiseStmt env (some x) (some c)) Q E s := by
  unfold raiseStmt
  dsimp only
  refine wpAny_bind (wpAny_mono h (fun v s₁ h₁ => ?_) fun _ _ x => x)
  obtain ⟨a, rfl, h₁⟩ := h₁
  refine wpAny_bind (wpAny_holding (wpAny_mono h₁ (fun v2 s₂ h₂ => wpAny_bind (wpAny_pure ?_)) fun _ _ x => x))
  obtain ⟨a2, oe, vs, cls, oe2, vs2, cls2, rfl, ha, hcls, hd, h1, hi, ha2, hcls2, hd2, L1, L2, L3, hE⟩ := h₂
  have isT : ∀ {b : Addr} {ob : Obj} {ws : Array Value} {s' : Shared} {Q' : Bool → Shared → Prop}, s'.heap.get? b = some ob → ob.data = .fields ws → Q' false s' → wpAny (model prog w) A (isType (.ref b)) Q' E s' := by
    intro b ob ws s' Q' e d hq
    simp only [isType, loadHead]
    refine wpAny_bind (wpAny_loadPart e ?_)
    rw [d]
    exact wpAny_pure hq
  have LT : PySem.W.Looks (model prog w) s₂.heap (typeOf (.ref a)) cls := fun A Q E s k q => wpAny_typeOf_ref (k _ _ ha) (by rw [hcls]; exact q)
  have LT2 : PySem.W.Looks (model prog w) s₂.heap (typeOf (.ref a2)) cls2 := fun A Q E s k q => wpAny_typeOf_ref (k _ _ ha2) (by rw [hcls2]; exact q)
  have LI : PySem.W.Looks (model prog w) s₂.heap (isInstance (.ref a) (.type "BaseException")) true := LT.andThen L1
  have LI2 : PySem.W.Looks (model prog w) s₂.heap (isInstance (.ref a2) (.type "BaseException")) true := LT2.andThen L2
  have d3 := Obj.data_mapFields hd (·.setIfInBounds 3 (.ref a2))
  have ha3 := Heap.get?_update_self (Obj.mapFields (·.setIfInBounds 3 (.ref a2))) ha (Obj.isFreed_of_fields d3)
  obtain ⟨ha4, d4⟩ := causeAt_at (a2 := a2) ha hd
  have s3 : 3 < vs.size := by omega
  have s4 : 4 < (vs.setIfInBounds 3 (.ref a2)).size := by simpa using hi
  have h14 : ((vs.setIfInBounds 3 (.ref a2)).setIfInBounds 4 (Value.bool true))[1]? = some Value.none := setO (by decide) (setO (by decide) h1)
  have hcls4 : ((oe.mapFields (·.setIfInBounds 3 (.ref a2))).mapFields (·.setIfInBounds 4 (.bool true))).cls = cls := by rw [Obj.cls_mapFields, Obj.cls_mapFields]; exact hcls
  have LT4 : PySem.W.Looks (model prog w) (causeAt s₂.heap a a2) (typeOf (.ref a)) cls := fun A Q E s k q => wpAny_typeOf_ref (k _ _ ha4) (by rw [hcls4]; exact q)
  have rest : wpAny (model prog w) A (do
      let b ← isType (.ref a)
      if b = true then do
        let e ← holding [.ref a] (raisedFor (.ref a) (.ref a))
        setFlight e none
        raiseNew e
      else do
        let e ← raisedInstance (.ref a)
        setFlight e none
        raiseNew e : Sem Flow) Q E { s₂ with heap := causeAt s₂.heap a a2 } := by
    refine wpAny_bind (isT (s' := { s₂ with heap := causeAt s₂.heap a a2 }) ha4 d4 ?_)
    simp only [Bool.false_eq_true, if_false]
    unfold raisedInstance
    refine wpAny_bind (wpAny_bind (LT4.here (wpAny_bind (L3.here ?_))))
    rw [if_pos (beq_self_eq_true _)]
    refine wpAny_pure ?_
    unfold setFlight raiseNew
    refine wpAny_bind (wpAny_bind (wpAny_field ha4 d4 h14 ?_))
    rw [if_neg (by decide)]
    refine wpAny_pure (wpAny_bind (wpAny_handled ?_))
    rw [hh]
    first
      | exact wpAny_throw hE
      | exact wpAny_bind (wpAny_pure (wpAny_throw hE))
  dsimp only
  refine wpAny_bind (wpAny_holding ?_)
  unfold excFromValue isExcClass
  refine wpAny_bind (wpAny_bind (isT ha hd ?_))
  simp only [Bool.false_eq_true, if_false]
  refine wpAny_pure ?_
  simp only [Bool.false_eq_true, if_false]
  refine wpAny_bind (LI.here ?_)
  simp only [if_true]
  refine wpAny_pure ?_
  have nn : (Value.ref a2 == Value.none) = false := by rfl
  simp only [nn, Bool.false_eq_true, if_false]
  refine wpAny_bind (wpAny_holding ?_)
  refine wpAny_bind (wpAny_bind (isT ha2 hd2 ?_))
  simp only [Bool.false_eq_true, if_false]
  refine wpAny_pure ?_
  simp only [Bool.false_eq_true, if_false]
  refine wpAny_bind (LI2.here ?_)
  simp only [if_true]
  refine wpAny_pure ?_
  exact wpAny_bind (wpAny_setField ha hd s3 (wpAny_bind (wpAny_setField ha3 d3 s4 rest)))
/-- an exception object, not raised yet -/
def ExF (cls : Value) (d : Option Addr) (a : Addr) : HO := .ext fun h => ∃ (oe : Obj) (vs : Array Value), h.get? a = some oe ∧ Zc cls d oe ∧ oe.data = .fields vs ∧ vs[1]? = some .none ∧ 4 < vs.size
theorem exF_ok {P : Program} {w : World} {H : Hp} {h : Heap} {a : Addr} {cls : Value} {d : Option Addr} {oe : Obj} {vs : Array Value} (e : h.get? a = some oe) (z : Zc cls d oe) (hd : oe.data = .fields vs) (h1 : vs[1]? = some .none) (h4 : 4 < vs.size) : ObjOk P w H h a (ExF cls d a) :=
  ⟨⟨oe, vs, e, z, hd, h1, h4⟩, ⟨oe, e⟩, fun _ _ ⟨o, v, q, r⟩ k => ⟨o, v, k o q, r⟩⟩
def Six6 (u : Value) (s' : Shared) : Prop := ∀ (a : Addr) (oe : Obj) (vs : Array Value), u = .ref a → s'.heap.get? a = some oe → oe.data = .fields vs → 4 < vs.size
def PMk6 (X : Cx) (e : Expr) (t : L2.St → Hp → XK → Prop) : Prop :=
  ∀ (pins : List (Addr × Obj)) (s : Shared) (σ : L2.St) (H : Hp) (Q : XK), Inv X pins σ H s → t σ H Q → wpAny (model X.prog X.w) X.A (eval e X.env) (fun u s' => MkP X pins σ Q u s' ∧ Six6 u s') X.xe s
section
variable {X : Cx} {e e2 : Expr} {es : List Expr} {ta : TA} {p pos : Pos}
theorem pmk6_oex {CX : CXT} {x : Str} {C fI : Addr} {k : Nat} {fd : FuncData} {ps : List Str} {sp : Sp} (T : OexC X.K C) (iC : PySem.W.findIn X.K (.ref C) "__init__" = some (some (.ref fI))) (tI : PySem.W.typeIn X.K (.ref fI) = some (.type "function"))
    (F1 : FnOk X.prog X.w X.K X.mg X.base CX k fI fd ps sp) (hr : Room (k + 1) X.A) (hb : Binds X.K fd ps []) (hx : Passes CX X (fun _ _ _ => False)) (hg : Gl X x) (hm : X.mg x = some (.ref C)) (ha : PA X (e :: es) ta)
    (hdb : (x == ("__debug__" : Str)) = false := by decide) (he : starEach (e :: es) X.env = (false, eval e X.env) :: starEach es X.env := by rfl) (hpl : (backTo pos (starEach es X.env)).any (·.1) = false := by rfl) :
    PMk6 X (.Call (.Name x p) (e :: es) [] pos) (tMkO C sp [] ta) := by
  intro pins s σ H Q I h
  obtain ⟨nm, q, N, bs, bm, sn, sub, ab, col, dd, k0, k1, k2, k3, k5, hC, hbm⟩ := T.cls
  refine wpAny_Call_Name_kw (ld_glob I hg hm ?_ hdb)
  refine PySem.W.callWith_K (h₀ := X.base) I.ok.mod.kin T.kC (thn (ha.run pos pins s σ H _ I h) fun us s1 ⟨vs, H1, I1, r1, hz, q1⟩ => ⟨I1.kIn, ?_⟩) he hpl
  obtain ⟨hp, g, dr, tk, os⟩ := s1
  have young : hp.objs.size ≤ hp.objs.size + 1 := Nat.le_succ _
  have hq := q1 (hp.objs.size + 1) (I1.hok.fresh young)
  have keep : ∀ b o, hp.get? b = some o → ((hp.push (PySem.W.kdv_tup us)).push (PySem.HandSPX.excO C hp.objs.size)).get? b = some o := fun b o e => Heap.get?_push_of_some _ (Heap.get?_push_of_some _ e)
  have new : ((hp.push (PySem.W.kdv_tup us)).push (PySem.HandSPX.excO C hp.objs.size)).get? (hp.objs.size + 1) = some (PySem.HandSPX.excO C hp.objs.size) := by heap_get
  have I2 : Inv X pins σ (upd H1 (hp.objs.size + 1) (exo (hp.objs.size + 1) C none)) ⟨(hp.push (PySem.W.kdv_tup us)).push (PySem.HandSPX.excO C hp.objs.size), g, dr, tk, os⟩ :=
    I1.laid (t' := tk) keep young (exo_ok new)
  rw [List.append_nil] at hq
  have r2 : Vals (V.ref (hp.objs.size + 1) :: vs) (Value.ref (hp.objs.size + 1) :: us) := .cons rfl r1
  have hl : (Value.ref (hp.objs.size + 1) :: us).length = ps.length := by
    rw [← r2.length]
    exact F1.len _ _ _ _ hq
  have hus : us.length ≤ sizeLine := by
    rw [← Paired.length r1, sizeLine_eq]
    omega
  have bt := hb ⟨(hp.push (PySem.W.kdv_tup us)).push (PySem.HandSPX.excO C hp.objs.size), g, dr, tk, os⟩ (Value.ref (hp.objs.size + 1) :: us) I2.kIn (by rw [List.append_nil]; exact hl)
  rw [List.append_nil] at bt
  show wpAny _ _ (call (.ref C) us) _ _ _
  refine wpAny_call (PySem.HandSPX.call_own F.excBase_ValueError (fun Y => PySem.HandSPX.refsVE_contains Y bm hbm) (I1.kIn _ _ hC) (PySem.W.looks_findIn I1.kIn iC) (fun self => PySem.W.bind_fn I1.kIn self tI) hus
    (codeAny_mono (F1.run _ X.stack _ _ ⟨Value.ref (hp.objs.size + 1) :: us, []⟩ _ _ _ (fun _ _ _ => False) (hr.make C us []) (I2.env0.make C us []) bt r2 hq) fun r s' hq' => ?_))
  cases r with
  | error er => exact hx pins σ _ _ er s' I2 hq'
  | ok fl =>
    cases fl with
    | ret u =>
      obtain ⟨v, H2, os2, bare2, un2, hok2, rv, ev, d, fs, ea, ed, hd1, q2⟩ := hq'
      subst ev
      obtain ⟨h2, g2, d2, t2, os'⟩ := s'
      obtain ⟨t0, G, J, kG, ge, hoe, na⟩ := mk_end0 (g2 := g2) (d2 := d2) (t2 := t2) I1 young keep un2 hok2 os2 bare2 ea ed hd1
      refine ⟨rv, ⟨_, _, _, ⟨G, g2, d2, t2, os'⟩, _, .ref C, some d, rfl, J, kG, ge, hoe, ⟨rfl, rfl⟩, rfl, rfl, na, rfl, bare2, raises_own T.exC T.tyC, q2⟩, fun b oe vs2 eb eo ed2 => ?_⟩
      cases eb
      have eo : h2.get? (hp.objs.size + 1) = some oe := eo
      rw [hoe] at eo
      cases eo
      cases ed2
      show (4 : Nat) < 6
      decide
    | next => exact False.elim hq'
    | brk => exact False.elim hq'
    | cont => exact False.elim hq'
theorem ps_raiseFrom {W : WX} {t t2 : L2.St → Hp → XK → Prop} (hc : X.calm = true) (hex : X.ex = []) (tk : Takes X W) (he : PMk6 X e t) (hu : PMk X e2 t2) :
    PS X (.Raise (some e) (some e2) pos) (fun _ σ H => t σ H fun cls d H' => ∀ a, H' a = none → Fr0 X.H_0 a ∧ t2 σ (upd H' a (ExF cls d a)) fun _ _ H2 => H2 a = some (ExF cls d a) ∧ W cls d σ (delH H2 a)) := by
  refine ⟨fun pins s σ H D I h => ?_⟩
  show wpAny _ _ (do standAt pos; raiseStmt X.env (some (do let v ← eval e X.env; standAt pos; pure v)) (some (do let v ← eval e2 X.env; standAt pos; pure v))) _ _ _
  refine wpAny_bind (wpAny_standAt (raise_made_from (I.ok.hd hc) (wpAny_bind (wpAny_mono (he pins s σ H _ I h) (fun u s1 hu1 => wpAny_bind (wpAny_standAt (wpAny_pure ?_))) fun _ _ x => x))))
  obtain ⟨⟨a, oe, vs, sI, H', cls, d, rfl, J, k, hne, ha, hz, hd, h1, na, os, ag, r, q⟩, h5⟩ := hu1
  obtain ⟨f0, q⟩ := q a na
  have I1 : Inv X pins σ (upd H' a (ExF cls d a)) s1 := J.call' (ch := []) os (Un.laidN k hne na) (J.hok.laidN k na (exF_ok ha hz hd h1 (h5 a oe vs rfl ha hd))) ag fun b z => nomatch z
  refine ⟨a, rfl, wpAny_bind (wpAny_mono (hu pins s1 σ _ _ I1 q) (fun u s2 hu2 => wpAny_bind (wpAny_standAt (wpAny_pure ?_))) fun _ _ x => x)⟩
  obtain ⟨a2, oe2, vs2, sI2, H2, cls2, d2, rfl, J2, k2, hne2, ha2, hz2, hd2, _, na2, os2, ag2, r2, tr, hw⟩ := hu2
  obtain ⟨⟨o3, v3, g3, z3, e3, n3, l3⟩, _, _⟩ := J2.hok a _ tr
  obtain ⟨G, gs, ga, J3⟩ := J2.untrack tr f0 hex
  have g3' : s2.heap.get? a = some o3 := k2 _ _ g3
  have kf : ∀ b o, G.get? b = some o → (causeAt s2.heap a a2).get? b = some o := fun b o z => by
    have nab : a ≠ b := fun y => by rw [← y, ga] at z; cases z
    rw [causeAt_ne nab]
    exact k2 b o (gs b o z)
  obtain ⟨c1, c2⟩ := causeAt_at (a2 := a2) g3' e3
  obtain ⟨w1, _⟩ := r (model X.prog X.w) s2.heap (J2.kIn.keeps k2)
  obtain ⟨_, w2⟩ := r (model X.prog X.w) (causeAt s2.heap a a2) (J3.kIn.keeps kf)
  obtain ⟨w3, _⟩ := r2 (model X.prog X.w) s2.heap (J2.kIn.keeps k2)
  refine ⟨a2, o3, v3, cls, oe2, vs2, cls2, rfl, g3', z3.1, e3, n3, l3, ha2, hz2.1, hd2, w1, w3, w2, tk _ _ (XE.new J3 kf ga c1 ⟨by rw [Obj.cls_mapFields, Obj.cls_mapFields]; exact z3.1, by rw [HandSPX.dict_mapFields, HandSPX.dict_mapFields]; exact z3.2⟩ c2 (setO (by decide) (setO (by decide) n3)) delH_same os2 ag2 hw)⟩
end
end Rg

set_option Elab.async false
set_option linter.all false
set_option maxRecDepth 100000
set_option maxHeartbeats 4000000
namespace Rg
open PySem PySem.Spec PyProof.Rows L2
/-- an exception object is no code object -/
def obF (cls : Value) (d : Option Addr) : Obj := { cls := cls, dict := d, data := .fields #[.none, .none, .none, .none, .none, .none] }
def hpF (cls : Value) (d : Option Addr) (a : Addr) : Heap := ⟨Array.replicate (a + 1) (obF cls d), {}⟩
theorem hpF_at {cls : Value} {d : Option Addr} {a : Addr} : (hpF cls d a).get? a = some (obF cls d) := Heap.get?_some_iff.mpr ⟨by simp [hpF], rfl⟩
theorem hpF_of {cls : Value} {d : Option Addr} {a c : Addr} {o : Obj} (h : (hpF cls d a).get? c = some o) : o = obF cls d := by
  obtain ⟨g4, _⟩ := Heap.get?_some_iff.mp h
  have g5 : (Array.replicate (a + 1) (obF cls d))[c]? = some o := g4
  obtain ⟨hc, e⟩ := Array.getElem?_eq_some_iff.mp g5
  rw [← e]
  simp
theorem exF_code {cls : Value} {d : Option Addr} {a c : Addr} {q : Str} : ExF cls d a ≠ LamX.CodeO c q := fun z => by
  unfold ExF LamX.CodeO at z
  have h1 := congrFun (HO.ext.inj z) (hpF cls d a)
  have h2 : ∃ (oe : Obj) (vs : Array Value), (hpF cls d a).get? a = some oe ∧ Zc cls d oe ∧ oe.data = .fields vs ∧ vs[1]? = some .none ∧ 4 < vs.size := ⟨_, _, hpF_at, ⟨rfl, rfl⟩, rfl, rfl, by show (4 : Nat) < 6; decide⟩
  rw [h1] at h2
  obtain ⟨oc, vs, t, g1, g2, g3⟩ := h2
  rw [hpF_of g1] at g2
  cases g2
  cases g3
theorem stepT_del {K : PySem.W.Frag} {W : Addr → Prop} {D0 H0 D H : Hp} {a : Addr} {φ : Heap → Prop} (s : StepT K W D0 H0 D H) (d0 : D0 a = none) (h0 : H0 a = none) (ha : ∀ c q, D c = some (LamX.CodeO c q) → c ≠ a) : StepT K W D0 H0 (delH D a) (delH H a) := by
  have nD : ∀ b o, D0 b = some o → b ≠ a := fun b o e z => by rw [z, d0] at e; cases e
  have nH : ∀ b, H0 b ≠ none → b ≠ a := fun b e z => e (by rw [z]; exact h0)
  refine ⟨fun b o e => by rw [delH_ne (nD b o e)]; exact s.dd b o e, fun b o e => ?_, fun b o hw n e => ?_, fun b e => ?_, fun b e d => ?_, fun b hw t => ?_⟩
  · by_cases q : b = a
    · rw [q, delH_same] at e
      cases e
    · rw [delH_ne q] at e ⊢
      exact s.dh b o e
  · rw [delH_ne (nH b (fun z => by rw [z] at e; cases e))]
    exact s.kq b o hw n e
  · rw [delH_ne (nH b e)]
    exact s.ns b e
  · rw [delH_ne (nH b e)]
    exact s.fr b e d
  · obtain ⟨g1, qs, h1, ht1, hc1⟩ := s.tb b hw t
    have nb : b ≠ a := nH b t.there
    refine ⟨by rw [delH_ne nb]; exact g1, qs, by rw [delH_ne nb]; exact h1, ht1, fun pos cv z => ?_⟩
    obtain ⟨c, e1, e2⟩ := hc1 pos cv z
    exact ⟨c, e1, by rw [delH_ne (ha c _ e2)]; exact e2⟩
theorem sqL_del {K : PySem.W.Frag} {D : Hp} {a q : Addr} {xs : List V} {φ : Heap → Prop} (h : SqL K D q xs) (ha : D a = some (.ext φ)) : SqL K (delH D a) q xs := by
  rcases h with (h | ⟨o, h⟩) | h
  · exact .inl (.inl (by rw [delH_ne (fun z => by rw [z, ha] at h; cases h)]; exact h))
  · exact .inl (.inr ⟨o, by rw [delH_ne (fun z => by rw [z, ha] at h; cases h)]; exact h⟩)
  · exact .inr h
section
variable {G : Gx} {X : Cx} {e e2 : Expr} {es es2 : List Expr} {pos posb p p2 pos2 : Pos} {pl pl2 : PAt} {x x2 : Str}
/-- what an own exception's making asks, read by the pure layer -/
theorem mkO_sim {C : Addr} {fs : List Str} {vs : List V} {H1 : Hp} {Q : XK} (vl : vs.length = fs.length) (hfs : fs.length ≤ 900) (hQ : ∀ d, H1 d = none → Q (.ref C) (some d) (upd H1 d (.xd (fs.zip vs).reverse))) :
    vs.length ≤ 1000 ∧ ∀ a, H1 a = none → spXI C fs (.ref a :: (vs ++ [])) (upd H1 a (exo a C none))
      (fun v H2 => v = .non ∧ ∃ (d : Addr) (fs : List (Str × V)), H2 a = some (exo a C (some d)) ∧ H2 d = some (exd d fs) ∧ H1 d = none ∧ Q (.ref C) (some d) (upd (del H2 a) d (.xd fs))) (fun _ _ _ => False) := by
  refine ⟨by omega, fun a0 ha0 => ⟨a0, vs, by rw [List.append_nil], vl, upd_same, fun d H' hd hda h1 h2 h3 => ?_⟩⟩
  have hd1 : H1 d = none := by rw [upd_ne hda] at hd; exact hd
  refine ⟨rfl, d, _, h1, h2, hd1, ?_⟩
  have eH : upd (del H' a0) d (.xd (fs.zip vs).reverse) = upd H1 d (.xd (fs.zip vs).reverse) := by
    funext b0
    by_cases hb : b0 = d
    · rw [hb, upd_same, upd_same]
    · rw [upd_ne hb, upd_ne hb]
      by_cases hb2 : b0 = a0
      · rw [hb2, del_same, ha0]
      · rw [del_ne hb2, h3 b0 hb2 hb, upd_ne hb2]
  rw [eH]
  exact hQ d hd1
def pRaiseF (C : Str) (fs : List Str) (pl : PAt) (fs2 : List Str) (pl2 : PAt) : PSt := fun E ρ => pl ρ (fun ds ρ1 => ds.length = fs.length ∧ pl2 ρ1 (fun es ρ2 => es.length = fs2.length ∧ E.rs (C, fs.reverse, ds.reverse) ρ2.ink) E.rs) E.rs
theorem s_raiseF {k k2 j : Nat} {C C2 : Str} {fs fs2 : List Str} (c : XcX X.prog X.w X.K X.mg X.base k x (He.ga G.K C) fs) (c2 : XcX X.prog X.w X.K X.mg X.base k2 x2 (He.ga G.K C2) fs2) (tk : Takes X fun cls d _ H => G.E cls d H) (hr : Room j X.A) (hk : k + 1 ≤ j) (hk2 : k2 + 1 ≤ j) (hg : Gl X x) (hg2 : Gl X x2)
    (ha : DA G X (e :: es) pl) (ha2 : DA G X (e2 :: es2) pl2) (hfs : fs.length ≤ 900 := by decide) (hfs2 : fs2.length ≤ 900 := by decide) (hc : X.calm = true := by rfl) (hex : X.ex = [] := by rfl) (hH : X.H_0 = G.H0 := by rfl)
    (hdb : (x == ("__debug__" : Str)) = false := by decide) (he : starEach (e :: es) X.env = (false, eval e X.env) :: starEach es X.env := by rfl) (hpl : (backTo pos (starEach es X.env)).any (·.1) = false := by rfl)
    (hdb2 : (x2 == ("__debug__" : Str)) = false := by decide) (he2 : starEach (e2 :: es2) X.env = (false, eval e2 X.env) :: starEach es2 X.env := by rfl) (hpl2 : (backTo posb (starEach es2 X.env)).any (·.1) = false := by rfl) :
    DS G X (.Raise (some (.Call (.Name x p) (e :: es) [] pos)) (some (.Call (.Name x2 p2) (e2 :: es2) [] posb)) pos2) (pRaiseF C fs pl fs2 pl2) := by
  obtain ⟨fI, fd, ps, O, iC, tI, F, b, hm⟩ := c.ex
  obtain ⟨fI2, fd2, ps2, O2, iC2, tI2, F2, b2, hm2⟩ := c2.ex
  refine DS.of (ps_raiseFrom hc hex tk (pmk6_oex O iC tI F (hr.mono hk) b pass0 hg hm ha.run hdb he hpl) (pmk_oex O2 iC2 tI2 F2 (hr.mono hk2) b2 .nil pass0 hg2 hm2 ha2.run hdb2 he2 hpl2)) fun D σ H ρ Ep E rel hp ok hx => ?_
  refine simA_l [] D σ H ρ _ Ep.rs _ rel hp hx fun ds ρ1 D1 vs H1 e1 r1 q1 hp1 => ?_
  obtain ⟨hl, hp1⟩ := hp1
  have vl : vs.length = fs.length := (rvA_len q1).trans hl
  refine mkO_sim (C := He.ga G.K C) (H1 := H1) (Q := fun cls d H' => ∀ (a : Addr), H' a = none → Fr0 X.H_0 a ∧ tMkO (He.ga G.K C2) (spXI (He.ga G.K C2) fs2) [] (lA G pl2) σ (upd H' a (ExF cls d a)) fun _ _ H2 => H2 a = some (ExF cls d a) ∧ G.E cls d (delH H2 a)) vl hfs fun d hd1 => ?_
  have r2 : Rel G [] (upd D1 d (.xd (fs.zip vs).reverse)) σ (upd H1 d (.xd (fs.zip vs).reverse)) ρ1 := r1.new hd1
  have s2 : Same D1 (upd D1 d (.xd (fs.zip vs).reverse)) := r1.newS hd1
  intro a haN
  have h0a : G.H0 a = none := r2.st.free haN
  have dda : (upd D1 d (.xd (fs.zip vs).reverse)) a = none := r2.same.free haN
  have d0a : G.D0 a = none := by
    cases q : G.D0 a with
    | none => rfl
    | some o =>
      have := r2.st.dd a o q
      rw [dda] at this
      cases this
  have d1a : D1 a = none := by
    cases q : D1 a with
    | none => rfl
    | some o =>
      have := s2 a o q
      rw [dda] at this
      cases this
  refine ⟨by rw [hH]; exact fr0_none h0a, ?_⟩
  have r3 : Rel G [] (upd (upd D1 d (.xd (fs.zip vs).reverse)) a (ExF (.ref (He.ga G.K C)) (some d) a)) σ (upd (upd H1 d (.xd (fs.zip vs).reverse)) a (ExF (.ref (He.ga G.K C)) (some d) a)) ρ1 := r2.new haN
  have s3 := s2.trans (r2.newS (o := ExF (.ref (He.ga G.K C)) (some d) a) haN)
  refine simA_l [] _ σ _ ρ1 _ Ep.rs _ r3 hp1 hx fun ds2 ρ2 D4 ws H4 e4 r4 q4 hp2 => ?_
  obtain ⟨hl2, hp2⟩ := hp2
  have wl : ws.length = fs2.length := (rvA_len q4).trans hl2
  refine mkO_sim (C := He.ga G.K C2) (H1 := H4) (Q := fun _ _ H2 => H2 a = some (ExF (.ref (He.ga G.K C)) (some d) a) ∧ G.E (.ref (He.ga G.K C)) (some d) (delH H2 a)) wl hfs2 fun d2 hd2 => ?_
  have r5 : Rel G [] (upd D4 d2 (.xd (fs2.zip ws).reverse)) σ (upd H4 d2 (.xd (fs2.zip ws).reverse)) ρ2 := r4.new hd2
  have s5 : Same D4 (upd D4 d2 (.xd (fs2.zip ws).reverse)) := r4.newS hd2
  have t4 : D4 a = some (ExF (.ref (He.ga G.K C)) (some d) a) := e4 a _ upd_same
  have t5 := s5 a _ t4
  have sD : Same D1 (delH (upd D4 d2 (.xd (fs2.zip ws).reverse)) a) := fun b o z => by
    have nb : b ≠ a := fun y => by rw [y, d1a] at z; cases z
    rw [delH_ne nb]
    exact s5 b o (e4 b o (s3 b o z))
  refine ⟨r5.same a _ t5, ?_⟩
  have nda : d ≠ a := fun z => by rw [← z, upd_same] at haN; cases haN
  refine hx.ok (delH (upd D4 d2 (.xd (fs2.zip ws).reverse)) a) _ (C, fs.reverse, ds.reverse) ρ2.ink d (fs.zip vs).reverse (stepT_del (φ := fun _ => True) r5.st d0a h0a fun c q z y => ?_) ?_ ?_ ?_ ?_ hp2
  · rw [y, t5] at z
    exact exF_code (Option.some.inj z)
  · intro pn hpn
    obtain ⟨o, q, ns, t, g, k1, k2, k3, k4⟩ := r5.pen pn hpn
    have npa : pn ≠ a := fun y => r5.ph pn hpn (by rw [y]; exact h0a)
    exact ⟨by rw [delH_ne npa]; exact o, q, ns, t, g, by rw [delH_ne npa]; exact k1, sqL_del k2 t5, k3, k4⟩
  · rw [delH_ne nda]
    refine s5 d _ (e4 d _ ?_)
    rw [upd_ne nda, upd_same]
  · rw [List.map_reverse]
    show (List.map Prod.fst (fs.zip vs)).reverse = fs.reverse
    rw [List.map_fst_zip (by omega)]
  · rw [List.map_reverse]
    show RvA G.K _ (List.map Prod.snd (fs.zip vs)).reverse ds.reverse
    rw [List.map_snd_zip (by omega)]
    exact rvA_rev (rvA_mono sD q1)
end
end Rg

set_option Elab.async false
set_option linter.all false
set_option maxRecDepth 100000
set_option maxHeartbeats 4000000
namespace StX
open PySem PySem.Spec PyProof.Rows L2
section
variable {X : Cx} {CX : CXT} {k i : Nat} {f C : Addr} {sp : Sp} {E : XK} {x : Str} {e : Expr} {es : List Expr} {t : TA} {tf : TE} {p pos : Pos}
end
end StX
namespace Rg
open PySem PySem.Spec PyProof.Rows L2
section
variable {G : Gx} {X : Cx} {e : Expr} {es : List Expr} {p pos : Pos} {pl : PAt} {x : Str}
end
def tupFnN (m : Nat) (Fn : NFn) : NFn := fun pn ds' n Q R => ∃ ds1 ds2, ds' = ds1 ++ [.tup ds2] ∧ ds1.length = m ∧ ds2.length ≤ sizeLine ∧ Fn pn (ds1 ++ ds2) n Q R
section
variable {P : Program} {w : World} {K : PySem.W.Frag} {mg : Str → Option Value} {base : Heap} {CX : CXT}
theorem spNew_tupN {C : Str} {fs : List Str} {Fn : NFn} {m : Nat} (hz : ∀ pn ds n Q R, Fn pn ds n Q R → m ≤ ds.length ∧ ds.length ≤ sizeLine) {vs : List V} {H : Hp} {Q : VK} {E : XK} (h : spNew K C fs Fn vs H Q E) :
    ∃ ws rest, vs = ws ++ rest ∧ ws.length = m + 1 ∧ rest.length ≤ sizeLine ∧ ∀ p, H p = none → spNew K C fs (tupFnN m Fn) (ws ++ [V.ref p]) (upd H p (.tup rest)) Q E := by
  obtain ⟨D, pn, x, dx, us, ds, n, Qd, R, rfl, sd, ph, dx0, hx, rv, pen, hf, post, ex⟩ := h
  obtain ⟨lm, lz⟩ := hz _ _ _ _ _ hf
  have ul := rvA_len rv
  refine ⟨.ref x :: us.take m, us.drop m, by rw [List.cons_append, List.take_append_drop], by rw [List.length_cons, List.length_take]; omega, by rw [List.length_drop]; omega, fun p hp => ?_⟩
  have st : StepT K NoW D H (upd D p (.tup (us.drop m))) (upd H p (.tup (us.drop m))) := (Step.new sd hp).t
  have npx : p ≠ x := fun z => by rw [z, hx] at hp; cases hp
  have sm : Same D (upd D p (.tup (us.drop m))) := st.dd
  refine ⟨upd D p (.tup (us.drop m)), pn, x, dx, us.take m ++ [.ref p], ds.take m ++ [.tup (ds.drop m)], n, Qd, R, rfl, st.dh, fun q hq => ⟨upd_ne_none (ph q hq).1, (ph q hq).2⟩, by rw [upd_ne (Ne.symm npx)]; exact dx0, by rw [upd_ne (Ne.symm npx)]; exact hx, ?_, pen.keep st, ⟨ds.take m, ds.drop m, rfl, by rw [List.length_take]; omega, by rw [List.length_drop]; omega, by rw [List.take_append_drop]; exact hf⟩, fun D' H' dxe zs es n' s d1 h1 hl rvz pk hq => post D' H' dxe zs es n' ((st.any (W := Wx pn x)).trans s) d1 h1 hl rvz pk hq, ⟨fun D' H' e n d ps s => ex.ok D' H' e n d ps ?_⟩⟩
  · exact rvA_app (rvA_take m (rvA_mono sm rv)) (.cons (.tup upd_same (rvA_drop m (rvA_mono sm rv))) .nil)
  have e1 : offX x (upd H p (.tup (us.drop m))) = upd (offX x H) p (.tup (us.drop m)) := by
    funext b
    by_cases q : b = x
    · rw [q, offX_eq, upd_ne (Ne.symm npx), offX_eq]
    · rw [offX_ne q]
      by_cases q2 : b = p
      · rw [q2, upd_same, upd_same]
      · rw [upd_ne q2, upd_ne q2, offX_ne q]
  have sd2 : Same D (offX x H) := fun b o h => by
    have q : b ≠ x := fun z => by rw [z, dx0] at h; cases h
    rw [offX_ne q]
    exact sd b o h
  have s' : StepT K (Wx pn x) (upd D p (.tup (us.drop m))) (upd (offX x H) p (.tup (us.drop m))) D' H' := e1 ▸ s
  exact ((Step.new (o := .tup (us.drop m)) sd2 (by rw [offX_ne npx]; exact hp)).any (W := Wx pn x)).t.trans s'
theorem ok_newSV {x qual pv : Str} {params : Arguments} {body : List Stmt} {scope : Scope} {f : Addr} {fd : FuncData} {N ps : List Str} {k : Nat} {C : Str} {fjs : List (Str × Nat)} {Fn : NFn} (F : FunD K x qual params body scope [] [] f fd) (S : FnScope N (ps ++ [pv]) scope) (hCX : StX.CXUp CX)
    (hb : ∀ (kV doc pm : Value) (an : Option Addr) (cdv ct : Value) (us rest : List Value), us.length = ps.length → bindArgs (PySem.W.fnOf x qual params body scope .none kV doc pm an cdv ct) ⟨us ++ rest, []⟩ = (newTuple rest >>= fun t => pure (ps.zip us ++ [(pv, t)])))
    (hc : Cls K (He.ga K C)) (hn : ∀ f ∈ fjs.map (·.1), NoAttr K (He.ga K C) f) (nd : (fjs.map (·.1)).Nodup) (hl : fjs.length < 1000)
    {m : Nat} (hm : ps.length = m + 1) (hz : ∀ pn ds n Q R, Fn pn ds n Q R → m ≤ ds.length ∧ ds.length ≤ sizeLine)
    (hbody : ∀ (cdv : Value) (A : Around) (outer : List Env) (s : Shared) (pn : Option Addr) (D H : Hp) (E : XK) (x : Addr) (ds1 ds2 : List DV) (n : Nat) (Qd : List DV → Nat → Prop) (R : PR), Room k (A.deeper (envOfC qual scope s.heap.objs.size f cdv)) → ds1.length = m → Fn pn (ds1 ++ ds2) n Qd R →
      ∃ pp, DSx ⟨K, pn, D, H, E, []⟩ (cxOf CX P w K mg base N qual scope f cdv A outer s H E) body fjs pp ∧ pp (endsS x fjs Qd R) ⟨startP N (.raw (.ref x) :: (ds1 ++ [.tup ds2])), n⟩) : FnR P w K mg base CX (k + 1) f (spNew K C (fjs.map (·.1)) Fn) := by
  obtain ⟨oc, od, dV, kV, doc, pm, an, cdv, ct, osl, rfl, lk, hcd, hD, _⟩ := F.ex
  obtain rfl : dV = .none := by
    rcases hD with ⟨_, e⟩ | ⟨e, _⟩
    · exact e
    · exact absurd rfl e
  have base0 := StX.fn_star (P := P) (w := w) (mg := mg) (base := base) (k := k) (CX := CX) (sp := spNew K C (fjs.map (·.1)) (tupFnN m Fn)) lk hcd S hCX (fun us rest hl => hb _ _ _ _ _ _ us rest hl) fun A outer s H vs Q E hr h => ?_
  · exact base0.imp fun vs H Q E h => by
      obtain ⟨ws, rest, e1, e2, e3, e4⟩ := spNew_tupN hz h
      exact ⟨ws, rest, e1, e2.trans hm.symm, e3, e4⟩
  · obtain ⟨D, pn, x, dx, us, ds', n, Qd, R, rfl, sd, ph, dx0, hx, rv, pen, ⟨ds1, ds2, rfl, l1, lz, hf⟩, post, ex⟩ := h
    obtain ⟨pp, dv, hp⟩ := hbody cdv A outer s pn D H E x ds1 ds2 n Qd R hr l1 hf
    refine ⟨_, dv.run, D, _, endsS x fjs Qd R, rel_start sd (fun p e => (ph p e).1) (.cons (.raw _) rv) pen, hp, ⟨?_, fun _ _ _ _ _ _ _ _ z => z.elim, fun _ _ _ _ _ _ z => z.elim, fun _ _ _ _ _ _ z => z.elim⟩, ex.ex⟩
    rintro D' σ' H' ρ' sm rel ⟨g0, zs, gs, hq⟩
    have npx : ¬ Wn pn x := fun e => (ph x e).2 rfl
    have hx' : H' x = some (.ins (He.ga K C) dx []) := rel.st.kq x _ npx True.intro hx
    have dx' : D' x = none := rel.st.fr x (by show H x ≠ none; rw [hx]; exact fun z => nomatch z) dx0
    obtain ⟨v0, e0, r0⟩ := rel.get g0
    rw [rv_raw r0] at e0
    obtain ⟨ws, hv, ra⟩ := slots_of rel gs
    refine stores_run e0 hc fjs ws [] H' hn nd (fun _ _ z => nomatch z) (by simpa using hl) hx' hv fun H2 h1 h2 => ?_
    have e2 : H2 = upd H' x (.ins (He.ga K C) dx ((fjs.map (·.1)).zip ws)) := by
      funext b
      by_cases q : b = x
      · rw [q, h2, upd_same]
        rfl
      · rw [h1 b q, upd_ne q]
    have st1 : StepT K (Wx pn x) D H D' H2 := by
      rw [e2]
      exact (rel.st.mono (W' := Wx pn x) fun b z => .inr z).write (.inl (.inl rfl)) dx'
    have st2 : StepT K (fun b => b = x) D' H' D' H2 := by
      rw [e2]
      exact (StepT.refl rel.same).write (.inl rfl) dx'
    exact post D' H2 dx ws zs _ st1 dx' h2 (by rw [List.length_map, slotsD_len gs, rvA_len ra]) ra (fun p hp => (rel.pen p hp).keepT st2 (ph p hp).2) hq
end
end Rg

set_option Elab.async false
set_option linter.all false
set_option maxRecDepth 100000
set_option maxHeartbeats 4000000
namespace Rg
open PySem PySem.Spec PyProof.Rows L2
section
variable {G : Gx} {X : Cx} {a b e : Expr} {pos : Pos} {pa pb : PEt}
end
end Rg

set_option Elab.async false
set_option linter.all false
set_option maxRecDepth 100000
set_option maxHeartbeats 4000000
namespace GQB
open PySem PySem.SeqAt
open AutoSeq1 (wpAny_loadPart')
open MeetsSeq MeetsSeq2 MeetsSeq3 SeqRoads2
section
variable {prog : Program} {w : World} {A : Around} {R : Result → Shared → Prop}
end
section
variable {prog : Program} {w : World} {A : Around} {E : Value → Shared → Prop} {s : Shared}
end
end GQB
namespace Rg
open PySem PySem.Spec PyProof.Rows L2
section
variable {X : Cx} {n : Nat} {a b : DV} {k : Bool}
end
section
variable {G : Gx} {X : Cx}
end
end Rg

set_option Elab.async false
set_option linter.all false
set_option maxRecDepth 100000
set_option maxHeartbeats 4000000
namespace Rg
open PySem PySem.Spec PyProof.Rows L2
section
variable {G : Gx} {X : Cx} {a b : Expr} {pos : Pos} {pa pb : PEt}
end
end Rg

set_option Elab.async false
set_option linter.all false
set_option maxRecDepth 100000
set_option maxHeartbeats 4000000
namespace Rg
open PySem PySem.Spec PyProof.Rows L2
section
variable {G : Gx} {X : Cx} {a b : Expr} {pos : Pos} {pa pb : PEt}
end
end Rg

set_option Elab.async false
set_option linter.all false
set_option maxRecDepth 100000
set_option maxHeartbeats 4000000
namespace Rg
open PySem PySem.Spec PyProof.Rows L2
section
variable {G : Gx} {X : Cx} {e : Expr} {es : List Expr} {pos pos' p p2 : Pos} {pl : PAt} {y : Str}
end
end Rg

set_option Elab.async false
set_option linter.all false
set_option maxRecDepth 100000
set_option maxHeartbeats 4000000
namespace Rg
open PySem PySem.Spec PyProof.Rows L2
section
variable {G : Gx} {X : Cx}
end
end Rg
namespace Rg
open PySem PySem.Spec PyProof.Rows L2
section
variable {G : Gx} {X : Cx} {a tg : Expr} {pos : Pos}
end
section
variable {G : Gx} {X : Cx} {x : Str} {pos p : Pos}
end
end Rg

set_option Elab.async false
set_option linter.all false
set_option maxRecDepth 100000
set_option maxHeartbeats 4000000
namespace PySem.W
open Lean Elab Tactic Meta PySem PySem.Calls PyProof.Rows
section
variable {M : Model} {K : Frag} {C : Addr} {nm : String}
end
end PySem.W
namespace Rg
open PySem PySem.Spec PyProof.Rows L2
section
variable {X : Cx} {CX : CXT} {k j : Nat} {C : Addr} {sp : Sp} {E : XK} {m : Str} {pos : Pos} {ta tb : TE}
end
section
variable {G : Gx} {X : Cx} {a b : Expr} {pos : Pos} {pa pb : PEt}
end
end Rg

set_option Elab.async false
set_option linter.all false
set_option maxRecDepth 100000
set_option maxHeartbeats 4000000
namespace L2
open PySem PySem.Spec PyProof.Rows
section
variable {X : Cx} {e : Expr} {es : List Expr} {ta : TA} {p pos : Pos}
/-- a new exception and its dict are told as such -/
theorem inv_exc {pins : List (Addr × Obj)} {σ : St} {H : Hp} {s : Shared} {a C d : Addr} {fs : List (Str × V)} (I : Inv X pins σ H s) (ea : H a = some (exo a C (some d))) (ed : H d = some (exd d fs)) (ne : d ≠ a) : Inv X pins σ (upd (upd H a (Rg.ExG (.ref C) (some d) a)) d (.xd fs)) s := by
  obtain ⟨t0, ho⟩ := exo_at I.hok ea
  obtain ⟨mA, hn, rel⟩ := exd_at I.hok ed
  have out : ∀ {b : Addr} {u : HO}, H b = some u → (∀ φ, u ≠ .ext φ) → upd (upd H a (Rg.ExG (.ref C) (some d) a)) d (.xd fs) b = some u := fun {b u} q n => by
    have h1 : b ≠ d := fun z => by
      rw [z, ed] at q
      exact n _ (Option.some.inj q).symm
    have h2 : b ≠ a := fun z => by
      rw [z, ea] at q
      exact n _ (Option.some.inj q).symm
    rw [upd_ne h1, upd_ne h2]
    exact q
  refine I.un (h' := s.heap) (t' := s.toks) ⟨fun b o q _ _ _ => q, fun b o q _ _ _ => ⟨o.slots, q⟩, fun b o q n _ => ?_, fun b o q _ => ⟨o, q⟩, fun b xs q => out q (fun φ z => by cases z), fun b o u q => out q (fun φ z => by cases z), fun b ps q => ⟨#[], by rw [out q (fun φ z => by cases z)]; simp⟩⟩ fun b u q => ?_
  · have h1 : b ≠ d := fun z => by rw [z, ed] at n; cases n
    have h2 : b ≠ a := fun z => by rw [z, ea] at n; cases n
    rw [upd_ne h1, upd_ne h2]
    exact n
  · by_cases h1 : b = d
    · subst h1
      rw [upd_same] at q
      cases q
      exact ⟨mA, hn, rel⟩
    rw [upd_ne h1] at q
    by_cases h2 : b = a
    · subst h2
      rw [upd_same] at q
      cases q
      exact ⟨⟨_, _, ho, ⟨rfl, rfl⟩, rfl⟩, ⟨_, ho⟩, fun h1 h2 ⟨oe, vs, z1, z2, z3⟩ k => ⟨oe, vs, k _ z1, z2, z3⟩⟩
    rw [upd_ne h2] at q
    exact (I.hok b u q).stay (fun _ _ _ z => z) (fun c z => out z (fun φ w => by cases w)) fun c xs z => out z (fun φ w => by cases w)
def tMkV (C : Addr) (sp : Sp) (dvs : List V) (ta : TA) : TE := fun σ H Q => ta σ H fun vs H1 => vs.length ≤ 1000 ∧ ∀ a, H1 a = none → sp (.ref a :: (vs ++ dvs)) (upd H1 a (exo a C none))
  (fun v H2 => v = .non ∧ ∃ (d : Addr) (fs : List (Str × V)), H2 a = some (exo a C (some d)) ∧ H2 d = some (exd d fs) ∧ d ≠ a ∧ Q (.ref a) (upd (upd H2 a (Rg.ExG (.ref C) (some d) a)) d (.xd fs))) (fun _ _ _ => False)
theorem pe_oexV {CX : CXT} {x : Str} {C fI : Addr} {k : Nat} {fd : FuncData} {ps : List Str} {sp : Sp} {ds : List Value} {dvs : List V} (T : OexC X.K C) (iC : PySem.W.findIn X.K (.ref C) "__init__" = some (some (.ref fI))) (tI : PySem.W.typeIn X.K (.ref fI) = some (.type "function"))
    (F1 : FnOk X.prog X.w X.K X.mg X.base CX k fI fd ps sp) (hr : Room (k + 1) X.A) (hb : Binds X.K fd ps ds) (hd : Vals dvs ds) (hx : Passes CX X (fun _ _ _ => False)) (hg : Gl X x) (hm : X.mg x = some (.ref C)) (ha : PA X (e :: es) ta)
    (hdb : (x == ("__debug__" : Str)) = false := by decide) (he : starEach (e :: es) X.env = (false, eval e X.env) :: starEach es X.env := by rfl) (hpl : (backTo pos (starEach es X.env)).any (·.1) = false := by rfl) :
    PE X (.Call (.Name x p) (e :: es) [] pos) (tMkV C sp dvs ta) := by
  refine ⟨fun pins s σ H Q I h => ?_⟩
  obtain ⟨nm, q, N, bs, bm, sn, sub, ab, col, dd, k0, k1, k2, k3, k5, hC, hbm⟩ := T.cls
  refine wpAny_Call_Name_kw (ld_glob I hg hm ?_ hdb)
  refine PySem.W.callWith_K (h₀ := X.base) I.ok.mod.kin T.kC (thn (ha.run pos pins s σ H _ I h) fun us s1 ⟨vs, H1, I1, r1, hz, q1⟩ => ⟨I1.kIn, ?_⟩) he hpl
  show wpAny _ _ (call (.ref C) us) _ _ _
  obtain ⟨hp, g, dr, tk, os⟩ := s1
  have hsz : hp.objs.size ≤ hp.objs.size + 1 := Nat.le_succ _
  have hn : H1 (hp.objs.size + 1) = none := I1.hok.fresh hsz
  have hq := q1 (hp.objs.size + 1) hn
  have kk : ∀ b o, hp.get? b = some o → ((hp.push (PySem.W.kdv_tup us)).push (PySem.HandSPX.excO C hp.objs.size)).get? b = some o := fun b o e => Heap.get?_push_of_some _ (Heap.get?_push_of_some _ e)
  have hget : ((hp.push (PySem.W.kdv_tup us)).push (PySem.HandSPX.excO C hp.objs.size)).get? (hp.objs.size + 1) = some (PySem.HandSPX.excO C hp.objs.size) := by heap_get
  have I2 : Inv X pins σ (upd H1 (hp.objs.size + 1) (exo (hp.objs.size + 1) C none)) ⟨(hp.push (PySem.W.kdv_tup us)).push (PySem.HandSPX.excO C hp.objs.size), g, dr, tk, os⟩ :=
    I1.laid (t' := tk) (a := hp.objs.size + 1) (o := exo (hp.objs.size + 1) C none) (h' := (hp.push (PySem.W.kdv_tup us)).push (PySem.HandSPX.excO C hp.objs.size)) kk hsz (exo_ok hget)
  have r2 : Vals (V.ref (hp.objs.size + 1) :: (vs ++ dvs)) (Value.ref (hp.objs.size + 1) :: (us ++ ds)) := .cons rfl (r1.append hd)
  have hl : (Value.ref (hp.objs.size + 1) :: us ++ ds).length = ps.length := by
    have e := r2.length
    rw [F1.len _ _ _ _ hq] at e
    exact e.symm
  have hus : us.length ≤ sizeLine := by
    rw [← Paired.length r1, sizeLine_eq]
    omega
  refine wpAny_call (PySem.HandSPX.call_own F.excBase_ValueError (fun Y => PySem.HandSPX.refsVE_contains Y bm hbm) (I1.kIn _ _ hC) (PySem.W.looks_findIn I1.kIn iC) (fun self => PySem.W.bind_fn I1.kIn self tI) hus
    (codeAny_mono (F1.run _ X.stack _ _ ⟨Value.ref (hp.objs.size + 1) :: us, []⟩ (Value.ref (hp.objs.size + 1) :: (us ++ ds)) _ _ (fun _ _ _ => False) (hr.make C us []) (I2.env0.make C us []) (hb _ (Value.ref (hp.objs.size + 1) :: us) I2.kIn hl) r2 hq) fun r s' hq' => ?_))
  cases r with
  | error er => exact hx pins σ _ _ er s' I2 hq'
  | ok fl =>
    cases fl with
    | ret u =>
      obtain ⟨v, H2, os2, bare2, un2, hok2, rv, ev, d, fs, ea, ed, hda, q2⟩ := hq'
      subst ev
      have J : Inv X pins σ H2 s' := I2.call' (ch := []) os2 un2 hok2 bare2 fun b z => by simp at z
      exact ⟨rv, .ref (hp.objs.size + 1), _, inv_exc J ea ed hda, rfl, q2⟩
    | next => exact False.elim hq'
    | brk => exact False.elim hq'
    | cont => exact False.elim hq'
end
end L2
namespace Rg
open PySem PySem.Spec PyProof.Rows L2
section
variable {G : Gx} {X : Cx} {e : Expr} {es : List Expr} {pos p : Pos} {pl : PAt} {x : Str}
def pMakeE (C : Str) (fs : List Str) (pl : PAt) : PEt := fun ρ Q R => pl ρ (fun ds ρ1 => ds.length = fs.length ∧ Q (.node (.exc C fs.reverse) ds.reverse) ρ1) R
theorem d_makeE {k j : Nat} {C : Str} {fs : List Str} (c : XcX X.prog X.w X.K X.mg X.base k x (He.ga G.K C) fs) (hr : Room j X.A) (hk : k + 1 ≤ j) (hg : Gl X x) (ha : DA G X (e :: es) pl) (hfs : fs.length ≤ 900 := by decide)
    (hdb : (x == ("__debug__" : Str)) = false := by decide) (he : starEach (e :: es) X.env = (false, eval e X.env) :: starEach es X.env := by rfl) (hpl : (backTo pos (starEach es X.env)).any (·.1) = false := by rfl) :
    DE G X (.Call (.Name x p) (e :: es) [] pos) (pMakeE C fs pl) := by
  obtain ⟨fI, fd, ps, O, iC, tI, F0, b, hm⟩ := c.ex
  refine DE.of (pe_oexV O iC tI F0 (hr.mono hk) b .nil pass0 hg hm ha.run hdb he hpl) fun F D σ H ρ Q R k rel hp hx cont => ?_
  refine simA_l F D σ H ρ _ R _ rel hp hx fun ds ρ1 D1 vs H1 e1 r1 q1 hp1 => ?_
  obtain ⟨hl, hp1⟩ := hp1
  have vl : vs.length = fs.length := (rvA_len q1).trans hl
  refine ⟨by omega, fun a0 ha0 => ⟨a0, vs, by rw [List.append_nil], vl, upd_same, fun d H' hd hda h1 h2 h3 => ?_⟩⟩
  have hd1 : H1 d = none := by rw [upd_ne hda] at hd; exact hd
  refine ⟨rfl, d, _, h1, h2, hda, ?_⟩
  have eH : upd (upd H' a0 (ExG (.ref (He.ga G.K C)) (some d) a0)) d (.xd (fs.zip vs).reverse) = upd (upd H1 a0 (ExG (.ref (He.ga G.K C)) (some d) a0)) d (.xd (fs.zip vs).reverse) := by
    funext b0
    by_cases hb : b0 = d
    · rw [hb, upd_same, upd_same]
    · rw [upd_ne hb, upd_ne hb]
      by_cases hb2 : b0 = a0
      · rw [hb2, upd_same, upd_same]
      · rw [upd_ne hb2, upd_ne hb2, h3 b0 hb2 hb, upd_ne hb2]
  rw [eH]
  have r2 := r1.new (o := ExG (.ref (He.ga G.K C)) (some d) a0) ha0
  have s2 := r1.newS (o := ExG (.ref (He.ga G.K C)) (some d) a0) ha0
  have hd2 : upd H1 a0 (ExG (.ref (He.ga G.K C)) (some d) a0) d = none := by rw [upd_ne hda]; exact hd1
  have r3 := r2.new (o := .xd (fs.zip vs).reverse) hd2
  have s3 := r2.newS (o := .xd (fs.zip vs).reverse) hd2
  refine cont _ _ _ _ _ (e1.trans (s2.trans s3)) r3 (.exc (d := d) (ps := (fs.zip vs).reverse) ?_ upd_same ?_ ?_) hp1
  · rw [upd_ne (Ne.symm hda), upd_same]
  · rw [List.map_reverse]
    show (List.map Prod.fst (fs.zip vs)).reverse = fs.reverse
    rw [List.map_fst_zip (by omega)]
  · rw [List.map_reverse]
    show RvA G.K _ (List.map Prod.snd (fs.zip vs)).reverse ds.reverse
    rw [List.map_snd_zip (by omega)]
    exact rvA_mono (s2.trans s3) (rvA_rev q1)
end
end Rg

set_option Elab.async false
set_option linter.all false
set_option maxRecDepth 100000
set_option maxHeartbeats 2000000
namespace PySem.HandSPX
open PySem Calls PyProof.Rows
section
variable {M : Model} {A : Around} {E : Value → Shared → Prop} {h : Heap} {g : Array GenState} {d : Drawn} {t : Nat} {os : OsState}
variable {nm q : Str} {C N : Addr} {bs bm bmB : List Value} {hdct : Bool} {sn : List Str} {sub : List Value} {ab : Bool} {col : Option Bool} {dd : Option Addr} {k0 k1 k2 k3 k5 : Option Value} {B newId initId : String}
theorem check_new_kw (F : ExcBaseFacts B newId initId bmB) (hT : ∀ X : String, bm.contains (.type X) = bmB.contains (.type X)) {rest : List Value} {kws : List (Str × Value)} {Q : Unit → Shared → Prop}
    (hC : h.get? C = some (excClassObj nm q C N bs bm hdct sn sub ab col dd k0 k1 k2 k3 k5 newId)) (hq : Q () ⟨h, g, d, t, os⟩) : wpAny M A (checkBuiltinCall newId ⟨.ref C :: rest, kws⟩) Q E ⟨h, g, d, t, os⟩ := by
  have hcont : (Value.ref C :: bm).contains (.type B) = true := by rw [List.contains_cons, hT, F.hasB, Bool.or_true]
  have hstar := F.noStar
  simp only [checkBuiltinCall, F.newKind, F.newSplit, F.newRow]
  repeat (first | refine wpAny_loadPart_at hC ?_ | (refine wpAny_isSubtype_exc hC ?_; rw [hcont]) | refine wpAny_staticBase_exc hC ?_ | refine wpAny_madeBy_exc hC ?_ | simp only [bne_self_eq_false, Bool.false_eq_true, if_false] | wp_step)
  exact hq
end
section
open Builtin Builtin.ObjectAttr
variable {prog : Program} {w : World} {A : Around} {E : Value → Shared → Prop} {R : Result → Shared → Prop} {h : Heap} {g : Array GenState} {d : Drawn} {t : Nat} {os : OsState}
variable {nm q : Str} {C N : Addr} {bs bm bmB : List Value} {hdct : Bool} {sn : List Str} {sub : List Value} {ab : Bool} {col : Option Bool} {dd : Option Addr} {k0 k1 k2 k3 k5 : Option Value} {B newId initId : String}
theorem new_kw (F : ExcBaseFacts B newId initId bmB) (hT : ∀ X : String, bm.contains (.type X) = bmB.contains (.type X)) {rest : List Value} {kws : List (Str × Value)}
    (hC : h.get? C = some (excClassObj nm q C N bs bm hdct sn sub ab col dd k0 k1 k2 k3 k5 newId))
    (hq : R (.ok (.ret (.ref (h.objs.size + 1)))) ⟨(h.push { cls := .type "tuple", data := .seq rest.toArray }).push
      { cls := .ref C, data := .fields #[.ref h.objs.size, .none, .none, .none, .bool false, .none] }, g, d, t, os⟩) (hrest : rest.length ≤ sizeLine) :
    codeAny (model prog w) A (.builtin newId ⟨.ref C :: rest, kws⟩) R ⟨h, g, d, t, os⟩ := by
  have hends := F.ends
  have hcB : (Value.ref C :: bm).contains (.type B) = true := by rw [List.contains_cons, hT, F.hasB, Bool.or_true]
  have hcA : (Value.ref C :: bm).contains (.type "AttributeError") = false := by rw [List.contains_cons, hT, F.noAttr]; rfl
  have hcN : (Value.ref C :: bm).contains (.type "NameError") = false := by rw [List.contains_cons, hT, F.noName]; rfl
  refine codeAny_builtinAt F.entry ?_
  unfold Builtin.«BaseException.__new__»
  refine wpAt_bind ?_
  show wpAt _ _ _ (stack >>= _) _ _ _
  refine wpAt_bind (wpAt_stack fun p below => wpAt_of_wpAny ?_)
  wp_walk
  refine wpAt_of_wpAny ?_
  rw [F.owner]
  repeat (first | with_reducible refine wpAny_madeHere_exc F.canon hC ?_ | with_reducible refine wpAny_loadPart_at hC ?_ | (with_reducible refine wpAny_isSubtype_exc hC ?_; first | rw [hcB] | rw [hcA] | rw [hcN]) | wp_step)
  show R _ _
  rw [Heap.size_push]
  exact hq
theorem type_call_kw (F : ExcBaseFacts B newId initId bmB) (hT : ∀ X : String, bm.contains (.type X) = bmB.contains (.type X)) {rest : List Value} {kws : List (Str × Value)} {fI : Addr} {Q : Fin → Shared → Prop}
    (hC : h.get? C = some (excClassObj nm q C N bs bm hdct sn sub ab col dd k0 k1 k2 k3 k5 newId))
    (hi : W.Looks (model prog w) h (typeLookup (.ref C) "__init__") (some (.ref fI))) (hb : ∀ self, W.Looks (model prog w) h (bindSpecial (.ref fI) self) (.ref fI, [self])) (hrest : rest.length ≤ sizeLine)
    (hq : codeAny (model prog w) A (.call (.ref fI) ⟨.ref (h.objs.size + 1) :: rest, kws⟩)
      (fun r s' => match r with | .ok (.ret v) => v = .none ∧ Q (.done (.ret (.ref (h.objs.size + 1)))) s' | .ok _ => False | .error e => E e s')
      ⟨(h.push (W.kdv_tup rest)).push (excO C h.objs.size), g, d, t, os⟩) :
    wpAny (model prog w) A (Builtin.«type.__call__» ⟨.ref C :: rest, kws⟩) Q E ⟨h, g, d, t, os⟩ := by
  repeat (first | with_reducible refine wpAny_loadPart_at hC ?_ | with_reducible refine wpAny_madeBy_exc hC ?_ | wp_step)
  refine codeAny_call_builtin_code (Code.quiet_builtin _ F.quiet) (check_new_kw F hT hC ?_)
  refine new_kw F hT hC ?_ hrest
  show wpAny _ _ _ _ _ _
  have k : ∀ b o, h.get? b = some o → ((h.push (W.kdv_tup rest)).push (excO C h.objs.size)).get? b = some o := fun b o e => Heap.get?_push_of_some _ (Heap.get?_push_of_some _ e)
  have hC₁ := k _ _ hC
  have hget : ((h.push (W.kdv_tup rest)).push (excO C h.objs.size)).get? (h.objs.size + 1) = some (excO C h.objs.size) := by heap_get
  have hcC : (Value.ref C :: bm).contains (.ref C) = true := by simp
  have i1 := hi.keeps k
  have b1 := (hb (.ref (h.objs.size + 1))).keeps k
  unfold isInstance
  repeat (first | with_reducible refine wpAny_loadPart_at hget ?_ | (with_reducible refine wpAny_isSubtype_exc hC₁ ?_; rw [hcC]) | wp_step)
  show wpAny _ _ (typeLookup (.ref C) _) _ _ _
  refine i1.at ?_
  refine wpAny_holding (wpAny_bind (b1.at ?_))
  refine wpAny_bind (wpAny_call (codeAny_mono hq fun r s' z => ?_))
  rcases r with e | (v | _ | _ | _) <;> first | exact z | exact z.elim | skip
  obtain ⟨rfl, z⟩ := z
  first
    | exact wpAny_pure (wpAny_pure z)
    | (wp_walk; exact z)
theorem check_type_kw {M : Model} {rest : List Value} {kws : List (Str × Value)} {Q : Unit → Shared → Prop} (hC : h.get? C = some (excClassObj nm q C N bs bm hdct sn sub ab col dd k0 k1 k2 k3 k5 newId))
    (hq : Q () ⟨h, g, d, t, os⟩) : wpAny M A (checkBuiltinCall "type.__call__" ⟨.ref C :: rest, kws⟩) Q E ⟨h, g, d, t, os⟩ := by
  have f3 := tc_sub
  have hT : (⟨h, g, d, t, os⟩ : Shared).TypeIs (.ref C) "type" := ⟨_, hC, rfl⟩
  simp only [checkBuiltinCall, tc_kind, tc_split]
  repeat (any_goals (first | assumption | with_reducible refine wpAny_loadPart_at hC ?_ | with_reducible refine wpAny_onRaise ?_ | with_reducible refine wpAny_map ?_ | wp_step))
theorem call_kw (F : ExcBaseFacts B newId initId bmB) (hT : ∀ X : String, bm.contains (.type X) = bmB.contains (.type X)) {rest : List Value} {kws : List (Str × Value)} {fI : Addr}
    (hC : h.get? C = some (excClassObj nm q C N bs bm hdct sn sub ab col dd k0 k1 k2 k3 k5 newId))
    (hi : W.Looks (model prog w) h (typeLookup (.ref C) "__init__") (some (.ref fI))) (hb : ∀ self, W.Looks (model prog w) h (bindSpecial (.ref fI) self) (.ref fI, [self])) (hrest : rest.length ≤ sizeLine)
    (hq : codeAny (model prog w) (A.under (.builtin "type.__call__" ⟨.ref C :: rest, kws⟩)) (.call (.ref fI) ⟨.ref (h.objs.size + 1) :: rest, kws⟩) (W.InitBack (h.objs.size + 1) R)
      ⟨(h.push (W.kdv_tup rest)).push (excO C h.objs.size), g, d, t, os⟩) :
    codeAny (model prog w) A (.call (.ref C) ⟨rest, kws⟩) R ⟨h, g, d, t, os⟩ := by
  have f1 := tc_lookup
  have f2 := tc_bind (.ref C)
  have hTy : (⟨h, g, d, t, os⟩ : Shared).TypeIs (.ref C) "type" := ⟨_, hC, rfl⟩
  refine codeAny_of_tree ?_
  show wpAny _ _ (callAny (.ref C) _) _ _ _
  repeat (any_goals (first | assumption | with_reducible refine wpAny_loadPart_at hC ?_ | wp_step))
  refine ⟨rfl, ?_⟩
  refine codeAny_call_builtin_at (Code.quiet_builtin _ (by decide +kernel)) entry_typeCall (check_type_kw hC (type_call_kw F hT hC hi hb hrest ?_))
  refine codeAny_mono hq fun r s' z => ?_
  rcases r with e | (v | _ | _ | _) <;> exact z
end
end PySem.HandSPX
namespace L2
open PySem PySem.Spec PyProof.Rows
section
variable {X : Cx} {kws : List Keyword} {tk : TA} {p pos : Pos}
def tMkVK (C : Addr) (sp : Sp) (n : Nat) (gV : List V → List V → List V) (tk : TA) : TE := fun σ H Q => tk σ H fun zs H1 => zs.length = n ∧ ∀ a, H1 a = none → sp (gV [.ref a] zs) (upd H1 a (exo a C none))
  (fun v H2 => v = .non ∧ ∃ (d : Addr) (fs : List (Str × V)), H2 a = some (exo a C (some d)) ∧ H2 d = some (exd d fs) ∧ d ≠ a ∧ Q (.ref a) (upd (upd H2 a (Rg.ExG (.ref C) (some d) a)) d (.xd fs))) (fun _ _ _ => False)
/-- C(k = v, ..), C an own exception -/
theorem pe_oexK {CX : CXT} {x : Str} {C fI : Addr} {k : Nat} {fd : FuncData} {ps ks : List Str} {sp : Sp} {g : List Value → List Value → List Value} {gV : List V → List V → List V} (T : OexC X.K C) (iC : PySem.W.findIn X.K (.ref C) "__init__" = some (some (.ref fI))) (tI : PySem.W.typeIn X.K (.ref fI) = some (.type "function"))
    (F1 : FnOk X.prog X.w X.K X.mg X.base CX k fI fd ps sp) (hr : Room (k + 1) X.A) (hb : KBn X.K fd ps 1 ks g gV) (hx : Passes CX X (fun _ _ _ => False)) (hg : Gl X x) (hm : X.mg x = some (.ref C)) (hkw : PK X kws tk)
    (hall : (backToKw pos (keywordEach kws X.env)).all (·.1.isSome) = true := by rfl) (hks : (backToKw pos (keywordEach kws X.env)).filterMap (·.1) = ks := by rfl) (hdb : (x == ("__debug__" : Str)) = false := by decide)
    (hpl : ((backTo pos (starEach [] X.env)).any (·.1) || (backToKw pos (keywordEach kws X.env)).any (·.1.isNone)) = false := by rfl) :
    PE X (.Call (.Name x p) [] kws pos) (tMkVK C sp ks.length gV tk) := by
  refine ⟨fun pins s σ H Q I h => ?_⟩
  obtain ⟨nm, q, N, bs, bm, sn, sub, ab, col, dd, k0, k1, k2, k3, k5, hC, hbm⟩ := T.cls
  refine wpAny_Call_Name_kw (ld_glob I hg hm ?_ hdb)
  refine PySem.W.callWith_KW0 (h₀ := X.base) I.ok.mod.kin T.kC hall ?_ hpl
  refine thn (hkw.run pos pins s σ H _ I h) fun ws s1 ⟨zs, H1, I1, rz, l2, q1⟩ => ⟨I1.kIn, ?_⟩
  rw [hks]
  show wpAny _ _ (call (.ref C) [] (ks.zip ws)) _ _ _
  obtain ⟨hp, gg, dr, tk', os⟩ := s1
  have hsz : hp.objs.size ≤ hp.objs.size + 1 := Nat.le_succ _
  have hn : H1 (hp.objs.size + 1) = none := I1.hok.fresh hsz
  have hq := q1 (hp.objs.size + 1) hn
  have kk : ∀ b o, hp.get? b = some o → ((hp.push (PySem.W.kdv_tup [])).push (PySem.HandSPX.excO C hp.objs.size)).get? b = some o := fun b o e => Heap.get?_push_of_some _ (Heap.get?_push_of_some _ e)
  have hget : ((hp.push (PySem.W.kdv_tup [])).push (PySem.HandSPX.excO C hp.objs.size)).get? (hp.objs.size + 1) = some (PySem.HandSPX.excO C hp.objs.size) := by heap_get
  have I2 : Inv X pins σ (upd H1 (hp.objs.size + 1) (exo (hp.objs.size + 1) C none)) ⟨(hp.push (PySem.W.kdv_tup [])).push (PySem.HandSPX.excO C hp.objs.size), gg, dr, tk', os⟩ :=
    I1.laid (t' := tk') (a := hp.objs.size + 1) (o := exo (hp.objs.size + 1) C none) (h' := (hp.push (PySem.W.kdv_tup [])).push (PySem.HandSPX.excO C hp.objs.size)) kk hsz (exo_ok hget)
  have r1 : Vals [V.ref (hp.objs.size + 1)] [Value.ref (hp.objs.size + 1)] := .cons rfl .nil
  have r2 := hb.rel r1 rz
  refine wpAny_call (PySem.HandSPX.call_kw F.excBase_ValueError (fun Y => PySem.HandSPX.refsVE_contains Y bm hbm) (I1.kIn _ _ hC) (PySem.W.looks_findIn I1.kIn iC) (fun self => PySem.W.bind_fn I1.kIn self tI) (Nat.zero_le _)
    (codeAny_mono (F1.run _ X.stack _ _ ⟨[Value.ref (hp.objs.size + 1)], ks.zip ws⟩ (g [Value.ref (hp.objs.size + 1)] ws) _ _ (fun _ _ _ => False) (hr.make C [] (ks.zip ws)) (I2.env0.make C [] (ks.zip ws)) (hb.to _ [Value.ref (hp.objs.size + 1)] ws I2.kIn rfl (rz.length.symm.trans l2)) r2 hq) fun r s' hq' => ?_))
  cases r with
  | error er => exact hx pins σ _ _ er s' I2 hq'
  | ok fl =>
    cases fl with
    | ret u =>
      obtain ⟨v, H2, os2, bare2, un2, hok2, rv, ev, d, fs, ea, ed, hda, q2⟩ := hq'
      subst ev
      have J : Inv X pins σ H2 s' := I2.call' (ch := []) os2 un2 hok2 bare2 fun b z => by simp at z
      exact ⟨rv, .ref (hp.objs.size + 1), _, inv_exc J ea ed hda, rfl, q2⟩
    | next => exact False.elim hq'
    | brk => exact False.elim hq'
    | cont => exact False.elim hq'
end
end L2
namespace Rg
open PySem PySem.Spec PyProof.Rows L2
def rvL {α : Type} (r : Bool) (xs : List α) : List α := if r = true then xs.reverse else xs
theorem rvL_len {α : Type} {r : Bool} {xs : List α} : (rvL r xs).length = xs.length := by
  unfold rvL
  split
  · exact List.length_reverse
  · rfl
structure XcK (P : Program) (w : World) (K : PySem.W.Frag) (mg : Str → Option Value) (base : Heap) (k : Nat) (x : Str) (C : Addr) (fs ks : List Str) (r : Bool) : Prop where
  ex : ∃ (fI : Addr) (fd : FuncData) (ps : List Str) (g : List Value → List Value → List Value), OexC K C ∧ PySem.W.findIn K (.ref C) "__init__" = some (some (.ref fI)) ∧ PySem.W.typeIn K (.ref fI) = some (.type "function") ∧ FnOk P w K mg base CX0 k fI fd ps (spXI C fs) ∧
    KBn K fd ps 1 ks g (fun vs zs => vs ++ rvL r zs) ∧ mg x = some (.ref C)
section
variable {G : Gx} {X : Cx} {kws : List Keyword} {pos p : Pos} {pk : PAt} {x : Str}
def pMakeEK (C : Str) (fs : List Str) (r : Bool) (n : Nat) (pk : PAt) : PEt := fun ρ Q R => pk ρ (fun ds ρ1 => ds.length = fs.length ∧ ds.length = n ∧ Q (.node (.exc C fs.reverse) (rvL r ds).reverse) ρ1) R
theorem d_makeEK {k j : Nat} {C : Str} {fs ks : List Str} {r : Bool} (c : XcK X.prog X.w X.K X.mg X.base k x (He.ga G.K C) fs ks r) (hr : Room j X.A) (hk : k + 1 ≤ j) (hg : Gl X x) (hkw : DKw G X kws pk)
    (hall : (backToKw pos (keywordEach kws X.env)).all (·.1.isSome) = true := by rfl) (hks : (backToKw pos (keywordEach kws X.env)).filterMap (·.1) = ks := by rfl) (hdb : (x == ("__debug__" : Str)) = false := by decide)
    (hpl : ((backTo pos (starEach [] X.env)).any (·.1) || (backToKw pos (keywordEach kws X.env)).any (·.1.isNone)) = false := by rfl) :
    DE G X (.Call (.Name x p) [] kws pos) (pMakeEK C fs r ks.length pk) := by
  obtain ⟨fI, fd, ps, g, O, iC, tI, F0, b, hm⟩ := c.ex
  refine DE.of (pe_oexK O iC tI F0 (hr.mono hk) b pass0 hg hm hkw.run hall hks hdb hpl) fun F D σ H ρ Q R k rel hp hx cont => ?_
  show lA G pk σ H _
  refine simA_l F D σ H ρ _ R _ rel hp hx fun ds ρ1 D1 vs H1 e1 r1 q1 hp1 => ?_
  obtain ⟨hl, hl2, hp1⟩ := hp1
  have q2 : RvA G.K D1 (rvL r vs) (rvL r ds) := by
    unfold rvL
    cases r with
    | true => exact rvA_rev q1
    | false => exact q1
  have vl : (rvL r vs).length = fs.length := by rw [rvL_len]; exact (rvA_len q1).trans hl
  refine ⟨(rvA_len q1).trans hl2, fun a0 ha0 => ⟨a0, rvL r vs, rfl, vl, upd_same, fun d H' hd hda h1 h2 h3 => ?_⟩⟩
  have hd1 : H1 d = none := by rw [upd_ne hda] at hd; exact hd
  refine ⟨rfl, d, _, h1, h2, hda, ?_⟩
  have eH : upd (upd H' a0 (ExG (.ref (He.ga G.K C)) (some d) a0)) d (.xd (fs.zip (rvL r vs)).reverse) = upd (upd H1 a0 (ExG (.ref (He.ga G.K C)) (some d) a0)) d (.xd (fs.zip (rvL r vs)).reverse) := by
    funext b0
    by_cases hb : b0 = d
    · rw [hb, upd_same, upd_same]
    · rw [upd_ne hb, upd_ne hb]
      by_cases hb2 : b0 = a0
      · rw [hb2, upd_same, upd_same]
      · rw [upd_ne hb2, upd_ne hb2, h3 b0 hb2 hb, upd_ne hb2]
  rw [eH]
  have r2 := r1.new (o := ExG (.ref (He.ga G.K C)) (some d) a0) ha0
  have s2 := r1.newS (o := ExG (.ref (He.ga G.K C)) (some d) a0) ha0
  have hd2 : upd H1 a0 (ExG (.ref (He.ga G.K C)) (some d) a0) d = none := by rw [upd_ne hda]; exact hd1
  have r3 := r2.new (o := .xd (fs.zip (rvL r vs)).reverse) hd2
  have s3 := r2.newS (o := .xd (fs.zip (rvL r vs)).reverse) hd2
  refine cont _ _ _ _ _ (e1.trans (s2.trans s3)) r3 (.exc (d := d) (ps := (fs.zip (rvL r vs)).reverse) ?_ upd_same ?_ ?_) hp1
  · rw [upd_ne (Ne.symm hda), upd_same]
  · rw [List.map_reverse]
    show (List.map Prod.fst (fs.zip (rvL r vs))).reverse = fs.reverse
    rw [List.map_fst_zip (by omega)]
  · rw [List.map_reverse]
    show RvA G.K _ (List.map Prod.snd (fs.zip (rvL r vs))).reverse (rvL r ds).reverse
    rw [List.map_snd_zip (by omega)]
    exact rvA_mono (s2.trans s3) (rvA_rev q2)
end
end Rg

set_option Elab.async false
set_option linter.all false
set_option maxRecDepth 100000
set_option maxHeartbeats 4000000
namespace Rg
open PySem PySem.Spec PyProof.Rows L2
section
variable {X : Cx} {p pos : Pos}
/-- C(), an own exception class without own __init__ -/
theorem pe_exc0 {C : Addr} {bmB : List Value} {B newId initId : String} {x : Str} (F : ExcBaseFacts B newId initId bmB) (q : PySem.W.excIn X.K C bmB newId = true) (gC : X.mg x = some (.ref C)) (kC : PySem.W.keepIn X.K (.ref C) = true) (hg : Gl X x) (hdb : (x == ("__debug__" : Str)) = false := by decide) :
    PE X (.Call (.Name x p) [] [] pos) (fun σ H Q => ∀ a, H a = none → Q (.ref a) (upd H a (ExG (.ref C) none a))) := by
  refine ⟨fun pins s σ H Q I h => ?_⟩
  refine wpAny_Call_Name_kw (ld_glob I hg gC ?_ hdb)
  refine PySem.W.callWith_K0 (first := []) I.kIn kC ?_
  show wpAny _ _ (call (.ref C) []) _ _ _
  obtain ⟨bm, N, nm, qn, bs, hdct, sn, sub, ab, col, dd, k0, k1, k2, k3, k5, mN, hC, hN, hni, T⟩ := exc_obj I.kIn q
  refine wpAny_call_exc_subT F T hC hN hni (fun h' a hm => ?_) (Nat.zero_le _)
  have hn : H a = none := I.hok.gone hm.new
  obtain ⟨t, ht, _, _⟩ := hm.there
  exact ⟨.ref a, upd H a (ExG (.ref C) none a), I.laidN hm.keeps hm.new hn ⟨⟨_, _, ht, ⟨rfl, rfl⟩, rfl⟩, ⟨_, ht⟩, fun h1 h2 ⟨oe, vs, z1, z2, z3⟩ k => ⟨oe, vs, k _ z1, z2, z3⟩⟩, rfl, h a hn⟩
/-- isinstance of such a value -/
theorem call_is0 : CallR X (.builtin "isinstance") (fun xs H Q => ∃ (a C : Addr) (c : V) (u : Value) (b : Bool), xs = [.ref a, c] ∧ H a = some (ExG (.ref C) none a) ∧ ExcC X.K C ∧ ClsV c u ∧ PySem.W.kitOne X.K (.ref C) u = some b ∧ Q (.bl b) H) := by
  intro pins s σ H xs us Q I r h
  obtain ⟨a, C, c, u, b, rfl, ha, T, k, e, q⟩ := h
  obtain ⟨u1, u2, rfl, r1, r2⟩ := vals2 r
  have e2 := k.eq r2
  subst e2
  obtain rfl : u1 = Value.ref a := r1
  obtain ⟨⟨oe, vs, ho, hz, hd⟩, _, _⟩ := I.hok a _ ha
  have J : PySem.W.InstAt s.heap a oe C none := ⟨ho, hz.1, by unfold PySem.W.notCls; rw [hd] <;> rfl, by rw [hz.2]; exact True.intro⟩
  exact PySem.W.kia_one (kitx_exc T) I.kIn J e (fun z => nomatch z) fun tk => ⟨.bl b, H, I.tok tk, rfl, q⟩
end
theorem kitVB_ok {K : PySem.W.Frag} {T : ExT} (h : kitVB K T = true) {y : Str} (e : (T.lookup y).isSome = true) : PySem.W.kitOne K (.ref (He.ga K y)) (.type "ValueError") = some true := by
  obtain ⟨z, e⟩ := Option.isSome_iff_exists.mp e
  exact of_decide_eq_true (List.all_eq_true.mp h _ (PySem.mem_of_lookup e))
/-- isinstance where an exception may stand: kn: a value that is an exception without an own dict, its class -/
def oIsE (K : PySem.W.Frag) (T : ExT) (kn : Option (Addr × Str)) : ON := fun ds Q => match ds with
  | [.node (.exc y fs) zs, .raw (.ty n)] => n = "ValueError" ∧ (T.lookup y).isSome = true ∧ Q (.bl true)
  | [.raw (.ref b), .raw (.ty n)] => n = "ValueError" ∧ (∃ C, kn = some (b, C) ∧ (T.lookup C).isSome = true) ∧ Q (.bl true)
  | [.raw (.ref b), .raw (.ref A)] => ∃ C D r, kn = some (b, C) ∧ A = He.ga K D ∧ subX T C D = some r ∧ Q (.bl r)
  | ds => oIsi K T ds Q
theorem vals_rvL {r : Bool} {vs : List V} {us : List Value} (h : Vals vs us) : Vals (rvL r vs) (rvL r us) := by
  unfold rvL
  cases r with
  | false => exact h
  | true =>
    have key : ∀ {vs : List V} {us : List Value}, Vals vs us → Vals vs.reverse us.reverse := by
      intro vs us h
      induction h with
      | nil => exact .nil
      | cons a _ ih =>
        rw [List.reverse_cons, List.reverse_cons]
        exact ih.append (.cons a .nil)
    exact key h
section
variable {G : Gx} {X : Cx}
theorem c_isE {T : ExT} {kn : Option (Addr × Str)} (hx : excsB G.K T = true) (hk : kitXB G.K T = true) (hv : kitVB G.K T = true) (hn : ∀ a C, kn = some (a, C) → G.D0 a = some (ExG (.ref (He.ga G.K C)) none a)) (hK : X.K = G.K := by rfl) : CallD G X (.builtin "isinstance") (oIsE G.K T kn) := by
  obtain ⟨R, c1, s1⟩ := c_isi (X := X) hx hk hK
  refine ⟨_, CallR.or (CallR.or call_isY call_is0) c1, fun F D σ H ρ vs ds Q k rel rv ho cont => ?_⟩
  unfold oIsE at ho
  split at ho
  · next y fs zs n =>
    obtain ⟨rfl, h1, h2⟩ := ho
    obtain ⟨v, c, rfl, ra, rc⟩ := rvA2 rv
    cases rv_raw rc
    obtain ⟨q, dd, ps, rfl, e1, e2, e3, e4⟩ := rv_exc ra
    rw [hK]
    obtain ⟨z, ez⟩ := Option.isSome_iff_exists.mp h1
    have T1 : ExcC G.K (He.ga G.K y) := excCB_ok (List.all_eq_true.mp hx _ (PySem.mem_of_lookup ez))
    exact .inl (.inl ⟨_, _, _, _, true, rfl, .ty _, .exc (rel.same _ _ e1) (rel.same _ _ e2) T1, kitVB_ok hv h1, cont _ _ D H (Same.refl D) rel (.bl true) h2⟩)
  · next b n =>
    obtain ⟨rfl, ⟨C, h1, h3⟩, h2⟩ := ho
    obtain ⟨v, c, rfl, ra, rc⟩ := rvA2 rv
    cases rv_raw rc
    cases rv_raw ra
    rw [hK]
    obtain ⟨z, ez⟩ := Option.isSome_iff_exists.mp h3
    have T1 : ExcC G.K (He.ga G.K C) := excCB_ok (List.all_eq_true.mp hx _ (PySem.mem_of_lookup ez))
    exact .inl (.inr ⟨_, _, _, _, true, rfl, rel.same _ _ (rel.st.dd _ _ (hn _ _ h1)), T1, .ty _, kitVB_ok hv h3, cont _ _ D H (Same.refl D) rel (.bl true) h2⟩)
  · next b A =>
    obtain ⟨C, D', r, h1, rfl, h3, h2⟩ := ho
    obtain ⟨v, c, rfl, ra, rc⟩ := rvA2 rv
    cases rv_raw rc
    cases rv_raw ra
    rw [hK]
    exact .inl (.inr ⟨_, _, _, _, r, rfl, rel.same _ _ (rel.st.dd _ _ (hn _ _ h1)), excsB_ok hx h3, .own _, kitXB_ok hk h3, cont _ _ D H (Same.refl D) rel (.bl r) h2⟩)
  · exact .inr (s1 F D σ H ρ vs ds Q k rel rv ho cont)
end
def spE (K : PySem.W.Frag) (Fn : Addr → Str → PFn) : Sp := fun vs H Q E => ∃ (D : Hp) (pn : Option Addr) (a : Addr) (C : Str) (us : List V) (ds : List DV) (n : Nat) (Qd : DV → Nat → Prop) (R : PR), vs = .ref a :: us ∧ Same D H ∧ (∀ p, pn = some p → H p ≠ none) ∧ D a = some (ExG (.ref (He.ga K C)) none a) ∧
  RvA K D us ds ∧ PenOk K D H pn n ∧ Fn a C pn (.raw (.ref a) :: ds) n Qd R ∧ (∀ D' H' v d n', StepT K (Wn pn) D H D' H' → Rv K D' v d → PenOk K D' H' pn n' → Qd d n' → Q v H') ∧ ExOk ⟨K, pn, D, H, E, []⟩ R
section
variable {P : Program} {w : World} {K : PySem.W.Frag} {mg : Str → Option Value} {base : Heap}
variable {CX : CXT} {x qual : Str} {params : Arguments} {body : List Stmt} {scope : Scope} {dvs : List V} {kws : List (Str × V)} {f : Addr} {fd : FuncData} {N ps : List Str} {k : Nat} {Fn : Addr → Str → PFn}
theorem ok_pE (F : FunD K x qual params body scope dvs kws f fd) (S : FnScope N ps scope) (len : ∀ a C pn ds n Q R, Fn a C pn ds n Q R → ds.length = ps.length)
    (hbody : ∀ (cdv : Value) (A : Around) (outer : List Env) (s : Shared) (pn : Option Addr) (D H : Hp) (E : XK) (a : Addr) (C : Str) (ds : List DV) (n : Nat) (Qd : DV → Nat → Prop) (R : PR), Room k (A.deeper (envOfC qual scope s.heap.objs.size f cdv)) → D a = some (ExG (.ref (He.ga K C)) none a) → Fn a C pn ds n Qd R →
      ∃ pp, DSs ⟨K, pn, D, H, E, []⟩ (cxOf CX P w K mg base N qual scope f cdv A outer s H E) body pp ∧ pp (ends Qd R) ⟨startP N ds, n⟩) : FnOk P w K mg base CX (k + 1) f fd ps (spE K Fn) := by
  refine F.ok S (fun vs H Q E h => ?_) (fun cdv A outer s H vs Q E hr h => ?_)
  · obtain ⟨D, pn, a, C, us, ds, n, Qd, R, rfl, _, _, _, rv, _, hf, _⟩ := h
    have := len _ _ _ _ _ _ _ hf
    rw [List.length_cons] at this ⊢
    rw [rvA_len rv]
    exact this
  · obtain ⟨D, pn, a, C, us, ds, n, Qd, R, rfl, sd, ph, ha, rv, pen, hf, post, ex⟩ := h
    obtain ⟨pp, dv, hp⟩ := hbody cdv A outer s pn D H E a C _ n Qd R hr ha hf
    exact ⟨_, dv.run, p_run sd ph (.cons (.raw _) rv) pen post ex hp⟩
end
section
variable {G : Gx} {X : Cx} {es : List Expr} {pos pos1 p p1 : Pos} {pl : PAt} {x y : Str}
def pCallE (Fn : Addr → Str → List DV → Nat → (DV → Nat → Prop) → PR → Prop) (C : Str) (pl : PAt) : PEt := fun ρ Q R => pl ρ (fun ds ρ1 => ∀ a, Fn a C (.raw (.ref a) :: ds) ρ1.ink (fun z n => Q z { ρ1 with ink := n }) R) R
theorem d_callE0 {k j : Nat} {C : Str} {Fn : Addr → Str → PFn} {bmB : List Value} {B newId initId : String} (Fb : ExcBaseFacts B newId initId bmB) (c : CalX X.prog X.w X.K X.mg X.base CX0 k x (spE G.K Fn)) (hr : Room j X.A) (hk : k ≤ j) (hg : Gl X x) (hx : Passes CX0 X G.E)
    (q : PySem.W.excIn X.K (He.ga G.K C) bmB newId = true) (gC : X.mg y = some (.ref (He.ga G.K C))) (kC : PySem.W.keepIn X.K (.ref (He.ga G.K C)) = true) (hy : Gl X y) (ha : DA G X es pl)
    (hdb : (x == ("__debug__" : Str)) = false := by decide) (hdb2 : (y == ("__debug__" : Str)) = false := by decide)
    (he : starEach (.Call (.Name y p1) [] [] pos1 :: es) X.env = (false, eval (.Call (.Name y p1) [] [] pos1) X.env) :: starEach es X.env := by rfl) (hpl : (backTo pos (starEach es X.env)).any (·.1) = false := by rfl) :
    DE G X (.Call (.Name x p) (.Call (.Name y p1) [] [] pos1 :: es) [] pos) (pCallE (fun a C => Fn a C G.pn) C pl) := by
  refine DE.of (pe_cX c hr hk hg hx (pa_cons (pe_exc0 Fb q gC kC hy hdb2) ha.run he) hdb he hpl) fun F D σ H ρ Q R k rel hp hx cont => ?_
  intro a h0
  have r1 := rel.new (o := ExG (.ref (He.ga G.K C)) none a) h0
  have s1 := rel.newS (o := ExG (.ref (He.ga G.K C)) none a) h0
  refine simA_l F _ σ _ ρ _ R _ r1 hp hx fun ds ρ1 D1 vs H1 e1 r2 q1 hp1 => ?_
  show spE G.K Fn ((.ref a :: vs) ++ []) H1 k G.E
  rw [List.append_nil]
  refine ⟨D1, G.pn, a, C, vs, ds, ρ1.ink, _, R, rfl, r2.same, fun p e h => r2.ph p e (r2.st.free h), e1 _ _ upd_same, q1, r2.pen, hp1 a, fun D' H' v d n' s rv pen qd => cont d _ D' v H' ((s1.trans e1).trans s.dd) (r2.step s pen) rv qd, ex_from hx r2.st⟩
end
end Rg

set_option Elab.async false
set_option linter.all false
set_option maxRecDepth 100000
set_option maxHeartbeats 4000000
namespace Rg
open PySem PySem.Spec PyProof.Rows L2
theorem MkS.calm {P : Program} {w : World} {K : PySem.W.Frag} {mg : Str → Option Value} {base : Heap} {k : Nat} {C : Str} {fs : List Str} {Fn : NFn} {x : Str} (c : MkS P w K mg base (L2.CX P w) k x (He.ga K C) (spNew K C fs Fn)) : MkS P w K mg base CX0 k x (He.ga K C) (spNew K C fs (calmN Fn)) := by
  obtain ⟨g, M, F, hm⟩ := c.ex
  refine ⟨g, M, fun A outer s H us vs Q E hr he hv hs => ?_, hm⟩
  have cs : spNew K C fs Fn vs H Q fun _ _ _ => False := by
    obtain ⟨D, pn, x, dx, us, ds, n, Qd, R, h1, h2, h3, h4, h5, h6, h7, h8, h9, _⟩ := hs
    exact ⟨D, pn, x, dx, us, ds, n, Qd, _, h1, h2, h3, h4, h5, h6, h7, h8, h9, exX_never⟩
  refine codeAny_mono (F A outer s H us vs Q _ hr he hv cs) fun r s' hq => ?_
  cases r with
  | error e => exact (calm_cx hq).elim
  | ok fl => cases fl <;> exact hq
end Rg

set_option Elab.async false
set_option linter.all false
set_option maxRecDepth 100000
set_option maxHeartbeats 4000000
set_option pp.maxSteps 1500
set_option pp.deepTerms false
set_option pp.deepTerms.threshold 8
namespace Rg
open PySem PySem.Spec PyProof.Rows L2

theorem sc_draw : FnScope ["_law_pen_here", "_law_many", "_law_digit", "_law_taken", "_law_cell", "_law_great", "_law_mixed"] ["_law_pen_here", "_law_many"] (defScope s_draw) := ⟨rfl, rfl, rfl, by decide +kernel, rfl, by decide +kernel, by decide +kernel⟩
theorem sc_pen : FnScope ["_law_script"] ["_law_script"] (defScope s_pen) := ⟨rfl, rfl, rfl, by decide +kernel, rfl, by decide +kernel, by decide +kernel⟩
theorem sc_pick : FnScope ["_law_pen_here", "_law_things"] ["_law_pen_here", "_law_things"] (defScope s_pick) := ⟨rfl, rfl, rfl, by decide +kernel, rfl, by decide +kernel, by decide +kernel⟩
theorem sc_isInt : FnScope ["thing", "low", "high"] ["thing", "low", "high"] (defScope s_isInt) := ⟨rfl, rfl, rfl, by decide +kernel, rfl, by decide +kernel, by decide +kernel⟩
theorem sc_isLetter : FnScope ["thing"] ["thing"] (defScope s_isLetter) := ⟨rfl, rfl, rfl, by decide +kernel, rfl, by decide +kernel, by decide +kernel⟩
theorem sc_isRow : FnScope ["signs", "thing", "sign"] ["signs", "thing"] (defScope s_isRow) := ⟨rfl, rfl, rfl, by decide +kernel, rfl, by decide +kernel, by decide +kernel⟩
theorem sc_needRow : FnScope ["signs", "row", "at", "sign"] ["signs", "row"] (defScope s_needRow) := ⟨rfl, rfl, rfl, by decide +kernel, rfl, by decide +kernel, by decide +kernel⟩
theorem sc_weightOf : FnScope ["weights", "row", "sign"] ["weights", "row"] (defScope s_weightOf) := ⟨rfl, rfl, rfl, by decide +kernel, rfl, by decide +kernel, by decide +kernel⟩
theorem sc_isStretch : FnScope ["thing", "least", "letter"] ["thing", "least"] (defScope s_isStretch) := ⟨rfl, rfl, rfl, by decide +kernel, rfl, by decide +kernel, by decide +kernel⟩
theorem sc_winit : FnScope ["self", "pairs", "at", "pair", "sign", "weight"] ["self", "pairs"] (defScope s_winit) := ⟨rfl, rfl, rfl, by decide +kernel, rfl, by decide +kernel, by decide +kernel⟩
theorem sc_wget : FnScope ["self", "sign"] ["self", "sign"] (defScope s_wget) := ⟨rfl, rfl, rfl, by decide +kernel, rfl, by decide +kernel, by decide +kernel⟩
theorem sc_wcall : FnScope ["self", "row"] ["self", "row"] (defScope s_wcall) := ⟨rfl, rfl, rfl, by decide +kernel, rfl, by decide +kernel, by decide +kernel⟩
theorem sc_rinit : FnScope ["self", "old", "new", "left", "right"] ["self", "old", "new", "left", "right"] (defScope s_rinit) := ⟨rfl, rfl, rfl, by decide +kernel, rfl, by decide +kernel, by decide +kernel⟩
theorem sc_req : FnScope ["self", "other", "mine"] ["self", "other"] (defScope s_req) := ⟨rfl, rfl, rfl, by decide +kernel, rfl, by decide +kernel, by decide +kernel⟩
theorem sc_lighter : FnScope ["weights", "rules", "at", "rule", "old", "new"] ["weights", "rules"] (defScope s_lighter) := ⟨rfl, rfl, rfl, by decide +kernel, rfl, by decide +kernel, by decide +kernel⟩
theorem sc_binit : FnScope ["self", "weights", "rules", "at", "rule", "other"] ["self", "weights", "rules"] (defScope s_binit) := ⟨rfl, rfl, rfl, by decide +kernel, rfl, by decide +kernel, by decide +kernel⟩
theorem sc_value : FnScope ["_law_pen_here", "_law_some"] ["_law_pen_here"] (defScope s_value) := ⟨rfl, rfl, rfl, by decide +kernel, rfl, by decide +kernel, by decide +kernel⟩
theorem sc_inputs : FnScope ["_law_one", "_law_found"] ["_law_one"] (defScope s_inputs) := ⟨rfl, rfl, rfl, by decide +kernel, rfl, by decide +kernel, by decide +kernel⟩
theorem sc_field : FnScope ["_law_error", "_law_name"] ["_law_error", "_law_name"] (defScope s_field) := ⟨rfl, rfl, rfl, by decide +kernel, rfl, by decide +kernel, by decide +kernel⟩
theorem sc_group : FnScope ["_law_error", "_law_is_input"] ["_law_error", "_law_is_input"] (defScope s_group) := ⟨rfl, rfl, rfl, by decide +kernel, rfl, by decide +kernel, by decide +kernel⟩
theorem sc_kinds : FnScope ["_law_error", "_law_one", "_law_flag"] ["_law_error"] (defScope s_kinds) := ⟨rfl, rfl, rfl, by decide +kernel, rfl, by decide +kernel, by decide +kernel⟩
theorem sc_named : FnScope ["_law_one", "_law_two", "_law_parts", "_law_told", "_law_error"] ["_law_one", "_law_two"] (defScope s_named) := ⟨rfl, rfl, rfl, by decide +kernel, rfl, by decide +kernel, by decide +kernel⟩
theorem sc_heavier : FnScope ["_law_pen_here", "_law_heavy", "_law_light", "_law_weights", "_law_rules", "_law_spot", "_law_error", "_law_before", "_law_behind", "_law_cause"] ["_law_pen_here"] (defScope s_heavier) := ⟨rfl, rfl, rfl, by decide +kernel, rfl, by decide +kernel, by decide +kernel⟩
theorem sc_law : FnScope ["_law_script", "_law_pen_here", "_law_turn", "_law_one", "_law_two", "_law_error", "_law_name", "_law_lines"] ["_law_script"] (defScope s_law) := ⟨rfl, rfl, rfl, by decide +kernel, rfl, by decide +kernel, by decide +kernel⟩
theorem sc_xBadSigns : FnScope ["self", "part"] ["self", "part"] (defScope s_xBadSigns) := ⟨rfl, rfl, rfl, by decide +kernel, rfl, by decide +kernel, by decide +kernel⟩
theorem sc_xBadRow : FnScope ["self", "at"] ["self", "at"] (defScope s_xBadRow) := ⟨rfl, rfl, rfl, by decide +kernel, rfl, by decide +kernel, by decide +kernel⟩
theorem sc_xBadRule : FnScope ["self", "part"] ["self", "part"] (defScope s_xBadRule) := ⟨rfl, rfl, rfl, by decide +kernel, rfl, by decide +kernel, by decide +kernel⟩
theorem sc_xBadBook : FnScope ["self", "at"] ["self", "at"] (defScope s_xBadBook) := ⟨rfl, rfl, rfl, by decide +kernel, rfl, by decide +kernel, by decide +kernel⟩
theorem sc_xHeavier : FnScope ["self", "at"] ["self", "at"] (defScope s_xHeavier) := ⟨rfl, rfl, rfl, by decide +kernel, rfl, by decide +kernel, by decide +kernel⟩
theorem sc_xUnlessened : FnScope ["self", "old", "new"] ["self", "old", "new"] (defScope s_xUnlessened) := ⟨rfl, rfl, rfl, by decide +kernel, rfl, by decide +kernel, by decide +kernel⟩
theorem sc_xBadMove : FnScope ["self", "part"] ["self", "part"] (defScope s_xBadMove) := ⟨rfl, rfl, rfl, by decide +kernel, rfl, by decide +kernel, by decide +kernel⟩
theorem sc_xBadMachine : FnScope ["self", "part"] ["self", "part"] (defScope s_xBadMachine) := ⟨rfl, rfl, rfl, by decide +kernel, rfl, by decide +kernel, by decide +kernel⟩
theorem sc_xBadGame : FnScope ["self", "part"] ["self", "part"] (defScope s_xBadGame) := ⟨rfl, rfl, rfl, by decide +kernel, rfl, by decide +kernel, by decide +kernel⟩
theorem sc_xBadSeat : FnScope ["self", "seat"] ["self", "seat"] (defScope s_xBadSeat) := ⟨rfl, rfl, rfl, by decide +kernel, rfl, by decide +kernel, by decide +kernel⟩
theorem sc_xOtherSigns : FnScope ["self", "part"] ["self", "part"] (defScope s_xOtherSigns) := ⟨rfl, rfl, rfl, by decide +kernel, rfl, by decide +kernel, by decide +kernel⟩
theorem sc_xBadNumber : FnScope ["self", "part"] ["self", "part"] (defScope s_xBadNumber) := ⟨rfl, rfl, rfl, by decide +kernel, rfl, by decide +kernel, by decide +kernel⟩
theorem sc_xBadText : FnScope ["self", "line", "word"] ["self", "line", "word"] (defScope s_xBadText) := ⟨rfl, rfl, rfl, by decide +kernel, rfl, by decide +kernel, by decide +kernel⟩
theorem sc_xBadLine : FnScope ["self", "word"] ["self", "word"] (defScope s_xBadLine) := ⟨rfl, rfl, rfl, by decide +kernel, rfl, by decide +kernel, by decide +kernel⟩
theorem sc_xTooMany : FnScope ["self", "what", "most"] ["self", "what", "most"] (defScope s_xTooMany) := ⟨rfl, rfl, rfl, by decide +kernel, rfl, by decide +kernel, by decide +kernel⟩
theorem sc_xNoMove : FnScope ["self", "row"] ["self", "row"] (defScope s_xNoMove) := ⟨rfl, rfl, rfl, by decide +kernel, rfl, by decide +kernel, by decide +kernel⟩
theorem sc_xNotWon : FnScope ["self", "row"] ["self", "row"] (defScope s_xNotWon) := ⟨rfl, rfl, rfl, by decide +kernel, rfl, by decide +kernel, by decide +kernel⟩
theorem sc_xNotRight : FnScope ["self", "row", "seat"] ["self", "row", "seat"] (defScope s_xNotRight) := ⟨rfl, rfl, rfl, by decide +kernel, rfl, by decide +kernel, by decide +kernel⟩
theorem sc_xNotKept : FnScope ["self", "row"] ["self", "row"] (defScope s_xNotKept) := ⟨rfl, rfl, rfl, by decide +kernel, rfl, by decide +kernel, by decide +kernel⟩
theorem sc_xNotThere : FnScope ["self", "what"] ["self", "what"] (defScope s_xNotThere) := ⟨rfl, rfl, rfl, by decide +kernel, rfl, by decide +kernel, by decide +kernel⟩
structure Tx (K : PySem.W.Frag) (mg : Str → Option Value) : Prop where
  f_len : mg "len" = none
  f_int : mg "int" = none
  f_abs : mg "abs" = none
  f_isinstance : mg "isinstance" = none
  f_str : mg "str" = none
  f_bool : mg "bool" = none
  f_list : mg "list" = none
  f_tuple : mg "tuple" = none
  f_all : mg "all" = none
  f_any : mg "any" = none
  f_range : mg "range" = none
  f_repr : mg "repr" = none
  f_enumerate : mg "enumerate" = none
  f_dict : mg "dict" = none
  f_sum : mg "sum" = none
  f_set : mg "set" = none
  f_ValueError : mg "ValueError" = none
  g_LETTERS : ∃ u, mg "LETTERS" = some u ∧ RelV (.str "abcdefghijklmnopqrstuvwxyz") u
  g_MOST_SIGNS : ∃ u, mg "MOST_SIGNS" = some u ∧ RelV (.int 4) u
  g_MOST_WEIGHT : ∃ u, mg "MOST_WEIGHT" = some u ∧ RelV (.int 9) u
  g_MOST_STRETCH : ∃ u, mg "MOST_STRETCH" = some u ∧ RelV (.int 4) u
  g_MOST_RULES : ∃ u, mg "MOST_RULES" = some u ∧ RelV (.int 8) u
  g_Weights : mg "Weights" = some (.ref (a_Weights K))
  cl_Weights : Cls K (a_Weights K)
  mk_Weights : Mk K (a_Weights K) (He.ma K (a_Weights K) "__init__")
  n_Weights_weight_by : NoAttr K (a_Weights K) "weight_by"
  n_Weights_pairs : NoAttr K (a_Weights K) "pairs"
  n_Weights_signs : NoAttr K (a_Weights K) "signs"
  g_Rule : mg "Rule" = some (.ref (a_Rule K))
  cl_Rule : Cls K (a_Rule K)
  mk_Rule : Mk K (a_Rule K) (He.ma K (a_Rule K) "__init__")
  n_Rule_old : NoAttr K (a_Rule K) "old"
  n_Rule_new : NoAttr K (a_Rule K) "new"
  n_Rule_left : NoAttr K (a_Rule K) "left"
  n_Rule_right : NoAttr K (a_Rule K) "right"
  g_Book : mg "Book" = some (.ref (a_Book K))
  cl_Book : Cls K (a_Book K)
  mk_Book : Mk K (a_Book K) (He.ma K (a_Book K) "__init__")
  n_Book_weights : NoAttr K (a_Book K) "weights"
  n_Book_rules : NoAttr K (a_Book K) "rules"
  g_GameError : mg "GameError" = some (.ref (a_GameError K))
  g_BadInput : mg "BadInput" = some (.ref (a_BadInput K))
  g_NoAnswer : mg "NoAnswer" = some (.ref (a_NoAnswer K))
  g_BadSigns : mg "BadSigns" = some (.ref (a_BadSigns K))
  g_BadRow : mg "BadRow" = some (.ref (a_BadRow K))
  g_BadRule : mg "BadRule" = some (.ref (a_BadRule K))
  g_BadBook : mg "BadBook" = some (.ref (a_BadBook K))
  g_Heavier : mg "Heavier" = some (.ref (a_Heavier K))
  g_Unlessened : mg "Unlessened" = some (.ref (a_Unlessened K))
  g_BadMove : mg "BadMove" = some (.ref (a_BadMove K))
  g_BadMachine : mg "BadMachine" = some (.ref (a_BadMachine K))
  g_BadGame : mg "BadGame" = some (.ref (a_BadGame K))
  g_BadSeat : mg "BadSeat" = some (.ref (a_BadSeat K))
  g_OtherSigns : mg "OtherSigns" = some (.ref (a_OtherSigns K))
  g_BadNumber : mg "BadNumber" = some (.ref (a_BadNumber K))
  g_BadText : mg "BadText" = some (.ref (a_BadText K))
  g_BadLine : mg "BadLine" = some (.ref (a_BadLine K))
  g_TooMany : mg "TooMany" = some (.ref (a_TooMany K))
  g_NoMove : mg "NoMove" = some (.ref (a_NoMove K))
  g_NotWon : mg "NotWon" = some (.ref (a_NotWon K))
  g_NotRight : mg "NotRight" = some (.ref (a_NotRight K))
  g_NotKept : mg "NotKept" = some (.ref (a_NotKept K))
  g_NotThere : mg "NotThere" = some (.ref (a_NotThere K))
  g_NothingPlayed : mg "NothingPlayed" = some (.ref (a_NothingPlayed K))
  g_draw : mg "_law_draw" = some (.ref (He.ga K "_law_draw"))
  d_draw : ∃ fd, FunD K "_law_draw" "_law_draw" (defArgs s_draw) (defBody s_draw) (defScope s_draw) [] [] (He.ga K "_law_draw") fd
  g_pen : mg "_law_pen" = some (.ref (He.ga K "_law_pen"))
  d_pen : ∃ fd, FunD K "_law_pen" "_law_pen" (defArgs s_pen) (defBody s_pen) (defScope s_pen) [] [] (He.ga K "_law_pen") fd
  g_pick : mg "_law_pick" = some (.ref (He.ga K "_law_pick"))
  d_pick : ∃ fd, FunD K "_law_pick" "_law_pick" (defArgs s_pick) (defBody s_pick) (defScope s_pick) [] [] (He.ga K "_law_pick") fd
  g_isInt : mg "is_integer" = some (.ref (He.ga K "is_integer"))
  d_isInt : ∃ fd, FunD K "is_integer" "is_integer" (defArgs s_isInt) (defBody s_isInt) (defScope s_isInt) [] [] (He.ga K "is_integer") fd
  g_isLetter : mg "is_letter" = some (.ref (He.ga K "is_letter"))
  d_isLetter : ∃ fd, FunD K "is_letter" "is_letter" (defArgs s_isLetter) (defBody s_isLetter) (defScope s_isLetter) [] [] (He.ga K "is_letter") fd
  g_isRow : mg "is_row" = some (.ref (He.ga K "is_row"))
  d_isRow : ∃ fd, FunD K "is_row" "is_row" (defArgs s_isRow) (defBody s_isRow) (defScope s_isRow) [] [] (He.ga K "is_row") fd
  g_needRow : mg "need_row" = some (.ref (He.ga K "need_row"))
  d_needRow : ∃ fd, FunD K "need_row" "need_row" (defArgs s_needRow) (defBody s_needRow) (defScope s_needRow) [] [] (He.ga K "need_row") fd
  g_weightOf : mg "weight_of" = some (.ref (He.ga K "weight_of"))
  d_weightOf : ∃ fd, FunD K "weight_of" "weight_of" (defArgs s_weightOf) (defBody s_weightOf) (defScope s_weightOf) [] [] (He.ga K "weight_of") fd
  g_isStretch : mg "is_stretch" = some (.ref (He.ga K "is_stretch"))
  d_isStretch : ∃ fd, FunD K "is_stretch" "is_stretch" (defArgs s_isStretch) (defBody s_isStretch) (defScope s_isStretch) [] [] (He.ga K "is_stretch") fd
  d_winit : ∃ fd, FunD K "__init__" "Weights.__init__" (defArgs s_winit) (defBody s_winit) (defScope s_winit) [] [] (He.ma K (a_Weights K) "__init__") fd
  m_wlen : Meth K (a_Weights K) "__len__" (He.ma K (a_Weights K) "__len__")
  d_wlen : ∃ fd, FunD K "__len__" "Weights.__len__" (defArgs s_wlen) (defBody s_wlen) (defScope s_wlen) [] [] (He.ma K (a_Weights K) "__len__") fd
  m_wget : Meth K (a_Weights K) "__getitem__" (He.ma K (a_Weights K) "__getitem__")
  d_wget : ∃ fd, FunD K "__getitem__" "Weights.__getitem__" (defArgs s_wget) (defBody s_wget) (defScope s_wget) [] [] (He.ma K (a_Weights K) "__getitem__") fd
  m_weq : Meth K (a_Weights K) "__eq__" (He.ma K (a_Weights K) "__eq__")
  d_weq : ∃ fd, FunD K "__eq__" "Weights.__eq__" (defArgs s_weq) (defBody s_weq) (defScope s_weq) [] [] (He.ma K (a_Weights K) "__eq__") fd
  m_wcall : Meth K (a_Weights K) "__call__" (He.ma K (a_Weights K) "__call__")
  d_wcall : ∃ fd, FunD K "__call__" "Weights.__call__" (defArgs s_wcall) (defBody s_wcall) (defScope s_wcall) [] [] (He.ma K (a_Weights K) "__call__") fd
  d_rinit : ∃ fd, FunD K "__init__" "Rule.__init__" (defArgs s_rinit) (defBody s_rinit) (defScope s_rinit) [] [("left", .bl false), ("right", .bl false)] (He.ma K (a_Rule K) "__init__") fd
  m_req : Meth K (a_Rule K) "__eq__" (He.ma K (a_Rule K) "__eq__")
  d_req : ∃ fd, FunD K "__eq__" "Rule.__eq__" (defArgs s_req) (defBody s_req) (defScope s_req) [] [] (He.ma K (a_Rule K) "__eq__") fd
  g_lighter : mg "need_lighter" = some (.ref (He.ga K "need_lighter"))
  d_lighter : ∃ fd, FunD K "need_lighter" "need_lighter" (defArgs s_lighter) (defBody s_lighter) (defScope s_lighter) [] [] (He.ga K "need_lighter") fd
  d_binit : ∃ fd, FunD K "__init__" "Book.__init__" (defArgs s_binit) (defBody s_binit) (defScope s_binit) [] [] (He.ma K (a_Book K) "__init__") fd
  m_blen : Meth K (a_Book K) "__len__" (He.ma K (a_Book K) "__len__")
  d_blen : ∃ fd, FunD K "__len__" "Book.__len__" (defArgs s_blen) (defBody s_blen) (defScope s_blen) [] [] (He.ma K (a_Book K) "__len__") fd
  m_bget : Meth K (a_Book K) "__getitem__" (He.ma K (a_Book K) "__getitem__")
  d_bget : ∃ fd, FunD K "__getitem__" "Book.__getitem__" (defArgs s_bget) (defBody s_bget) (defScope s_bget) [] [] (He.ma K (a_Book K) "__getitem__") fd
  g_value : mg "_law_value" = some (.ref (He.ga K "_law_value"))
  d_value : ∃ fd, FunD K "_law_value" "_law_value" (defArgs s_value) (defBody s_value) (defScope s_value) [] [] (He.ga K "_law_value") fd
  g_inputs : mg "_law_inputs" = some (.ref (He.ga K "_law_inputs"))
  d_inputs : ∃ fd, FunD K "_law_inputs" "_law_inputs" (defArgs s_inputs) (defBody s_inputs) (defScope s_inputs) [] [] (He.ga K "_law_inputs") fd
  g_field : mg "_law_field" = some (.ref (He.ga K "_law_field"))
  d_field : ∃ fd, FunD K "_law_field" "_law_field" (defArgs s_field) (defBody s_field) (defScope s_field) [] [] (He.ga K "_law_field") fd
  g_group : mg "_law_group" = some (.ref (He.ga K "_law_group"))
  d_group : ∃ fd, FunD K "_law_group" "_law_group" (defArgs s_group) (defBody s_group) (defScope s_group) [] [] (He.ga K "_law_group") fd
  g_kinds : mg "_law_kinds" = some (.ref (He.ga K "_law_kinds"))
  d_kinds : ∃ fd, FunD K "_law_kinds" "_law_kinds" (defArgs s_kinds) (defBody s_kinds) (defScope s_kinds) [] [] (He.ga K "_law_kinds") fd
  g_named : mg "_law_named_right" = some (.ref (He.ga K "_law_named_right"))
  d_named : ∃ fd, FunD K "_law_named_right" "_law_named_right" (defArgs s_named) (defBody s_named) (defScope s_named) [] [] (He.ga K "_law_named_right") fd
  g_heavier : mg "_law_heavier" = some (.ref (He.ga K "_law_heavier"))
  d_heavier : ∃ fd, FunD K "_law_heavier" "_law_heavier" (defArgs s_heavier) (defBody s_heavier) (defScope s_heavier) [] [] (He.ga K "_law_heavier") fd
  g_law : mg "law" = some (.ref (He.ga K "law"))
  d_law : ∃ fd, FunD K "law" "law" (defArgs s_law) (defBody s_law) (defScope s_law) [] [] (He.ga K "law") fd
  d_xBadSigns : ∃ fd, FunD K "__init__" "BadSigns.__init__" (defArgs s_xBadSigns) (defBody s_xBadSigns) (defScope s_xBadSigns) [] [] (He.ma K (a_BadSigns K) "__init__") fd
  d_xBadRow : ∃ fd, FunD K "__init__" "BadRow.__init__" (defArgs s_xBadRow) (defBody s_xBadRow) (defScope s_xBadRow) [] [] (He.ma K (a_BadRow K) "__init__") fd
  d_xBadRule : ∃ fd, FunD K "__init__" "BadRule.__init__" (defArgs s_xBadRule) (defBody s_xBadRule) (defScope s_xBadRule) [] [] (He.ma K (a_BadRule K) "__init__") fd
  d_xBadBook : ∃ fd, FunD K "__init__" "BadBook.__init__" (defArgs s_xBadBook) (defBody s_xBadBook) (defScope s_xBadBook) [] [] (He.ma K (a_BadBook K) "__init__") fd
  d_xHeavier : ∃ fd, FunD K "__init__" "Heavier.__init__" (defArgs s_xHeavier) (defBody s_xHeavier) (defScope s_xHeavier) [] [] (He.ma K (a_Heavier K) "__init__") fd
  d_xUnlessened : ∃ fd, FunD K "__init__" "Unlessened.__init__" (defArgs s_xUnlessened) (defBody s_xUnlessened) (defScope s_xUnlessened) [] [] (He.ma K (a_Unlessened K) "__init__") fd
  d_xBadMove : ∃ fd, FunD K "__init__" "BadMove.__init__" (defArgs s_xBadMove) (defBody s_xBadMove) (defScope s_xBadMove) [] [] (He.ma K (a_BadMove K) "__init__") fd
  d_xBadMachine : ∃ fd, FunD K "__init__" "BadMachine.__init__" (defArgs s_xBadMachine) (defBody s_xBadMachine) (defScope s_xBadMachine) [] [] (He.ma K (a_BadMachine K) "__init__") fd
  d_xBadGame : ∃ fd, FunD K "__init__" "BadGame.__init__" (defArgs s_xBadGame) (defBody s_xBadGame) (defScope s_xBadGame) [] [] (He.ma K (a_BadGame K) "__init__") fd
  d_xBadSeat : ∃ fd, FunD K "__init__" "BadSeat.__init__" (defArgs s_xBadSeat) (defBody s_xBadSeat) (defScope s_xBadSeat) [] [] (He.ma K (a_BadSeat K) "__init__") fd
  d_xOtherSigns : ∃ fd, FunD K "__init__" "OtherSigns.__init__" (defArgs s_xOtherSigns) (defBody s_xOtherSigns) (defScope s_xOtherSigns) [] [] (He.ma K (a_OtherSigns K) "__init__") fd
  d_xBadNumber : ∃ fd, FunD K "__init__" "BadNumber.__init__" (defArgs s_xBadNumber) (defBody s_xBadNumber) (defScope s_xBadNumber) [] [] (He.ma K (a_BadNumber K) "__init__") fd
  d_xBadText : ∃ fd, FunD K "__init__" "BadText.__init__" (defArgs s_xBadText) (defBody s_xBadText) (defScope s_xBadText) [] [] (He.ma K (a_BadText K) "__init__") fd
  d_xBadLine : ∃ fd, FunD K "__init__" "BadLine.__init__" (defArgs s_xBadLine) (defBody s_xBadLine) (defScope s_xBadLine) [] [] (He.ma K (a_BadLine K) "__init__") fd
  d_xTooMany : ∃ fd, FunD K "__init__" "TooMany.__init__" (defArgs s_xTooMany) (defBody s_xTooMany) (defScope s_xTooMany) [] [] (He.ma K (a_TooMany K) "__init__") fd
  d_xNoMove : ∃ fd, FunD K "__init__" "NoMove.__init__" (defArgs s_xNoMove) (defBody s_xNoMove) (defScope s_xNoMove) [] [] (He.ma K (a_NoMove K) "__init__") fd
  d_xNotWon : ∃ fd, FunD K "__init__" "NotWon.__init__" (defArgs s_xNotWon) (defBody s_xNotWon) (defScope s_xNotWon) [] [] (He.ma K (a_NotWon K) "__init__") fd
  d_xNotRight : ∃ fd, FunD K "__init__" "NotRight.__init__" (defArgs s_xNotRight) (defBody s_xNotRight) (defScope s_xNotRight) [] [] (He.ma K (a_NotRight K) "__init__") fd
  d_xNotKept : ∃ fd, FunD K "__init__" "NotKept.__init__" (defArgs s_xNotKept) (defBody s_xNotKept) (defScope s_xNotKept) [] [] (He.ma K (a_NotKept K) "__init__") fd
  d_xNotThere : ∃ fd, FunD K "__init__" "NotThere.__init__" (defArgs s_xNotThere) (defBody s_xNotThere) (defScope s_xNotThere) [] [] (He.ma K (a_NotThere K) "__init__") fd
  getIn_Weights : PySem.W.fnIn K (He.ma K (a_Weights K) "__getitem__") = true
  getIn_Book : PySem.W.fnIn K (He.ma K (a_Book K) "__getitem__") = true
  sysB : sysB K = true
  clO_Weights : PySem.W.fnIn K (He.ma K (a_Weights K) "__call__") = true
  xV : kitVB K exT = true
  cnB : He.eqO (PySem.W.specialIn K (.builtin "object.__class__") "__get__") (some (some (.builtin "getset_descriptor.__get__"))) = true
  ctB : decide (PySem.W.takesIn K (.builtin "object.__class__") = some true) = true
  xq_NothingPlayed : PySem.W.excIn K (a_NothingPlayed K) PySem.HandSPX.veTail "ValueError.__new__" = true
  xk_NothingPlayed : PySem.W.keepIn K (.ref (a_NothingPlayed K)) = true
  xq_GameError : PySem.W.excIn K (a_GameError K) PySem.HandSPX.veTail "ValueError.__new__" = true
  xk_GameError : PySem.W.keepIn K (.ref (a_GameError K)) = true
  ob_Weights : decide (PySem.W.mroIn K (a_Weights K) (.type "object") = some true) = true
  ca_Weights : He.eqO (PySem.W.findIn K (.ref (a_Weights K)) "__class__") (some (some (.builtin "object.__class__"))) = true
  ki_Weights : decide (PySem.W.kitOne K (.ref (a_Weights K)) (.ref (a_Weights K)) = some true) = true
  kn_Weights : (tyNames.all fun n => decide (PySem.W.kitOne K (.type n) (.ref (a_Weights K)) = some false)) = true
  nf_Weights : PySem.W.notFirst K (a_Weights K) (.ref (a_Weights K)) = true
  nn_Weights : (tyNames.all fun n => PySem.W.notFirst K (a_Weights K) (.type n)) = true
  ob_Rule : decide (PySem.W.mroIn K (a_Rule K) (.type "object") = some true) = true
  ca_Rule : He.eqO (PySem.W.findIn K (.ref (a_Rule K)) "__class__") (some (some (.builtin "object.__class__"))) = true
  ki_Rule : decide (PySem.W.kitOne K (.ref (a_Rule K)) (.ref (a_Rule K)) = some true) = true
  kn_Rule : (tyNames.all fun n => decide (PySem.W.kitOne K (.type n) (.ref (a_Rule K)) = some false)) = true
  nf_Rule : PySem.W.notFirst K (a_Rule K) (.ref (a_Rule K)) = true
  nn_Rule : (tyNames.all fun n => PySem.W.notFirst K (a_Rule K) (.type n)) = true
  ob_Book : decide (PySem.W.mroIn K (a_Book K) (.type "object") = some true) = true
  ca_Book : He.eqO (PySem.W.findIn K (.ref (a_Book K)) "__class__") (some (some (.builtin "object.__class__"))) = true
  ki_Book : decide (PySem.W.kitOne K (.ref (a_Book K)) (.ref (a_Book K)) = some true) = true
  kn_Book : (tyNames.all fun n => decide (PySem.W.kitOne K (.type n) (.ref (a_Book K)) = some false)) = true
  nf_Book : PySem.W.notFirst K (a_Book K) (.ref (a_Book K)) = true
  nn_Book : (tyNames.all fun n => PySem.W.notFirst K (a_Book K) (.type n)) = true
  xM : exmB K exT = true
  xK : kitXB K exT = true
  xE : excsB K exT = true
  xo_BadSigns : oexB K (a_BadSigns K) = true
  xi_BadSigns : (He.eqO (PySem.W.findIn K (.ref (a_BadSigns K)) "__init__") (some (some (.ref (He.ma K (a_BadSigns K) "__init__")))) && decide (PySem.W.typeIn K (.ref (He.ma K (a_BadSigns K) "__init__")) = some (.type "function"))) = true
  xo_BadRow : oexB K (a_BadRow K) = true
  xi_BadRow : (He.eqO (PySem.W.findIn K (.ref (a_BadRow K)) "__init__") (some (some (.ref (He.ma K (a_BadRow K) "__init__")))) && decide (PySem.W.typeIn K (.ref (He.ma K (a_BadRow K) "__init__")) = some (.type "function"))) = true
  xo_BadRule : oexB K (a_BadRule K) = true
  xi_BadRule : (He.eqO (PySem.W.findIn K (.ref (a_BadRule K)) "__init__") (some (some (.ref (He.ma K (a_BadRule K) "__init__")))) && decide (PySem.W.typeIn K (.ref (He.ma K (a_BadRule K) "__init__")) = some (.type "function"))) = true
  xo_BadBook : oexB K (a_BadBook K) = true
  xi_BadBook : (He.eqO (PySem.W.findIn K (.ref (a_BadBook K)) "__init__") (some (some (.ref (He.ma K (a_BadBook K) "__init__")))) && decide (PySem.W.typeIn K (.ref (He.ma K (a_BadBook K) "__init__")) = some (.type "function"))) = true
  xo_Heavier : oexB K (a_Heavier K) = true
  xi_Heavier : (He.eqO (PySem.W.findIn K (.ref (a_Heavier K)) "__init__") (some (some (.ref (He.ma K (a_Heavier K) "__init__")))) && decide (PySem.W.typeIn K (.ref (He.ma K (a_Heavier K) "__init__")) = some (.type "function"))) = true
  xo_Unlessened : oexB K (a_Unlessened K) = true
  xi_Unlessened : (He.eqO (PySem.W.findIn K (.ref (a_Unlessened K)) "__init__") (some (some (.ref (He.ma K (a_Unlessened K) "__init__")))) && decide (PySem.W.typeIn K (.ref (He.ma K (a_Unlessened K) "__init__")) = some (.type "function"))) = true
  xo_BadMove : oexB K (a_BadMove K) = true
  xi_BadMove : (He.eqO (PySem.W.findIn K (.ref (a_BadMove K)) "__init__") (some (some (.ref (He.ma K (a_BadMove K) "__init__")))) && decide (PySem.W.typeIn K (.ref (He.ma K (a_BadMove K) "__init__")) = some (.type "function"))) = true
  xo_BadMachine : oexB K (a_BadMachine K) = true
  xi_BadMachine : (He.eqO (PySem.W.findIn K (.ref (a_BadMachine K)) "__init__") (some (some (.ref (He.ma K (a_BadMachine K) "__init__")))) && decide (PySem.W.typeIn K (.ref (He.ma K (a_BadMachine K) "__init__")) = some (.type "function"))) = true
  xo_BadGame : oexB K (a_BadGame K) = true
  xi_BadGame : (He.eqO (PySem.W.findIn K (.ref (a_BadGame K)) "__init__") (some (some (.ref (He.ma K (a_BadGame K) "__init__")))) && decide (PySem.W.typeIn K (.ref (He.ma K (a_BadGame K) "__init__")) = some (.type "function"))) = true
  xo_BadSeat : oexB K (a_BadSeat K) = true
  xi_BadSeat : (He.eqO (PySem.W.findIn K (.ref (a_BadSeat K)) "__init__") (some (some (.ref (He.ma K (a_BadSeat K) "__init__")))) && decide (PySem.W.typeIn K (.ref (He.ma K (a_BadSeat K) "__init__")) = some (.type "function"))) = true
  xo_OtherSigns : oexB K (a_OtherSigns K) = true
  xi_OtherSigns : (He.eqO (PySem.W.findIn K (.ref (a_OtherSigns K)) "__init__") (some (some (.ref (He.ma K (a_OtherSigns K) "__init__")))) && decide (PySem.W.typeIn K (.ref (He.ma K (a_OtherSigns K) "__init__")) = some (.type "function"))) = true
  xo_BadNumber : oexB K (a_BadNumber K) = true
  xi_BadNumber : (He.eqO (PySem.W.findIn K (.ref (a_BadNumber K)) "__init__") (some (some (.ref (He.ma K (a_BadNumber K) "__init__")))) && decide (PySem.W.typeIn K (.ref (He.ma K (a_BadNumber K) "__init__")) = some (.type "function"))) = true
  xo_BadText : oexB K (a_BadText K) = true
  xi_BadText : (He.eqO (PySem.W.findIn K (.ref (a_BadText K)) "__init__") (some (some (.ref (He.ma K (a_BadText K) "__init__")))) && decide (PySem.W.typeIn K (.ref (He.ma K (a_BadText K) "__init__")) = some (.type "function"))) = true
  xo_BadLine : oexB K (a_BadLine K) = true
  xi_BadLine : (He.eqO (PySem.W.findIn K (.ref (a_BadLine K)) "__init__") (some (some (.ref (He.ma K (a_BadLine K) "__init__")))) && decide (PySem.W.typeIn K (.ref (He.ma K (a_BadLine K) "__init__")) = some (.type "function"))) = true
  xo_TooMany : oexB K (a_TooMany K) = true
  xi_TooMany : (He.eqO (PySem.W.findIn K (.ref (a_TooMany K)) "__init__") (some (some (.ref (He.ma K (a_TooMany K) "__init__")))) && decide (PySem.W.typeIn K (.ref (He.ma K (a_TooMany K) "__init__")) = some (.type "function"))) = true
  xo_NoMove : oexB K (a_NoMove K) = true
  xi_NoMove : (He.eqO (PySem.W.findIn K (.ref (a_NoMove K)) "__init__") (some (some (.ref (He.ma K (a_NoMove K) "__init__")))) && decide (PySem.W.typeIn K (.ref (He.ma K (a_NoMove K) "__init__")) = some (.type "function"))) = true
  xo_NotWon : oexB K (a_NotWon K) = true
  xi_NotWon : (He.eqO (PySem.W.findIn K (.ref (a_NotWon K)) "__init__") (some (some (.ref (He.ma K (a_NotWon K) "__init__")))) && decide (PySem.W.typeIn K (.ref (He.ma K (a_NotWon K) "__init__")) = some (.type "function"))) = true
  xo_NotRight : oexB K (a_NotRight K) = true
  xi_NotRight : (He.eqO (PySem.W.findIn K (.ref (a_NotRight K)) "__init__") (some (some (.ref (He.ma K (a_NotRight K) "__init__")))) && decide (PySem.W.typeIn K (.ref (He.ma K (a_NotRight K) "__init__")) = some (.type "function"))) = true
  xo_NotKept : oexB K (a_NotKept K) = true
  xi_NotKept : (He.eqO (PySem.W.findIn K (.ref (a_NotKept K)) "__init__") (some (some (.ref (He.ma K (a_NotKept K) "__init__")))) && decide (PySem.W.typeIn K (.ref (He.ma K (a_NotKept K) "__init__")) = some (.type "function"))) = true
  xo_NotThere : oexB K (a_NotThere K) = true
  xi_NotThere : (He.eqO (PySem.W.findIn K (.ref (a_NotThere K)) "__init__") (some (some (.ref (He.ma K (a_NotThere K) "__init__")))) && decide (PySem.W.typeIn K (.ref (He.ma K (a_NotThere K) "__init__")) = some (.type "function"))) = true
  xf_at : fldXB K "at" ["BadRow", "BadBook", "Heavier"] = true
  xf_line : fldXB K "line" ["BadText"] = true
  xf_most : fldXB K "most" ["TooMany"] = true
  xf_new : fldXB K "new" ["Unlessened"] = true
  xf_old : fldXB K "old" ["Unlessened"] = true
  xf_part : fldXB K "part" ["BadSigns", "BadRule", "BadMove", "BadMachine", "BadGame", "OtherSigns", "BadNumber"] = true
  xf_row : fldXB K "row" ["NoMove", "NotWon", "NotRight", "NotKept"] = true
  xf_seat : fldXB K "seat" ["BadSeat", "NotRight"] = true
  xf_what : fldXB K "what" ["TooMany", "NotThere"] = true
  xf_word : fldXB K "word" ["BadText", "BadLine"] = true
section
variable {P : Program} {w : World} {K : PySem.W.Frag} {mg : Str → Option Value} {base : Heap}
theorem c_draw {CX : CXT} {k : Nat} {sp : Sp} (T : Tx K mg) (h : ∀ fd, FunD K "_law_draw" "_law_draw" (defArgs s_draw) (defBody s_draw) (defScope s_draw) [] [] (He.ga K "_law_draw") fd → FnOk P w K mg base CX k (He.ga K "_law_draw") fd ["_law_pen_here", "_law_many"] sp) : CalX P w K mg base CX k "_law_draw" sp := by
  obtain ⟨fd, F⟩ := T.d_draw
  exact ⟨_, fd, _, h fd F, T.g_draw, F.kp, F.bindsN fun _ _ _ _ _ _ us hl => match us, hl with | [_, _], _ => rfl⟩
theorem c_pen {CX : CXT} {k : Nat} {sp : Sp} (T : Tx K mg) (h : ∀ fd, FunD K "_law_pen" "_law_pen" (defArgs s_pen) (defBody s_pen) (defScope s_pen) [] [] (He.ga K "_law_pen") fd → FnOk P w K mg base CX k (He.ga K "_law_pen") fd ["_law_script"] sp) : CalX P w K mg base CX k "_law_pen" sp := by
  obtain ⟨fd, F⟩ := T.d_pen
  exact ⟨_, fd, _, h fd F, T.g_pen, F.kp, F.bindsN fun _ _ _ _ _ _ us hl => match us, hl with | [_], _ => rfl⟩
theorem c_pick {CX : CXT} {k : Nat} {sp : Sp} (T : Tx K mg) (h : ∀ fd, FunD K "_law_pick" "_law_pick" (defArgs s_pick) (defBody s_pick) (defScope s_pick) [] [] (He.ga K "_law_pick") fd → FnOk P w K mg base CX k (He.ga K "_law_pick") fd ["_law_pen_here", "_law_things"] sp) : CalX P w K mg base CX k "_law_pick" sp := by
  obtain ⟨fd, F⟩ := T.d_pick
  exact ⟨_, fd, _, h fd F, T.g_pick, F.kp, F.bindsN fun _ _ _ _ _ _ us hl => match us, hl with | [_, _], _ => rfl⟩
theorem c_isInt {CX : CXT} {k : Nat} {sp : Sp} (T : Tx K mg) (h : ∀ fd, FunD K "is_integer" "is_integer" (defArgs s_isInt) (defBody s_isInt) (defScope s_isInt) [] [] (He.ga K "is_integer") fd → FnOk P w K mg base CX k (He.ga K "is_integer") fd ["thing", "low", "high"] sp) : CalX P w K mg base CX k "is_integer" sp := by
  obtain ⟨fd, F⟩ := T.d_isInt
  exact ⟨_, fd, _, h fd F, T.g_isInt, F.kp, F.bindsN fun _ _ _ _ _ _ us hl => match us, hl with | [_, _, _], _ => rfl⟩
theorem c_isLetter {CX : CXT} {k : Nat} {sp : Sp} (T : Tx K mg) (h : ∀ fd, FunD K "is_letter" "is_letter" (defArgs s_isLetter) (defBody s_isLetter) (defScope s_isLetter) [] [] (He.ga K "is_letter") fd → FnOk P w K mg base CX k (He.ga K "is_letter") fd ["thing"] sp) : CalX P w K mg base CX k "is_letter" sp := by
  obtain ⟨fd, F⟩ := T.d_isLetter
  exact ⟨_, fd, _, h fd F, T.g_isLetter, F.kp, F.bindsN fun _ _ _ _ _ _ us hl => match us, hl with | [_], _ => rfl⟩
theorem c_isRow {CX : CXT} {k : Nat} {sp : Sp} (T : Tx K mg) (h : ∀ fd, FunD K "is_row" "is_row" (defArgs s_isRow) (defBody s_isRow) (defScope s_isRow) [] [] (He.ga K "is_row") fd → FnOk P w K mg base CX k (He.ga K "is_row") fd ["signs", "thing"] sp) : CalX P w K mg base CX k "is_row" sp := by
  obtain ⟨fd, F⟩ := T.d_isRow
  exact ⟨_, fd, _, h fd F, T.g_isRow, F.kp, F.bindsN fun _ _ _ _ _ _ us hl => match us, hl with | [_, _], _ => rfl⟩
theorem c_needRow {CX : CXT} {k : Nat} {sp : Sp} (T : Tx K mg) (h : ∀ fd, FunD K "need_row" "need_row" (defArgs s_needRow) (defBody s_needRow) (defScope s_needRow) [] [] (He.ga K "need_row") fd → FnOk P w K mg base CX k (He.ga K "need_row") fd ["signs", "row"] sp) : CalX P w K mg base CX k "need_row" sp := by
  obtain ⟨fd, F⟩ := T.d_needRow
  exact ⟨_, fd, _, h fd F, T.g_needRow, F.kp, F.bindsN fun _ _ _ _ _ _ us hl => match us, hl with | [_, _], _ => rfl⟩
theorem c_weightOf {CX : CXT} {k : Nat} {sp : Sp} (T : Tx K mg) (h : ∀ fd, FunD K "weight_of" "weight_of" (defArgs s_weightOf) (defBody s_weightOf) (defScope s_weightOf) [] [] (He.ga K "weight_of") fd → FnOk P w K mg base CX k (He.ga K "weight_of") fd ["weights", "row"] sp) : CalX P w K mg base CX k "weight_of" sp := by
  obtain ⟨fd, F⟩ := T.d_weightOf
  exact ⟨_, fd, _, h fd F, T.g_weightOf, F.kp, F.bindsN fun _ _ _ _ _ _ us hl => match us, hl with | [_, _], _ => rfl⟩
theorem c_isStretch {CX : CXT} {k : Nat} {sp : Sp} (T : Tx K mg) (h : ∀ fd, FunD K "is_stretch" "is_stretch" (defArgs s_isStretch) (defBody s_isStretch) (defScope s_isStretch) [] [] (He.ga K "is_stretch") fd → FnOk P w K mg base CX k (He.ga K "is_stretch") fd ["thing", "least"] sp) : CalX P w K mg base CX k "is_stretch" sp := by
  obtain ⟨fd, F⟩ := T.d_isStretch
  exact ⟨_, fd, _, h fd F, T.g_isStretch, F.kp, F.bindsN fun _ _ _ _ _ _ us hl => match us, hl with | [_, _], _ => rfl⟩
theorem c_wget {CX : CXT} {k : Nat} {sp : Sp} (T : Tx K mg) (h : ∀ fd, FunD K "__getitem__" "Weights.__getitem__" (defArgs s_wget) (defBody s_wget) (defScope s_wget) [] [] (He.ma K (a_Weights K) "__getitem__") fd → FnOk P w K mg base CX k (He.ma K (a_Weights K) "__getitem__") fd ["self", "sign"] sp) : MetX P w K mg base CX k (a_Weights K) "__getitem__" sp := by
  obtain ⟨fd, F⟩ := T.d_wget
  exact ⟨_, fd, _, T.m_wget, h fd F, F.bindsN fun _ _ _ _ _ _ us hl => match us, hl with | [_, _], _ => rfl⟩
theorem c_req {CX : CXT} {k : Nat} {sp : Sp} (T : Tx K mg) (h : ∀ fd, FunD K "__eq__" "Rule.__eq__" (defArgs s_req) (defBody s_req) (defScope s_req) [] [] (He.ma K (a_Rule K) "__eq__") fd → FnOk P w K mg base CX k (He.ma K (a_Rule K) "__eq__") fd ["self", "other"] sp) : MetX P w K mg base CX k (a_Rule K) "__eq__" sp := by
  obtain ⟨fd, F⟩ := T.d_req
  exact ⟨_, fd, _, T.m_req, h fd F, F.bindsN fun _ _ _ _ _ _ us hl => match us, hl with | [_, _], _ => rfl⟩
theorem c_lighter {CX : CXT} {k : Nat} {sp : Sp} (T : Tx K mg) (h : ∀ fd, FunD K "need_lighter" "need_lighter" (defArgs s_lighter) (defBody s_lighter) (defScope s_lighter) [] [] (He.ga K "need_lighter") fd → FnOk P w K mg base CX k (He.ga K "need_lighter") fd ["weights", "rules"] sp) : CalX P w K mg base CX k "need_lighter" sp := by
  obtain ⟨fd, F⟩ := T.d_lighter
  exact ⟨_, fd, _, h fd F, T.g_lighter, F.kp, F.bindsN fun _ _ _ _ _ _ us hl => match us, hl with | [_, _], _ => rfl⟩
theorem c_value {CX : CXT} {k : Nat} {sp : Sp} (T : Tx K mg) (h : ∀ fd, FunD K "_law_value" "_law_value" (defArgs s_value) (defBody s_value) (defScope s_value) [] [] (He.ga K "_law_value") fd → FnOk P w K mg base CX k (He.ga K "_law_value") fd ["_law_pen_here"] sp) : CalX P w K mg base CX k "_law_value" sp := by
  obtain ⟨fd, F⟩ := T.d_value
  exact ⟨_, fd, _, h fd F, T.g_value, F.kp, F.bindsN fun _ _ _ _ _ _ us hl => match us, hl with | [_], _ => rfl⟩
theorem c_inputs {CX : CXT} {k : Nat} {sp : Sp} (T : Tx K mg) (h : ∀ fd, FunD K "_law_inputs" "_law_inputs" (defArgs s_inputs) (defBody s_inputs) (defScope s_inputs) [] [] (He.ga K "_law_inputs") fd → FnOk P w K mg base CX k (He.ga K "_law_inputs") fd ["_law_one"] sp) : CalX P w K mg base CX k "_law_inputs" sp := by
  obtain ⟨fd, F⟩ := T.d_inputs
  exact ⟨_, fd, _, h fd F, T.g_inputs, F.kp, F.bindsN fun _ _ _ _ _ _ us hl => match us, hl with | [_], _ => rfl⟩
theorem c_field {CX : CXT} {k : Nat} {sp : Sp} (T : Tx K mg) (h : ∀ fd, FunD K "_law_field" "_law_field" (defArgs s_field) (defBody s_field) (defScope s_field) [] [] (He.ga K "_law_field") fd → FnOk P w K mg base CX k (He.ga K "_law_field") fd ["_law_error", "_law_name"] sp) : CalX P w K mg base CX k "_law_field" sp := by
  obtain ⟨fd, F⟩ := T.d_field
  exact ⟨_, fd, _, h fd F, T.g_field, F.kp, F.bindsN fun _ _ _ _ _ _ us hl => match us, hl with | [_, _], _ => rfl⟩
theorem c_group {CX : CXT} {k : Nat} {sp : Sp} (T : Tx K mg) (h : ∀ fd, FunD K "_law_group" "_law_group" (defArgs s_group) (defBody s_group) (defScope s_group) [] [] (He.ga K "_law_group") fd → FnOk P w K mg base CX k (He.ga K "_law_group") fd ["_law_error", "_law_is_input"] sp) : CalX P w K mg base CX k "_law_group" sp := by
  obtain ⟨fd, F⟩ := T.d_group
  exact ⟨_, fd, _, h fd F, T.g_group, F.kp, F.bindsN fun _ _ _ _ _ _ us hl => match us, hl with | [_, _], _ => rfl⟩
theorem c_kinds {CX : CXT} {k : Nat} {sp : Sp} (T : Tx K mg) (h : ∀ fd, FunD K "_law_kinds" "_law_kinds" (defArgs s_kinds) (defBody s_kinds) (defScope s_kinds) [] [] (He.ga K "_law_kinds") fd → FnOk P w K mg base CX k (He.ga K "_law_kinds") fd ["_law_error"] sp) : CalX P w K mg base CX k "_law_kinds" sp := by
  obtain ⟨fd, F⟩ := T.d_kinds
  exact ⟨_, fd, _, h fd F, T.g_kinds, F.kp, F.bindsN fun _ _ _ _ _ _ us hl => match us, hl with | [_], _ => rfl⟩
theorem c_named {CX : CXT} {k : Nat} {sp : Sp} (T : Tx K mg) (h : ∀ fd, FunD K "_law_named_right" "_law_named_right" (defArgs s_named) (defBody s_named) (defScope s_named) [] [] (He.ga K "_law_named_right") fd → FnG P w K mg base CX k (He.ga K "_law_named_right") fd ["_law_one", "_law_two"] sp) : CalG P w K mg base CX k "_law_named_right" sp := by
  obtain ⟨fd, F⟩ := T.d_named
  exact ⟨_, fd, _, h fd F, T.g_named, F.kp, F.bindsN fun _ _ _ _ _ _ us hl => match us, hl with | [_, _], _ => rfl⟩
theorem c_heavier {CX : CXT} {k : Nat} {sp : Sp} (T : Tx K mg) (h : ∀ fd, FunD K "_law_heavier" "_law_heavier" (defArgs s_heavier) (defBody s_heavier) (defScope s_heavier) [] [] (He.ga K "_law_heavier") fd → FnOk P w K mg base CX k (He.ga K "_law_heavier") fd ["_law_pen_here"] sp) : CalX P w K mg base CX k "_law_heavier" sp := by
  obtain ⟨fd, F⟩ := T.d_heavier
  exact ⟨_, fd, _, h fd F, T.g_heavier, F.kp, F.bindsN fun _ _ _ _ _ _ us hl => match us, hl with | [_], _ => rfl⟩
theorem b_xBadSigns (T : Tx K mg) {fd : FuncData} (F : FunD K "__init__" "BadSigns.__init__" (defArgs s_xBadSigns) (defBody s_xBadSigns) (defScope s_xBadSigns) [] [] (He.ma K (a_BadSigns K) "__init__") fd) : Binds K fd ["self", "part"] [] := F.bindsN fun _ _ _ _ _ _ us hl => match us, hl with | [_, _], _ => rfl
theorem b_xBadRow (T : Tx K mg) {fd : FuncData} (F : FunD K "__init__" "BadRow.__init__" (defArgs s_xBadRow) (defBody s_xBadRow) (defScope s_xBadRow) [] [] (He.ma K (a_BadRow K) "__init__") fd) : Binds K fd ["self", "at"] [] := F.bindsN fun _ _ _ _ _ _ us hl => match us, hl with | [_, _], _ => rfl
theorem b_xBadRule (T : Tx K mg) {fd : FuncData} (F : FunD K "__init__" "BadRule.__init__" (defArgs s_xBadRule) (defBody s_xBadRule) (defScope s_xBadRule) [] [] (He.ma K (a_BadRule K) "__init__") fd) : Binds K fd ["self", "part"] [] := F.bindsN fun _ _ _ _ _ _ us hl => match us, hl with | [_, _], _ => rfl
theorem b_xBadBook (T : Tx K mg) {fd : FuncData} (F : FunD K "__init__" "BadBook.__init__" (defArgs s_xBadBook) (defBody s_xBadBook) (defScope s_xBadBook) [] [] (He.ma K (a_BadBook K) "__init__") fd) : Binds K fd ["self", "at"] [] := F.bindsN fun _ _ _ _ _ _ us hl => match us, hl with | [_, _], _ => rfl
theorem b_xHeavier (T : Tx K mg) {fd : FuncData} (F : FunD K "__init__" "Heavier.__init__" (defArgs s_xHeavier) (defBody s_xHeavier) (defScope s_xHeavier) [] [] (He.ma K (a_Heavier K) "__init__") fd) : Binds K fd ["self", "at"] [] := F.bindsN fun _ _ _ _ _ _ us hl => match us, hl with | [_, _], _ => rfl
theorem b_xUnlessened (T : Tx K mg) {fd : FuncData} (F : FunD K "__init__" "Unlessened.__init__" (defArgs s_xUnlessened) (defBody s_xUnlessened) (defScope s_xUnlessened) [] [] (He.ma K (a_Unlessened K) "__init__") fd) : Binds K fd ["self", "old", "new"] [] := F.bindsN fun _ _ _ _ _ _ us hl => match us, hl with | [_, _, _], _ => rfl
theorem b_xBadMove (T : Tx K mg) {fd : FuncData} (F : FunD K "__init__" "BadMove.__init__" (defArgs s_xBadMove) (defBody s_xBadMove) (defScope s_xBadMove) [] [] (He.ma K (a_BadMove K) "__init__") fd) : Binds K fd ["self", "part"] [] := F.bindsN fun _ _ _ _ _ _ us hl => match us, hl with | [_, _], _ => rfl
theorem b_xBadMachine (T : Tx K mg) {fd : FuncData} (F : FunD K "__init__" "BadMachine.__init__" (defArgs s_xBadMachine) (defBody s_xBadMachine) (defScope s_xBadMachine) [] [] (He.ma K (a_BadMachine K) "__init__") fd) : Binds K fd ["self", "part"] [] := F.bindsN fun _ _ _ _ _ _ us hl => match us, hl with | [_, _], _ => rfl
theorem b_xBadGame (T : Tx K mg) {fd : FuncData} (F : FunD K "__init__" "BadGame.__init__" (defArgs s_xBadGame) (defBody s_xBadGame) (defScope s_xBadGame) [] [] (He.ma K (a_BadGame K) "__init__") fd) : Binds K fd ["self", "part"] [] := F.bindsN fun _ _ _ _ _ _ us hl => match us, hl with | [_, _], _ => rfl
theorem b_xBadSeat (T : Tx K mg) {fd : FuncData} (F : FunD K "__init__" "BadSeat.__init__" (defArgs s_xBadSeat) (defBody s_xBadSeat) (defScope s_xBadSeat) [] [] (He.ma K (a_BadSeat K) "__init__") fd) : Binds K fd ["self", "seat"] [] := F.bindsN fun _ _ _ _ _ _ us hl => match us, hl with | [_, _], _ => rfl
theorem b_xOtherSigns (T : Tx K mg) {fd : FuncData} (F : FunD K "__init__" "OtherSigns.__init__" (defArgs s_xOtherSigns) (defBody s_xOtherSigns) (defScope s_xOtherSigns) [] [] (He.ma K (a_OtherSigns K) "__init__") fd) : Binds K fd ["self", "part"] [] := F.bindsN fun _ _ _ _ _ _ us hl => match us, hl with | [_, _], _ => rfl
theorem b_xBadNumber (T : Tx K mg) {fd : FuncData} (F : FunD K "__init__" "BadNumber.__init__" (defArgs s_xBadNumber) (defBody s_xBadNumber) (defScope s_xBadNumber) [] [] (He.ma K (a_BadNumber K) "__init__") fd) : Binds K fd ["self", "part"] [] := F.bindsN fun _ _ _ _ _ _ us hl => match us, hl with | [_, _], _ => rfl
theorem b_xBadText (T : Tx K mg) {fd : FuncData} (F : FunD K "__init__" "BadText.__init__" (defArgs s_xBadText) (defBody s_xBadText) (defScope s_xBadText) [] [] (He.ma K (a_BadText K) "__init__") fd) : Binds K fd ["self", "line", "word"] [] := F.bindsN fun _ _ _ _ _ _ us hl => match us, hl with | [_, _, _], _ => rfl
theorem b_xBadLine (T : Tx K mg) {fd : FuncData} (F : FunD K "__init__" "BadLine.__init__" (defArgs s_xBadLine) (defBody s_xBadLine) (defScope s_xBadLine) [] [] (He.ma K (a_BadLine K) "__init__") fd) : Binds K fd ["self", "word"] [] := F.bindsN fun _ _ _ _ _ _ us hl => match us, hl with | [_, _], _ => rfl
theorem b_xTooMany (T : Tx K mg) {fd : FuncData} (F : FunD K "__init__" "TooMany.__init__" (defArgs s_xTooMany) (defBody s_xTooMany) (defScope s_xTooMany) [] [] (He.ma K (a_TooMany K) "__init__") fd) : Binds K fd ["self", "what", "most"] [] := F.bindsN fun _ _ _ _ _ _ us hl => match us, hl with | [_, _, _], _ => rfl
theorem b_xNoMove (T : Tx K mg) {fd : FuncData} (F : FunD K "__init__" "NoMove.__init__" (defArgs s_xNoMove) (defBody s_xNoMove) (defScope s_xNoMove) [] [] (He.ma K (a_NoMove K) "__init__") fd) : Binds K fd ["self", "row"] [] := F.bindsN fun _ _ _ _ _ _ us hl => match us, hl with | [_, _], _ => rfl
theorem b_xNotWon (T : Tx K mg) {fd : FuncData} (F : FunD K "__init__" "NotWon.__init__" (defArgs s_xNotWon) (defBody s_xNotWon) (defScope s_xNotWon) [] [] (He.ma K (a_NotWon K) "__init__") fd) : Binds K fd ["self", "row"] [] := F.bindsN fun _ _ _ _ _ _ us hl => match us, hl with | [_, _], _ => rfl
theorem b_xNotRight (T : Tx K mg) {fd : FuncData} (F : FunD K "__init__" "NotRight.__init__" (defArgs s_xNotRight) (defBody s_xNotRight) (defScope s_xNotRight) [] [] (He.ma K (a_NotRight K) "__init__") fd) : Binds K fd ["self", "row", "seat"] [] := F.bindsN fun _ _ _ _ _ _ us hl => match us, hl with | [_, _, _], _ => rfl
theorem b_xNotKept (T : Tx K mg) {fd : FuncData} (F : FunD K "__init__" "NotKept.__init__" (defArgs s_xNotKept) (defBody s_xNotKept) (defScope s_xNotKept) [] [] (He.ma K (a_NotKept K) "__init__") fd) : Binds K fd ["self", "row"] [] := F.bindsN fun _ _ _ _ _ _ us hl => match us, hl with | [_, _], _ => rfl
theorem b_xNotThere (T : Tx K mg) {fd : FuncData} (F : FunD K "__init__" "NotThere.__init__" (defArgs s_xNotThere) (defBody s_xNotThere) (defScope s_xNotThere) [] [] (He.ma K (a_NotThere K) "__init__") fd) : Binds K fd ["self", "what"] [] := F.bindsN fun _ _ _ _ _ _ us hl => match us, hl with | [_, _], _ => rfl
end
section
variable {P : Program} {w : World} {K : PySem.W.Frag} {mg : Str → Option Value} {base : Heap}
theorem ok_xBadSigns {f : Addr} {fd : FuncData} (F : FunD K "__init__" "BadSigns.__init__" (defArgs s_xBadSigns) (defBody s_xBadSigns) (defScope s_xBadSigns) [] [] f fd) (T : Tx K mg) : FnOk P w K mg base CX0 1 f fd ["self", "part"] (spXI (a_BadSigns K) ["part"]) := by
  refine F.ok sc_xBadSigns (fun vs H Q E h => ?_) (fun cdv A outer s H vs Q E hr h => ?_)
  · obtain ⟨a, ys, rfl, l, _⟩ := h
    exact congrArg Nat.succ l
  · obtain ⟨a, ys, rfl, l, ha, k⟩ := h
    match ys, l, k with
    | [y], _, k =>
      refine ⟨_, PSs.nox (pss_one (ps_ost (pv 0) (pv 1))), ?_⟩
      refine ⟨y, rfl, _, rfl, a, a_BadSigns K, rfl, oexB_ok T.xo_BadSigns, (fldXB_ok T.xf_part "BadSigns" (by decide)).2, .inl ⟨ha, fun dx hdx ne => ?_⟩⟩
      exact k dx _ hdx ne upd_same (by rw [upd_ne ne, upd_same]; rfl) fun b h1 h2 => by rw [upd_ne h1, upd_ne h2]
theorem xc_BadSigns (T : Tx K mg) : XcX P w K mg base 1 "BadSigns" (a_BadSigns K) ["part"] := by
  obtain ⟨fd, F⟩ := T.d_xBadSigns
  obtain ⟨h1, h2⟩ := Bool.and_eq_true_iff.mp T.xi_BadSigns
  exact ⟨_, fd, _, oexB_ok T.xo_BadSigns, He.eqO_ok h1, of_decide_eq_true h2, ok_xBadSigns F T, b_xBadSigns T F, T.g_BadSigns⟩
theorem ok_xBadRow {f : Addr} {fd : FuncData} (F : FunD K "__init__" "BadRow.__init__" (defArgs s_xBadRow) (defBody s_xBadRow) (defScope s_xBadRow) [] [] f fd) (T : Tx K mg) : FnOk P w K mg base CX0 1 f fd ["self", "at"] (spXI (a_BadRow K) ["at"]) := by
  refine F.ok sc_xBadRow (fun vs H Q E h => ?_) (fun cdv A outer s H vs Q E hr h => ?_)
  · obtain ⟨a, ys, rfl, l, _⟩ := h
    exact congrArg Nat.succ l
  · obtain ⟨a, ys, rfl, l, ha, k⟩ := h
    match ys, l, k with
    | [y], _, k =>
      refine ⟨_, PSs.nox (pss_one (ps_ost (pv 0) (pv 1))), ?_⟩
      refine ⟨y, rfl, _, rfl, a, a_BadRow K, rfl, oexB_ok T.xo_BadRow, (fldXB_ok T.xf_at "BadRow" (by decide)).2, .inl ⟨ha, fun dx hdx ne => ?_⟩⟩
      exact k dx _ hdx ne upd_same (by rw [upd_ne ne, upd_same]; rfl) fun b h1 h2 => by rw [upd_ne h1, upd_ne h2]
theorem xc_BadRow (T : Tx K mg) : XcX P w K mg base 1 "BadRow" (a_BadRow K) ["at"] := by
  obtain ⟨fd, F⟩ := T.d_xBadRow
  obtain ⟨h1, h2⟩ := Bool.and_eq_true_iff.mp T.xi_BadRow
  exact ⟨_, fd, _, oexB_ok T.xo_BadRow, He.eqO_ok h1, of_decide_eq_true h2, ok_xBadRow F T, b_xBadRow T F, T.g_BadRow⟩
theorem ok_xBadRule {f : Addr} {fd : FuncData} (F : FunD K "__init__" "BadRule.__init__" (defArgs s_xBadRule) (defBody s_xBadRule) (defScope s_xBadRule) [] [] f fd) (T : Tx K mg) : FnOk P w K mg base CX0 1 f fd ["self", "part"] (spXI (a_BadRule K) ["part"]) := by
  refine F.ok sc_xBadRule (fun vs H Q E h => ?_) (fun cdv A outer s H vs Q E hr h => ?_)
  · obtain ⟨a, ys, rfl, l, _⟩ := h
    exact congrArg Nat.succ l
  · obtain ⟨a, ys, rfl, l, ha, k⟩ := h
    match ys, l, k with
    | [y], _, k =>
      refine ⟨_, PSs.nox (pss_one (ps_ost (pv 0) (pv 1))), ?_⟩
      refine ⟨y, rfl, _, rfl, a, a_BadRule K, rfl, oexB_ok T.xo_BadRule, (fldXB_ok T.xf_part "BadRule" (by decide)).2, .inl ⟨ha, fun dx hdx ne => ?_⟩⟩
      exact k dx _ hdx ne upd_same (by rw [upd_ne ne, upd_same]; rfl) fun b h1 h2 => by rw [upd_ne h1, upd_ne h2]
theorem xc_BadRule (T : Tx K mg) : XcX P w K mg base 1 "BadRule" (a_BadRule K) ["part"] := by
  obtain ⟨fd, F⟩ := T.d_xBadRule
  obtain ⟨h1, h2⟩ := Bool.and_eq_true_iff.mp T.xi_BadRule
  exact ⟨_, fd, _, oexB_ok T.xo_BadRule, He.eqO_ok h1, of_decide_eq_true h2, ok_xBadRule F T, b_xBadRule T F, T.g_BadRule⟩
theorem ok_xBadBook {f : Addr} {fd : FuncData} (F : FunD K "__init__" "BadBook.__init__" (defArgs s_xBadBook) (defBody s_xBadBook) (defScope s_xBadBook) [] [] f fd) (T : Tx K mg) : FnOk P w K mg base CX0 1 f fd ["self", "at"] (spXI (a_BadBook K) ["at"]) := by
  refine F.ok sc_xBadBook (fun vs H Q E h => ?_) (fun cdv A outer s H vs Q E hr h => ?_)
  · obtain ⟨a, ys, rfl, l, _⟩ := h
    exact congrArg Nat.succ l
  · obtain ⟨a, ys, rfl, l, ha, k⟩ := h
    match ys, l, k with
    | [y], _, k =>
      refine ⟨_, PSs.nox (pss_one (ps_ost (pv 0) (pv 1))), ?_⟩
      refine ⟨y, rfl, _, rfl, a, a_BadBook K, rfl, oexB_ok T.xo_BadBook, (fldXB_ok T.xf_at "BadBook" (by decide)).2, .inl ⟨ha, fun dx hdx ne => ?_⟩⟩
      exact k dx _ hdx ne upd_same (by rw [upd_ne ne, upd_same]; rfl) fun b h1 h2 => by rw [upd_ne h1, upd_ne h2]
theorem xc_BadBook (T : Tx K mg) : XcX P w K mg base 1 "BadBook" (a_BadBook K) ["at"] := by
  obtain ⟨fd, F⟩ := T.d_xBadBook
  obtain ⟨h1, h2⟩ := Bool.and_eq_true_iff.mp T.xi_BadBook
  exact ⟨_, fd, _, oexB_ok T.xo_BadBook, He.eqO_ok h1, of_decide_eq_true h2, ok_xBadBook F T, b_xBadBook T F, T.g_BadBook⟩
theorem ok_xHeavier {f : Addr} {fd : FuncData} (F : FunD K "__init__" "Heavier.__init__" (defArgs s_xHeavier) (defBody s_xHeavier) (defScope s_xHeavier) [] [] f fd) (T : Tx K mg) : FnOk P w K mg base CX0 1 f fd ["self", "at"] (spXI (a_Heavier K) ["at"]) := by
  refine F.ok sc_xHeavier (fun vs H Q E h => ?_) (fun cdv A outer s H vs Q E hr h => ?_)
  · obtain ⟨a, ys, rfl, l, _⟩ := h
    exact congrArg Nat.succ l
  · obtain ⟨a, ys, rfl, l, ha, k⟩ := h
    match ys, l, k with
    | [y], _, k =>
      refine ⟨_, PSs.nox (pss_one (ps_ost (pv 0) (pv 1))), ?_⟩
      refine ⟨y, rfl, _, rfl, a, a_Heavier K, rfl, oexB_ok T.xo_Heavier, (fldXB_ok T.xf_at "Heavier" (by decide)).2, .inl ⟨ha, fun dx hdx ne => ?_⟩⟩
      exact k dx _ hdx ne upd_same (by rw [upd_ne ne, upd_same]; rfl) fun b h1 h2 => by rw [upd_ne h1, upd_ne h2]
theorem xc_Heavier (T : Tx K mg) : XcX P w K mg base 1 "Heavier" (a_Heavier K) ["at"] := by
  obtain ⟨fd, F⟩ := T.d_xHeavier
  obtain ⟨h1, h2⟩ := Bool.and_eq_true_iff.mp T.xi_Heavier
  exact ⟨_, fd, _, oexB_ok T.xo_Heavier, He.eqO_ok h1, of_decide_eq_true h2, ok_xHeavier F T, b_xHeavier T F, T.g_Heavier⟩
theorem ok_xUnlessened {f : Addr} {fd : FuncData} (F : FunD K "__init__" "Unlessened.__init__" (defArgs s_xUnlessened) (defBody s_xUnlessened) (defScope s_xUnlessened) [] [] f fd) (T : Tx K mg) : FnOk P w K mg base CX0 1 f fd ["self", "old", "new"] (spXI (a_Unlessened K) ["old", "new"]) := by
  refine F.ok sc_xUnlessened (fun vs H Q E h => ?_) (fun cdv A outer s H vs Q E hr h => ?_)
  · obtain ⟨a, ys, rfl, l, _⟩ := h
    exact congrArg Nat.succ l
  · obtain ⟨a, ys, rfl, l, ha, k⟩ := h
    match ys, l, k with
    | [y, y2], _, k =>
      refine ⟨_, PSs.nox (pss_cons (ps_ost (pv 0) (pv 1)) (pss_one (ps_ost (pv 0) (pv 2)))), ?_⟩
      refine ⟨y, rfl, _, rfl, a, a_Unlessened K, rfl, oexB_ok T.xo_Unlessened, (fldXB_ok T.xf_old "Unlessened" (by decide)).2, .inl ⟨ha, fun dx hdx ne => ?_⟩⟩
      refine ⟨y2, rfl, _, rfl, a, a_Unlessened K, rfl, oexB_ok T.xo_Unlessened, (fldXB_ok T.xf_new "Unlessened" (by decide)).2, .inr ⟨dx, _, upd_same, by rw [upd_ne ne, upd_same], (by show 1 ≤ 900; decide), ?_⟩⟩
      exact k dx _ hdx ne (by rw [upd_ne (Ne.symm ne), upd_same]) upd_same fun b h1 h2 => by rw [upd_ne h2, upd_ne h1, upd_ne h2]
theorem xc_Unlessened (T : Tx K mg) : XcX P w K mg base 1 "Unlessened" (a_Unlessened K) ["old", "new"] := by
  obtain ⟨fd, F⟩ := T.d_xUnlessened
  obtain ⟨h1, h2⟩ := Bool.and_eq_true_iff.mp T.xi_Unlessened
  exact ⟨_, fd, _, oexB_ok T.xo_Unlessened, He.eqO_ok h1, of_decide_eq_true h2, ok_xUnlessened F T, b_xUnlessened T F, T.g_Unlessened⟩
theorem ok_xBadMove {f : Addr} {fd : FuncData} (F : FunD K "__init__" "BadMove.__init__" (defArgs s_xBadMove) (defBody s_xBadMove) (defScope s_xBadMove) [] [] f fd) (T : Tx K mg) : FnOk P w K mg base CX0 1 f fd ["self", "part"] (spXI (a_BadMove K) ["part"]) := by
  refine F.ok sc_xBadMove (fun vs H Q E h => ?_) (fun cdv A outer s H vs Q E hr h => ?_)
  · obtain ⟨a, ys, rfl, l, _⟩ := h
    exact congrArg Nat.succ l
  · obtain ⟨a, ys, rfl, l, ha, k⟩ := h
    match ys, l, k with
    | [y], _, k =>
      refine ⟨_, PSs.nox (pss_one (ps_ost (pv 0) (pv 1))), ?_⟩
      refine ⟨y, rfl, _, rfl, a, a_BadMove K, rfl, oexB_ok T.xo_BadMove, (fldXB_ok T.xf_part "BadMove" (by decide)).2, .inl ⟨ha, fun dx hdx ne => ?_⟩⟩
      exact k dx _ hdx ne upd_same (by rw [upd_ne ne, upd_same]; rfl) fun b h1 h2 => by rw [upd_ne h1, upd_ne h2]
theorem xc_BadMove (T : Tx K mg) : XcX P w K mg base 1 "BadMove" (a_BadMove K) ["part"] := by
  obtain ⟨fd, F⟩ := T.d_xBadMove
  obtain ⟨h1, h2⟩ := Bool.and_eq_true_iff.mp T.xi_BadMove
  exact ⟨_, fd, _, oexB_ok T.xo_BadMove, He.eqO_ok h1, of_decide_eq_true h2, ok_xBadMove F T, b_xBadMove T F, T.g_BadMove⟩
theorem ok_xBadMachine {f : Addr} {fd : FuncData} (F : FunD K "__init__" "BadMachine.__init__" (defArgs s_xBadMachine) (defBody s_xBadMachine) (defScope s_xBadMachine) [] [] f fd) (T : Tx K mg) : FnOk P w K mg base CX0 1 f fd ["self", "part"] (spXI (a_BadMachine K) ["part"]) := by
  refine F.ok sc_xBadMachine (fun vs H Q E h => ?_) (fun cdv A outer s H vs Q E hr h => ?_)
  · obtain ⟨a, ys, rfl, l, _⟩ := h
    exact congrArg Nat.succ l
  · obtain ⟨a, ys, rfl, l, ha, k⟩ := h
    match ys, l, k with
    | [y], _, k =>
      refine ⟨_, PSs.nox (pss_one (ps_ost (pv 0) (pv 1))), ?_⟩
      refine ⟨y, rfl, _, rfl, a, a_BadMachine K, rfl, oexB_ok T.xo_BadMachine, (fldXB_ok T.xf_part "BadMachine" (by decide)).2, .inl ⟨ha, fun dx hdx ne => ?_⟩⟩
      exact k dx _ hdx ne upd_same (by rw [upd_ne ne, upd_same]; rfl) fun b h1 h2 => by rw [upd_ne h1, upd_ne h2]
theorem xc_BadMachine (T : Tx K mg) : XcX P w K mg base 1 "BadMachine" (a_BadMachine K) ["part"] := by
  obtain ⟨fd, F⟩ := T.d_xBadMachine
  obtain ⟨h1, h2⟩ := Bool.and_eq_true_iff.mp T.xi_BadMachine
  exact ⟨_, fd, _, oexB_ok T.xo_BadMachine, He.eqO_ok h1, of_decide_eq_true h2, ok_xBadMachine F T, b_xBadMachine T F, T.g_BadMachine⟩
theorem ok_xBadGame {f : Addr} {fd : FuncData} (F : FunD K "__init__" "BadGame.__init__" (defArgs s_xBadGame) (defBody s_xBadGame) (defScope s_xBadGame) [] [] f fd) (T : Tx K mg) : FnOk P w K mg base CX0 1 f fd ["self", "part"] (spXI (a_BadGame K) ["part"]) := by
  refine F.ok sc_xBadGame (fun vs H Q E h => ?_) (fun cdv A outer s H vs Q E hr h => ?_)
  · obtain ⟨a, ys, rfl, l, _⟩ := h
    exact congrArg Nat.succ l
  · obtain ⟨a, ys, rfl, l, ha, k⟩ := h
    match ys, l, k with
    | [y], _, k =>
      refine ⟨_, PSs.nox (pss_one (ps_ost (pv 0) (pv 1))), ?_⟩
      refine ⟨y, rfl, _, rfl, a, a_BadGame K, rfl, oexB_ok T.xo_BadGame, (fldXB_ok T.xf_part "BadGame" (by decide)).2, .inl ⟨ha, fun dx hdx ne => ?_⟩⟩
      exact k dx _ hdx ne upd_same (by rw [upd_ne ne, upd_same]; rfl) fun b h1 h2 => by rw [upd_ne h1, upd_ne h2]
theorem xc_BadGame (T : Tx K mg) : XcX P w K mg base 1 "BadGame" (a_BadGame K) ["part"] := by
  obtain ⟨fd, F⟩ := T.d_xBadGame
  obtain ⟨h1, h2⟩ := Bool.and_eq_true_iff.mp T.xi_BadGame
  exact ⟨_, fd, _, oexB_ok T.xo_BadGame, He.eqO_ok h1, of_decide_eq_true h2, ok_xBadGame F T, b_xBadGame T F, T.g_BadGame⟩
theorem ok_xBadSeat {f : Addr} {fd : FuncData} (F : FunD K "__init__" "BadSeat.__init__" (defArgs s_xBadSeat) (defBody s_xBadSeat) (defScope s_xBadSeat) [] [] f fd) (T : Tx K mg) : FnOk P w K mg base CX0 1 f fd ["self", "seat"] (spXI (a_BadSeat K) ["seat"]) := by
  refine F.ok sc_xBadSeat (fun vs H Q E h => ?_) (fun cdv A outer s H vs Q E hr h => ?_)
  · obtain ⟨a, ys, rfl, l, _⟩ := h
    exact congrArg Nat.succ l
  · obtain ⟨a, ys, rfl, l, ha, k⟩ := h
    match ys, l, k with
    | [y], _, k =>
      refine ⟨_, PSs.nox (pss_one (ps_ost (pv 0) (pv 1))), ?_⟩
      refine ⟨y, rfl, _, rfl, a, a_BadSeat K, rfl, oexB_ok T.xo_BadSeat, (fldXB_ok T.xf_seat "BadSeat" (by decide)).2, .inl ⟨ha, fun dx hdx ne => ?_⟩⟩
      exact k dx _ hdx ne upd_same (by rw [upd_ne ne, upd_same]; rfl) fun b h1 h2 => by rw [upd_ne h1, upd_ne h2]
theorem xc_BadSeat (T : Tx K mg) : XcX P w K mg base 1 "BadSeat" (a_BadSeat K) ["seat"] := by
  obtain ⟨fd, F⟩ := T.d_xBadSeat
  obtain ⟨h1, h2⟩ := Bool.and_eq_true_iff.mp T.xi_BadSeat
  exact ⟨_, fd, _, oexB_ok T.xo_BadSeat, He.eqO_ok h1, of_decide_eq_true h2, ok_xBadSeat F T, b_xBadSeat T F, T.g_BadSeat⟩
theorem ok_xOtherSigns {f : Addr} {fd : FuncData} (F : FunD K "__init__" "OtherSigns.__init__" (defArgs s_xOtherSigns) (defBody s_xOtherSigns) (defScope s_xOtherSigns) [] [] f fd) (T : Tx K mg) : FnOk P w K mg base CX0 1 f fd ["self", "part"] (spXI (a_OtherSigns K) ["part"]) := by
  refine F.ok sc_xOtherSigns (fun vs H Q E h => ?_) (fun cdv A outer s H vs Q E hr h => ?_)
  · obtain ⟨a, ys, rfl, l, _⟩ := h
    exact congrArg Nat.succ l
  · obtain ⟨a, ys, rfl, l, ha, k⟩ := h
    match ys, l, k with
    | [y], _, k =>
      refine ⟨_, PSs.nox (pss_one (ps_ost (pv 0) (pv 1))), ?_⟩
      refine ⟨y, rfl, _, rfl, a, a_OtherSigns K, rfl, oexB_ok T.xo_OtherSigns, (fldXB_ok T.xf_part "OtherSigns" (by decide)).2, .inl ⟨ha, fun dx hdx ne => ?_⟩⟩
      exact k dx _ hdx ne upd_same (by rw [upd_ne ne, upd_same]; rfl) fun b h1 h2 => by rw [upd_ne h1, upd_ne h2]
theorem xc_OtherSigns (T : Tx K mg) : XcX P w K mg base 1 "OtherSigns" (a_OtherSigns K) ["part"] := by
  obtain ⟨fd, F⟩ := T.d_xOtherSigns
  obtain ⟨h1, h2⟩ := Bool.and_eq_true_iff.mp T.xi_OtherSigns
  exact ⟨_, fd, _, oexB_ok T.xo_OtherSigns, He.eqO_ok h1, of_decide_eq_true h2, ok_xOtherSigns F T, b_xOtherSigns T F, T.g_OtherSigns⟩
theorem ok_xBadNumber {f : Addr} {fd : FuncData} (F : FunD K "__init__" "BadNumber.__init__" (defArgs s_xBadNumber) (defBody s_xBadNumber) (defScope s_xBadNumber) [] [] f fd) (T : Tx K mg) : FnOk P w K mg base CX0 1 f fd ["self", "part"] (spXI (a_BadNumber K) ["part"]) := by
  refine F.ok sc_xBadNumber (fun vs H Q E h => ?_) (fun cdv A outer s H vs Q E hr h => ?_)
  · obtain ⟨a, ys, rfl, l, _⟩ := h
    exact congrArg Nat.succ l
  · obtain ⟨a, ys, rfl, l, ha, k⟩ := h
    match ys, l, k with
    | [y], _, k =>
      refine ⟨_, PSs.nox (pss_one (ps_ost (pv 0) (pv 1))), ?_⟩
      refine ⟨y, rfl, _, rfl, a, a_BadNumber K, rfl, oexB_ok T.xo_BadNumber, (fldXB_ok T.xf_part "BadNumber" (by decide)).2, .inl ⟨ha, fun dx hdx ne => ?_⟩⟩
      exact k dx _ hdx ne upd_same (by rw [upd_ne ne, upd_same]; rfl) fun b h1 h2 => by rw [upd_ne h1, upd_ne h2]
theorem xc_BadNumber (T : Tx K mg) : XcX P w K mg base 1 "BadNumber" (a_BadNumber K) ["part"] := by
  obtain ⟨fd, F⟩ := T.d_xBadNumber
  obtain ⟨h1, h2⟩ := Bool.and_eq_true_iff.mp T.xi_BadNumber
  exact ⟨_, fd, _, oexB_ok T.xo_BadNumber, He.eqO_ok h1, of_decide_eq_true h2, ok_xBadNumber F T, b_xBadNumber T F, T.g_BadNumber⟩
theorem ok_xBadText {f : Addr} {fd : FuncData} (F : FunD K "__init__" "BadText.__init__" (defArgs s_xBadText) (defBody s_xBadText) (defScope s_xBadText) [] [] f fd) (T : Tx K mg) : FnOk P w K mg base CX0 1 f fd ["self", "line", "word"] (spXI (a_BadText K) ["line", "word"]) := by
  refine F.ok sc_xBadText (fun vs H Q E h => ?_) (fun cdv A outer s H vs Q E hr h => ?_)
  · obtain ⟨a, ys, rfl, l, _⟩ := h
    exact congrArg Nat.succ l
  · obtain ⟨a, ys, rfl, l, ha, k⟩ := h
    match ys, l, k with
    | [y, y2], _, k =>
      refine ⟨_, PSs.nox (pss_cons (ps_ost (pv 0) (pv 1)) (pss_one (ps_ost (pv 0) (pv 2)))), ?_⟩
      refine ⟨y, rfl, _, rfl, a, a_BadText K, rfl, oexB_ok T.xo_BadText, (fldXB_ok T.xf_line "BadText" (by decide)).2, .inl ⟨ha, fun dx hdx ne => ?_⟩⟩
      refine ⟨y2, rfl, _, rfl, a, a_BadText K, rfl, oexB_ok T.xo_BadText, (fldXB_ok T.xf_word "BadText" (by decide)).2, .inr ⟨dx, _, upd_same, by rw [upd_ne ne, upd_same], (by show 1 ≤ 900; decide), ?_⟩⟩
      exact k dx _ hdx ne (by rw [upd_ne (Ne.symm ne), upd_same]) upd_same fun b h1 h2 => by rw [upd_ne h2, upd_ne h1, upd_ne h2]
theorem xc_BadText (T : Tx K mg) : XcX P w K mg base 1 "BadText" (a_BadText K) ["line", "word"] := by
  obtain ⟨fd, F⟩ := T.d_xBadText
  obtain ⟨h1, h2⟩ := Bool.and_eq_true_iff.mp T.xi_BadText
  exact ⟨_, fd, _, oexB_ok T.xo_BadText, He.eqO_ok h1, of_decide_eq_true h2, ok_xBadText F T, b_xBadText T F, T.g_BadText⟩
theorem ok_xBadLine {f : Addr} {fd : FuncData} (F : FunD K "__init__" "BadLine.__init__" (defArgs s_xBadLine) (defBody s_xBadLine) (defScope s_xBadLine) [] [] f fd) (T : Tx K mg) : FnOk P w K mg base CX0 1 f fd ["self", "word"] (spXI (a_BadLine K) ["word"]) := by
  refine F.ok sc_xBadLine (fun vs H Q E h => ?_) (fun cdv A outer s H vs Q E hr h => ?_)
  · obtain ⟨a, ys, rfl, l, _⟩ := h
    exact congrArg Nat.succ l
  · obtain ⟨a, ys, rfl, l, ha, k⟩ := h
    match ys, l, k with
    | [y], _, k =>
      refine ⟨_, PSs.nox (pss_one (ps_ost (pv 0) (pv 1))), ?_⟩
      refine ⟨y, rfl, _, rfl, a, a_BadLine K, rfl, oexB_ok T.xo_BadLine, (fldXB_ok T.xf_word "BadLine" (by decide)).2, .inl ⟨ha, fun dx hdx ne => ?_⟩⟩
      exact k dx _ hdx ne upd_same (by rw [upd_ne ne, upd_same]; rfl) fun b h1 h2 => by rw [upd_ne h1, upd_ne h2]
theorem xc_BadLine (T : Tx K mg) : XcX P w K mg base 1 "BadLine" (a_BadLine K) ["word"] := by
  obtain ⟨fd, F⟩ := T.d_xBadLine
  obtain ⟨h1, h2⟩ := Bool.and_eq_true_iff.mp T.xi_BadLine
  exact ⟨_, fd, _, oexB_ok T.xo_BadLine, He.eqO_ok h1, of_decide_eq_true h2, ok_xBadLine F T, b_xBadLine T F, T.g_BadLine⟩
theorem ok_xTooMany {f : Addr} {fd : FuncData} (F : FunD K "__init__" "TooMany.__init__" (defArgs s_xTooMany) (defBody s_xTooMany) (defScope s_xTooMany) [] [] f fd) (T : Tx K mg) : FnOk P w K mg base CX0 1 f fd ["self", "what", "most"] (spXI (a_TooMany K) ["what", "most"]) := by
  refine F.ok sc_xTooMany (fun vs H Q E h => ?_) (fun cdv A outer s H vs Q E hr h => ?_)
  · obtain ⟨a, ys, rfl, l, _⟩ := h
    exact congrArg Nat.succ l
  · obtain ⟨a, ys, rfl, l, ha, k⟩ := h
    match ys, l, k with
    | [y, y2], _, k =>
      refine ⟨_, PSs.nox (pss_cons (ps_ost (pv 0) (pv 1)) (pss_one (ps_ost (pv 0) (pv 2)))), ?_⟩
      refine ⟨y, rfl, _, rfl, a, a_TooMany K, rfl, oexB_ok T.xo_TooMany, (fldXB_ok T.xf_what "TooMany" (by decide)).2, .inl ⟨ha, fun dx hdx ne => ?_⟩⟩
      refine ⟨y2, rfl, _, rfl, a, a_TooMany K, rfl, oexB_ok T.xo_TooMany, (fldXB_ok T.xf_most "TooMany" (by decide)).2, .inr ⟨dx, _, upd_same, by rw [upd_ne ne, upd_same], (by show 1 ≤ 900; decide), ?_⟩⟩
      exact k dx _ hdx ne (by rw [upd_ne (Ne.symm ne), upd_same]) upd_same fun b h1 h2 => by rw [upd_ne h2, upd_ne h1, upd_ne h2]
theorem xc_TooMany (T : Tx K mg) : XcX P w K mg base 1 "TooMany" (a_TooMany K) ["what", "most"] := by
  obtain ⟨fd, F⟩ := T.d_xTooMany
  obtain ⟨h1, h2⟩ := Bool.and_eq_true_iff.mp T.xi_TooMany
  exact ⟨_, fd, _, oexB_ok T.xo_TooMany, He.eqO_ok h1, of_decide_eq_true h2, ok_xTooMany F T, b_xTooMany T F, T.g_TooMany⟩
theorem ok_xNoMove {f : Addr} {fd : FuncData} (F : FunD K "__init__" "NoMove.__init__" (defArgs s_xNoMove) (defBody s_xNoMove) (defScope s_xNoMove) [] [] f fd) (T : Tx K mg) : FnOk P w K mg base CX0 1 f fd ["self", "row"] (spXI (a_NoMove K) ["row"]) := by
  refine F.ok sc_xNoMove (fun vs H Q E h => ?_) (fun cdv A outer s H vs Q E hr h => ?_)
  · obtain ⟨a, ys, rfl, l, _⟩ := h
    exact congrArg Nat.succ l
  · obtain ⟨a, ys, rfl, l, ha, k⟩ := h
    match ys, l, k with
    | [y], _, k =>
      refine ⟨_, PSs.nox (pss_one (ps_ost (pv 0) (pv 1))), ?_⟩
      refine ⟨y, rfl, _, rfl, a, a_NoMove K, rfl, oexB_ok T.xo_NoMove, (fldXB_ok T.xf_row "NoMove" (by decide)).2, .inl ⟨ha, fun dx hdx ne => ?_⟩⟩
      exact k dx _ hdx ne upd_same (by rw [upd_ne ne, upd_same]; rfl) fun b h1 h2 => by rw [upd_ne h1, upd_ne h2]
theorem xc_NoMove (T : Tx K mg) : XcX P w K mg base 1 "NoMove" (a_NoMove K) ["row"] := by
  obtain ⟨fd, F⟩ := T.d_xNoMove
  obtain ⟨h1, h2⟩ := Bool.and_eq_true_iff.mp T.xi_NoMove
  exact ⟨_, fd, _, oexB_ok T.xo_NoMove, He.eqO_ok h1, of_decide_eq_true h2, ok_xNoMove F T, b_xNoMove T F, T.g_NoMove⟩
theorem ok_xNotWon {f : Addr} {fd : FuncData} (F : FunD K "__init__" "NotWon.__init__" (defArgs s_xNotWon) (defBody s_xNotWon) (defScope s_xNotWon) [] [] f fd) (T : Tx K mg) : FnOk P w K mg base CX0 1 f fd ["self", "row"] (spXI (a_NotWon K) ["row"]) := by
  refine F.ok sc_xNotWon (fun vs H Q E h => ?_) (fun cdv A outer s H vs Q E hr h => ?_)
  · obtain ⟨a, ys, rfl, l, _⟩ := h
    exact congrArg Nat.succ l
  · obtain ⟨a, ys, rfl, l, ha, k⟩ := h
    match ys, l, k with
    | [y], _, k =>
      refine ⟨_, PSs.nox (pss_one (ps_ost (pv 0) (pv 1))), ?_⟩
      refine ⟨y, rfl, _, rfl, a, a_NotWon K, rfl, oexB_ok T.xo_NotWon, (fldXB_ok T.xf_row "NotWon" (by decide)).2, .inl ⟨ha, fun dx hdx ne => ?_⟩⟩
      exact k dx _ hdx ne upd_same (by rw [upd_ne ne, upd_same]; rfl) fun b h1 h2 => by rw [upd_ne h1, upd_ne h2]
theorem xc_NotWon (T : Tx K mg) : XcX P w K mg base 1 "NotWon" (a_NotWon K) ["row"] := by
  obtain ⟨fd, F⟩ := T.d_xNotWon
  obtain ⟨h1, h2⟩ := Bool.and_eq_true_iff.mp T.xi_NotWon
  exact ⟨_, fd, _, oexB_ok T.xo_NotWon, He.eqO_ok h1, of_decide_eq_true h2, ok_xNotWon F T, b_xNotWon T F, T.g_NotWon⟩
theorem ok_xNotRight {f : Addr} {fd : FuncData} (F : FunD K "__init__" "NotRight.__init__" (defArgs s_xNotRight) (defBody s_xNotRight) (defScope s_xNotRight) [] [] f fd) (T : Tx K mg) : FnOk P w K mg base CX0 1 f fd ["self", "row", "seat"] (spXI (a_NotRight K) ["row", "seat"]) := by
  refine F.ok sc_xNotRight (fun vs H Q E h => ?_) (fun cdv A outer s H vs Q E hr h => ?_)
  · obtain ⟨a, ys, rfl, l, _⟩ := h
    exact congrArg Nat.succ l
  · obtain ⟨a, ys, rfl, l, ha, k⟩ := h
    match ys, l, k with
    | [y, y2], _, k =>
      refine ⟨_, PSs.nox (pss_cons (ps_ost (pv 0) (pv 1)) (pss_one (ps_ost (pv 0) (pv 2)))), ?_⟩
      refine ⟨y, rfl, _, rfl, a, a_NotRight K, rfl, oexB_ok T.xo_NotRight, (fldXB_ok T.xf_row "NotRight" (by decide)).2, .inl ⟨ha, fun dx hdx ne => ?_⟩⟩
      refine ⟨y2, rfl, _, rfl, a, a_NotRight K, rfl, oexB_ok T.xo_NotRight, (fldXB_ok T.xf_seat "NotRight" (by decide)).2, .inr ⟨dx, _, upd_same, by rw [upd_ne ne, upd_same], (by show 1 ≤ 900; decide), ?_⟩⟩
      exact k dx _ hdx ne (by rw [upd_ne (Ne.symm ne), upd_same]) upd_same fun b h1 h2 => by rw [upd_ne h2, upd_ne h1, upd_ne h2]
theorem xc_NotRight (T : Tx K mg) : XcX P w K mg base 1 "NotRight" (a_NotRight K) ["row", "seat"] := by
  obtain ⟨fd, F⟩ := T.d_xNotRight
  obtain ⟨h1, h2⟩ := Bool.and_eq_true_iff.mp T.xi_NotRight
  exact ⟨_, fd, _, oexB_ok T.xo_NotRight, He.eqO_ok h1, of_decide_eq_true h2, ok_xNotRight F T, b_xNotRight T F, T.g_NotRight⟩
theorem ok_xNotKept {f : Addr} {fd : FuncData} (F : FunD K "__init__" "NotKept.__init__" (defArgs s_xNotKept) (defBody s_xNotKept) (defScope s_xNotKept) [] [] f fd) (T : Tx K mg) : FnOk P w K mg base CX0 1 f fd ["self", "row"] (spXI (a_NotKept K) ["row"]) := by
  refine F.ok sc_xNotKept (fun vs H Q E h => ?_) (fun cdv A outer s H vs Q E hr h => ?_)
  · obtain ⟨a, ys, rfl, l, _⟩ := h
    exact congrArg Nat.succ l
  · obtain ⟨a, ys, rfl, l, ha, k⟩ := h
    match ys, l, k with
    | [y], _, k =>
      refine ⟨_, PSs.nox (pss_one (ps_ost (pv 0) (pv 1))), ?_⟩
      refine ⟨y, rfl, _, rfl, a, a_NotKept K, rfl, oexB_ok T.xo_NotKept, (fldXB_ok T.xf_row "NotKept" (by decide)).2, .inl ⟨ha, fun dx hdx ne => ?_⟩⟩
      exact k dx _ hdx ne upd_same (by rw [upd_ne ne, upd_same]; rfl) fun b h1 h2 => by rw [upd_ne h1, upd_ne h2]
theorem xc_NotKept (T : Tx K mg) : XcX P w K mg base 1 "NotKept" (a_NotKept K) ["row"] := by
  obtain ⟨fd, F⟩ := T.d_xNotKept
  obtain ⟨h1, h2⟩ := Bool.and_eq_true_iff.mp T.xi_NotKept
  exact ⟨_, fd, _, oexB_ok T.xo_NotKept, He.eqO_ok h1, of_decide_eq_true h2, ok_xNotKept F T, b_xNotKept T F, T.g_NotKept⟩
theorem ok_xNotThere {f : Addr} {fd : FuncData} (F : FunD K "__init__" "NotThere.__init__" (defArgs s_xNotThere) (defBody s_xNotThere) (defScope s_xNotThere) [] [] f fd) (T : Tx K mg) : FnOk P w K mg base CX0 1 f fd ["self", "what"] (spXI (a_NotThere K) ["what"]) := by
  refine F.ok sc_xNotThere (fun vs H Q E h => ?_) (fun cdv A outer s H vs Q E hr h => ?_)
  · obtain ⟨a, ys, rfl, l, _⟩ := h
    exact congrArg Nat.succ l
  · obtain ⟨a, ys, rfl, l, ha, k⟩ := h
    match ys, l, k with
    | [y], _, k =>
      refine ⟨_, PSs.nox (pss_one (ps_ost (pv 0) (pv 1))), ?_⟩
      refine ⟨y, rfl, _, rfl, a, a_NotThere K, rfl, oexB_ok T.xo_NotThere, (fldXB_ok T.xf_what "NotThere" (by decide)).2, .inl ⟨ha, fun dx hdx ne => ?_⟩⟩
      exact k dx _ hdx ne upd_same (by rw [upd_ne ne, upd_same]; rfl) fun b h1 h2 => by rw [upd_ne h1, upd_ne h2]
theorem xc_NotThere (T : Tx K mg) : XcX P w K mg base 1 "NotThere" (a_NotThere K) ["what"] := by
  obtain ⟨fd, F⟩ := T.d_xNotThere
  obtain ⟨h1, h2⟩ := Bool.and_eq_true_iff.mp T.xi_NotThere
  exact ⟨_, fd, _, oexB_ok T.xo_NotThere, He.eqO_ok h1, of_decide_eq_true h2, ok_xNotThere F T, b_xNotThere T F, T.g_NotThere⟩
theorem xk_BadSigns_part (T : Tx K mg) : XcK P w K mg base 1 "BadSigns" (a_BadSigns K) ["part"] ["part"] false := by
  obtain ⟨fd, F⟩ := T.d_xBadSigns
  obtain ⟨h1, h2⟩ := Bool.and_eq_true_iff.mp T.xi_BadSigns
  exact ⟨_, fd, _, _, oexB_ok T.xo_BadSigns, He.eqO_ok h1, of_decide_eq_true h2, ok_xBadSigns F T, FunD.kbindsP (ps := ["self", "part"]) F 1 ["part"] (fun us ws => us ++ rvL false ws) (fun h1 h2 => h1.append (vals_rvL h2)) fun kV doc pm an cdv ct us ws l1 l2 => match us, l1, ws, l2 with | [_], _, [_], _ => rfl, T.g_BadSigns⟩
theorem xk_BadRule_part (T : Tx K mg) : XcK P w K mg base 1 "BadRule" (a_BadRule K) ["part"] ["part"] false := by
  obtain ⟨fd, F⟩ := T.d_xBadRule
  obtain ⟨h1, h2⟩ := Bool.and_eq_true_iff.mp T.xi_BadRule
  exact ⟨_, fd, _, _, oexB_ok T.xo_BadRule, He.eqO_ok h1, of_decide_eq_true h2, ok_xBadRule F T, FunD.kbindsP (ps := ["self", "part"]) F 1 ["part"] (fun us ws => us ++ rvL false ws) (fun h1 h2 => h1.append (vals_rvL h2)) fun kV doc pm an cdv ct us ws l1 l2 => match us, l1, ws, l2 with | [_], _, [_], _ => rfl, T.g_BadRule⟩
theorem xk_BadMove_part (T : Tx K mg) : XcK P w K mg base 1 "BadMove" (a_BadMove K) ["part"] ["part"] false := by
  obtain ⟨fd, F⟩ := T.d_xBadMove
  obtain ⟨h1, h2⟩ := Bool.and_eq_true_iff.mp T.xi_BadMove
  exact ⟨_, fd, _, _, oexB_ok T.xo_BadMove, He.eqO_ok h1, of_decide_eq_true h2, ok_xBadMove F T, FunD.kbindsP (ps := ["self", "part"]) F 1 ["part"] (fun us ws => us ++ rvL false ws) (fun h1 h2 => h1.append (vals_rvL h2)) fun kV doc pm an cdv ct us ws l1 l2 => match us, l1, ws, l2 with | [_], _, [_], _ => rfl, T.g_BadMove⟩
theorem xk_BadMachine_part (T : Tx K mg) : XcK P w K mg base 1 "BadMachine" (a_BadMachine K) ["part"] ["part"] false := by
  obtain ⟨fd, F⟩ := T.d_xBadMachine
  obtain ⟨h1, h2⟩ := Bool.and_eq_true_iff.mp T.xi_BadMachine
  exact ⟨_, fd, _, _, oexB_ok T.xo_BadMachine, He.eqO_ok h1, of_decide_eq_true h2, ok_xBadMachine F T, FunD.kbindsP (ps := ["self", "part"]) F 1 ["part"] (fun us ws => us ++ rvL false ws) (fun h1 h2 => h1.append (vals_rvL h2)) fun kV doc pm an cdv ct us ws l1 l2 => match us, l1, ws, l2 with | [_], _, [_], _ => rfl, T.g_BadMachine⟩
theorem xk_BadGame_part (T : Tx K mg) : XcK P w K mg base 1 "BadGame" (a_BadGame K) ["part"] ["part"] false := by
  obtain ⟨fd, F⟩ := T.d_xBadGame
  obtain ⟨h1, h2⟩ := Bool.and_eq_true_iff.mp T.xi_BadGame
  exact ⟨_, fd, _, _, oexB_ok T.xo_BadGame, He.eqO_ok h1, of_decide_eq_true h2, ok_xBadGame F T, FunD.kbindsP (ps := ["self", "part"]) F 1 ["part"] (fun us ws => us ++ rvL false ws) (fun h1 h2 => h1.append (vals_rvL h2)) fun kV doc pm an cdv ct us ws l1 l2 => match us, l1, ws, l2 with | [_], _, [_], _ => rfl, T.g_BadGame⟩
theorem xk_OtherSigns_part (T : Tx K mg) : XcK P w K mg base 1 "OtherSigns" (a_OtherSigns K) ["part"] ["part"] false := by
  obtain ⟨fd, F⟩ := T.d_xOtherSigns
  obtain ⟨h1, h2⟩ := Bool.and_eq_true_iff.mp T.xi_OtherSigns
  exact ⟨_, fd, _, _, oexB_ok T.xo_OtherSigns, He.eqO_ok h1, of_decide_eq_true h2, ok_xOtherSigns F T, FunD.kbindsP (ps := ["self", "part"]) F 1 ["part"] (fun us ws => us ++ rvL false ws) (fun h1 h2 => h1.append (vals_rvL h2)) fun kV doc pm an cdv ct us ws l1 l2 => match us, l1, ws, l2 with | [_], _, [_], _ => rfl, T.g_OtherSigns⟩
theorem xk_BadNumber_part (T : Tx K mg) : XcK P w K mg base 1 "BadNumber" (a_BadNumber K) ["part"] ["part"] false := by
  obtain ⟨fd, F⟩ := T.d_xBadNumber
  obtain ⟨h1, h2⟩ := Bool.and_eq_true_iff.mp T.xi_BadNumber
  exact ⟨_, fd, _, _, oexB_ok T.xo_BadNumber, He.eqO_ok h1, of_decide_eq_true h2, ok_xBadNumber F T, FunD.kbindsP (ps := ["self", "part"]) F 1 ["part"] (fun us ws => us ++ rvL false ws) (fun h1 h2 => h1.append (vals_rvL h2)) fun kV doc pm an cdv ct us ws l1 l2 => match us, l1, ws, l2 with | [_], _, [_], _ => rfl, T.g_BadNumber⟩
theorem xk_BadRow_at (T : Tx K mg) : XcK P w K mg base 1 "BadRow" (a_BadRow K) ["at"] ["at"] false := by
  obtain ⟨fd, F⟩ := T.d_xBadRow
  obtain ⟨h1, h2⟩ := Bool.and_eq_true_iff.mp T.xi_BadRow
  exact ⟨_, fd, _, _, oexB_ok T.xo_BadRow, He.eqO_ok h1, of_decide_eq_true h2, ok_xBadRow F T, FunD.kbindsP (ps := ["self", "at"]) F 1 ["at"] (fun us ws => us ++ rvL false ws) (fun h1 h2 => h1.append (vals_rvL h2)) fun kV doc pm an cdv ct us ws l1 l2 => match us, l1, ws, l2 with | [_], _, [_], _ => rfl, T.g_BadRow⟩
theorem xk_BadBook_at (T : Tx K mg) : XcK P w K mg base 1 "BadBook" (a_BadBook K) ["at"] ["at"] false := by
  obtain ⟨fd, F⟩ := T.d_xBadBook
  obtain ⟨h1, h2⟩ := Bool.and_eq_true_iff.mp T.xi_BadBook
  exact ⟨_, fd, _, _, oexB_ok T.xo_BadBook, He.eqO_ok h1, of_decide_eq_true h2, ok_xBadBook F T, FunD.kbindsP (ps := ["self", "at"]) F 1 ["at"] (fun us ws => us ++ rvL false ws) (fun h1 h2 => h1.append (vals_rvL h2)) fun kV doc pm an cdv ct us ws l1 l2 => match us, l1, ws, l2 with | [_], _, [_], _ => rfl, T.g_BadBook⟩
theorem xk_Heavier_at (T : Tx K mg) : XcK P w K mg base 1 "Heavier" (a_Heavier K) ["at"] ["at"] false := by
  obtain ⟨fd, F⟩ := T.d_xHeavier
  obtain ⟨h1, h2⟩ := Bool.and_eq_true_iff.mp T.xi_Heavier
  exact ⟨_, fd, _, _, oexB_ok T.xo_Heavier, He.eqO_ok h1, of_decide_eq_true h2, ok_xHeavier F T, FunD.kbindsP (ps := ["self", "at"]) F 1 ["at"] (fun us ws => us ++ rvL false ws) (fun h1 h2 => h1.append (vals_rvL h2)) fun kV doc pm an cdv ct us ws l1 l2 => match us, l1, ws, l2 with | [_], _, [_], _ => rfl, T.g_Heavier⟩
theorem xk_NoMove_row (T : Tx K mg) : XcK P w K mg base 1 "NoMove" (a_NoMove K) ["row"] ["row"] false := by
  obtain ⟨fd, F⟩ := T.d_xNoMove
  obtain ⟨h1, h2⟩ := Bool.and_eq_true_iff.mp T.xi_NoMove
  exact ⟨_, fd, _, _, oexB_ok T.xo_NoMove, He.eqO_ok h1, of_decide_eq_true h2, ok_xNoMove F T, FunD.kbindsP (ps := ["self", "row"]) F 1 ["row"] (fun us ws => us ++ rvL false ws) (fun h1 h2 => h1.append (vals_rvL h2)) fun kV doc pm an cdv ct us ws l1 l2 => match us, l1, ws, l2 with | [_], _, [_], _ => rfl, T.g_NoMove⟩
theorem xk_NotWon_row (T : Tx K mg) : XcK P w K mg base 1 "NotWon" (a_NotWon K) ["row"] ["row"] false := by
  obtain ⟨fd, F⟩ := T.d_xNotWon
  obtain ⟨h1, h2⟩ := Bool.and_eq_true_iff.mp T.xi_NotWon
  exact ⟨_, fd, _, _, oexB_ok T.xo_NotWon, He.eqO_ok h1, of_decide_eq_true h2, ok_xNotWon F T, FunD.kbindsP (ps := ["self", "row"]) F 1 ["row"] (fun us ws => us ++ rvL false ws) (fun h1 h2 => h1.append (vals_rvL h2)) fun kV doc pm an cdv ct us ws l1 l2 => match us, l1, ws, l2 with | [_], _, [_], _ => rfl, T.g_NotWon⟩
theorem xk_NotKept_row (T : Tx K mg) : XcK P w K mg base 1 "NotKept" (a_NotKept K) ["row"] ["row"] false := by
  obtain ⟨fd, F⟩ := T.d_xNotKept
  obtain ⟨h1, h2⟩ := Bool.and_eq_true_iff.mp T.xi_NotKept
  exact ⟨_, fd, _, _, oexB_ok T.xo_NotKept, He.eqO_ok h1, of_decide_eq_true h2, ok_xNotKept F T, FunD.kbindsP (ps := ["self", "row"]) F 1 ["row"] (fun us ws => us ++ rvL false ws) (fun h1 h2 => h1.append (vals_rvL h2)) fun kV doc pm an cdv ct us ws l1 l2 => match us, l1, ws, l2 with | [_], _, [_], _ => rfl, T.g_NotKept⟩
theorem xk_BadSeat_seat (T : Tx K mg) : XcK P w K mg base 1 "BadSeat" (a_BadSeat K) ["seat"] ["seat"] false := by
  obtain ⟨fd, F⟩ := T.d_xBadSeat
  obtain ⟨h1, h2⟩ := Bool.and_eq_true_iff.mp T.xi_BadSeat
  exact ⟨_, fd, _, _, oexB_ok T.xo_BadSeat, He.eqO_ok h1, of_decide_eq_true h2, ok_xBadSeat F T, FunD.kbindsP (ps := ["self", "seat"]) F 1 ["seat"] (fun us ws => us ++ rvL false ws) (fun h1 h2 => h1.append (vals_rvL h2)) fun kV doc pm an cdv ct us ws l1 l2 => match us, l1, ws, l2 with | [_], _, [_], _ => rfl, T.g_BadSeat⟩
theorem xk_NotThere_what (T : Tx K mg) : XcK P w K mg base 1 "NotThere" (a_NotThere K) ["what"] ["what"] false := by
  obtain ⟨fd, F⟩ := T.d_xNotThere
  obtain ⟨h1, h2⟩ := Bool.and_eq_true_iff.mp T.xi_NotThere
  exact ⟨_, fd, _, _, oexB_ok T.xo_NotThere, He.eqO_ok h1, of_decide_eq_true h2, ok_xNotThere F T, FunD.kbindsP (ps := ["self", "what"]) F 1 ["what"] (fun us ws => us ++ rvL false ws) (fun h1 h2 => h1.append (vals_rvL h2)) fun kV doc pm an cdv ct us ws l1 l2 => match us, l1, ws, l2 with | [_], _, [_], _ => rfl, T.g_NotThere⟩
theorem xk_NotRight_seat_row (T : Tx K mg) : XcK P w K mg base 1 "NotRight" (a_NotRight K) ["row", "seat"] ["seat", "row"] true := by
  obtain ⟨fd, F⟩ := T.d_xNotRight
  obtain ⟨h1, h2⟩ := Bool.and_eq_true_iff.mp T.xi_NotRight
  exact ⟨_, fd, _, _, oexB_ok T.xo_NotRight, He.eqO_ok h1, of_decide_eq_true h2, ok_xNotRight F T, FunD.kbindsP (ps := ["self", "row", "seat"]) F 1 ["seat", "row"] (fun us ws => us ++ rvL true ws) (fun h1 h2 => h1.append (vals_rvL h2)) fun kV doc pm an cdv ct us ws l1 l2 => match us, l1, ws, l2 with | [_], _, [_, _], _ => rfl, T.g_NotRight⟩
theorem xk_TooMany_most_what (T : Tx K mg) : XcK P w K mg base 1 "TooMany" (a_TooMany K) ["what", "most"] ["most", "what"] true := by
  obtain ⟨fd, F⟩ := T.d_xTooMany
  obtain ⟨h1, h2⟩ := Bool.and_eq_true_iff.mp T.xi_TooMany
  exact ⟨_, fd, _, _, oexB_ok T.xo_TooMany, He.eqO_ok h1, of_decide_eq_true h2, ok_xTooMany F T, FunD.kbindsP (ps := ["self", "what", "most"]) F 1 ["most", "what"] (fun us ws => us ++ rvL true ws) (fun h1 h2 => h1.append (vals_rvL h2)) fun kV doc pm an cdv ct us ws l1 l2 => match us, l1, ws, l2 with | [_], _, [_, _], _ => rfl, T.g_TooMany⟩
theorem xk_Unlessened_old_new (T : Tx K mg) : XcK P w K mg base 1 "Unlessened" (a_Unlessened K) ["old", "new"] ["old", "new"] false := by
  obtain ⟨fd, F⟩ := T.d_xUnlessened
  obtain ⟨h1, h2⟩ := Bool.and_eq_true_iff.mp T.xi_Unlessened
  exact ⟨_, fd, _, _, oexB_ok T.xo_Unlessened, He.eqO_ok h1, of_decide_eq_true h2, ok_xUnlessened F T, FunD.kbindsP (ps := ["self", "old", "new"]) F 1 ["old", "new"] (fun us ws => us ++ rvL false ws) (fun h1 h2 => h1.append (vals_rvL h2)) fun kV doc pm an cdv ct us ws l1 l2 => match us, l1, ws, l2 with | [_], _, [_, _], _ => rfl, T.g_Unlessened⟩
theorem xk_BadText_line_word (T : Tx K mg) : XcK P w K mg base 1 "BadText" (a_BadText K) ["line", "word"] ["line", "word"] false := by
  obtain ⟨fd, F⟩ := T.d_xBadText
  obtain ⟨h1, h2⟩ := Bool.and_eq_true_iff.mp T.xi_BadText
  exact ⟨_, fd, _, _, oexB_ok T.xo_BadText, He.eqO_ok h1, of_decide_eq_true h2, ok_xBadText F T, FunD.kbindsP (ps := ["self", "line", "word"]) F 1 ["line", "word"] (fun us ws => us ++ rvL false ws) (fun h1 h2 => h1.append (vals_rvL h2)) fun kV doc pm an cdv ct us ws l1 l2 => match us, l1, ws, l2 with | [_], _, [_, _], _ => rfl, T.g_BadText⟩
theorem xk_BadLine_word (T : Tx K mg) : XcK P w K mg base 1 "BadLine" (a_BadLine K) ["word"] ["word"] false := by
  obtain ⟨fd, F⟩ := T.d_xBadLine
  obtain ⟨h1, h2⟩ := Bool.and_eq_true_iff.mp T.xi_BadLine
  exact ⟨_, fd, _, _, oexB_ok T.xo_BadLine, He.eqO_ok h1, of_decide_eq_true h2, ok_xBadLine F T, FunD.kbindsP (ps := ["self", "word"]) F 1 ["word"] (fun us ws => us ++ rvL false ws) (fun h1 h2 => h1.append (vals_rvL h2)) fun kV doc pm an cdv ct us ws l1 l2 => match us, l1, ws, l2 with | [_], _, [_], _ => rfl, T.g_BadLine⟩
end

end Rg
namespace Rg
open PySem PySem.Spec PyProof.Rows L2
section
variable {P : Program} {w : World} {K : PySem.W.Frag} {mg : Str → Option Value} {base : Heap}
theorem canLay_ints : ∀ ns : List Int, PyData.canLayAll0 (ns.map PyData.int) = true
  | [] => rfl
  | n :: r => by
    show (true && PyData.canLayAll0 (r.map PyData.int)) = true
    rw [canLay_ints r] <;> rfl
theorem depth_ints : ∀ ns : List Int, PyData.depthAll (ns.map PyData.int) = 0
  | [] => rfl
  | n :: r => by
    show max 0 (PyData.depthAll (r.map PyData.int)) = 0
    rw [depth_ints r] <;> rfl
theorem shaped_ints (ns : List Int) : SeqAt.shaped (.list (ns.map PyData.int)) = true := by
  unfold SeqAt.shaped
  rw [Bool.and_eq_true]
  refine ⟨canLay_ints ns, decide_eq_true ?_⟩
  show PyData.depthAll (ns.map PyData.int) + 1 ≤ 64
  rw [depth_ints]
  decide
theorem mul_bd {a b A B : Int} (a0 : 0 ≤ a) (aA : a ≤ A) (b0 : 0 ≤ b) (bB : b ≤ B) : 0 ≤ a * b ∧ a * b ≤ A * B :=
  ⟨Int.mul_nonneg a0 b0, Int.le_trans (Int.mul_le_mul_of_nonneg_right aA b0) (Int.mul_le_mul_of_nonneg_left bB (Int.le_trans a0 aA))⟩
theorem ok_draw {f : Addr} {fd : FuncData} (F : FunD K "_law_draw" "_law_draw" (defArgs s_draw) (defBody s_draw) (defScope s_draw) [] [] f fd) (T : Tx K mg) : FnOk P w K mg base CX0 1 f fd ["_law_pen_here", "_law_many"] (spDraw K) := by
  refine F.ok sc_draw (fun vs H Q E h => ?_) (fun cdv A outer s H vs Q E hr h => ?_)
  · obtain ⟨D, p, m, n, rfl, _⟩ := h
    rfl
  · obtain ⟨D, p, m, n, rfl, sd, pn, hm1, hm2, k⟩ := h
    obtain ⟨out, q, ns, t, g, hp, hq, t0, tn⟩ := id pn
    refine ⟨_, PSs.nox (pss_cons (ps_if (pt_cmpR op_gt (pe_ix (ix_listK K) (pv 0) pe_int (fun _ _ => rfl)) pe_int (nomark _))
      (pss_cons (ps_set (i := 2) sc_draw.nd rfl (Or.inl rfl) (pe_op op_mod (pe_callTy call_int1 (by rfl) T.f_int (by decide +kernel) (pa_cons (pe_ix (ix_listK K) (pv 0) pe_int (fun _ _ => rfl)) pa_nil)) (pv 1)))
      (pss_cons (ps_asg (pe_op op_fdiv (pe_callTy call_int1 (by rfl) T.f_int (by decide +kernel) (pa_cons (pe_ix (ix_listK K) (pv 0) pe_int (fun _ _ => rfl)) pa_nil)) (pv 1)) (pg_sub (pv 0) pe_int set_list))
      (pss_one (ps_ret (pv 2))))) pss_nil)
      (pss_cons (ps_set (i := 3) sc_draw.nd rfl (Or.inl rfl) (pe_ix (ix_listK K) (pv 0) pe_int (fun _ _ => rfl)))
      (pss_cons (ps_asg (pe_op op_add (pv 3) pe_int) (pg_sub (pv 0) pe_int set_list))
      (pss_cons (ps_set (i := 4) sc_draw.nd rfl (Or.inl rfl) (pe_op op_add (pe_op op_mul pe_int (pv 3)) pe_int))
      (C8.pss_cut (ps_if (pt_cmpR (op_neDK K hr.units) (pe_ix (ix_listK K) (pv 0) pe_int (fun _ _ => rfl)) (pe_lst pa_nil) (nomark _))
      (pss_one (ps_set (i := 4) sc_draw.nd rfl (Or.inl rfl) (pe_ix (ix_listK K) (pe_ix (ix_listK K) (pv 0) pe_int (fun _ _ => rfl)) (pe_op op_mod (pe_callTy call_int1 (by rfl) T.f_int (by decide +kernel) (pa_cons (pv 3) pa_nil)) (pe_callB (call_len_seqK K) (by rfl) T.f_len (by decide +kernel) (pa_cons (pe_ix (ix_listK K) (pv 0) pe_int (fun _ _ => rfl)) pa_nil))) (fun _ _ => rfl)))) pss_nil)
      (C8.pss_cut (ps_if (PW.pt (pw_and (pt_cmpR op_lt (pv 3) (pe_callB (call_len_seqK K) (by rfl) T.f_len (by decide +kernel) (pa_cons (pe_ix (ix_listK K) (pv 0) pe_int (fun _ _ => rfl)) pa_nil)) (nomark _)) (pw_and1 (pt_cmpR op_ge (pe_callB call_abs (by rfl) T.f_abs (by decide +kernel) (pa_cons (pv 4) pa_nil)) (pe_op op_pow pe_int pe_int) (nomark _)))))
      (pss_cons (ps_set (i := 5) sc_draw.nd rfl (Or.inl rfl) (pe_op op_add (pe_op op_mul pe_int (pe_op op_sub (pe_callB call_abs (by rfl) T.f_abs (by decide +kernel) (pa_cons (pv 4) pa_nil)) (pe_op op_pow pe_int pe_int))) (pe_callTy call_int1 (by rfl) T.f_int (by decide +kernel) (pa_cons (pe_cmpR op_lt (pv 4) pe_int (nomark _)) pa_nil))))
      (pss_cons (ps_asg (pe_op op_fdiv (pe_callTy call_int1 (by rfl) T.f_int (by decide +kernel) (pa_cons (pv 5) pa_nil)) (pv 1)) (pg_sub (pv 0) pe_int set_list))
      (pss_one (ps_ret (pe_op op_mod (pe_callTy call_int1 (by rfl) T.f_int (by decide +kernel) (pa_cons (pv 5) pa_nil)) (pv 1)))))) pss_nil)
      (pss_cons (ps_set (i := 6) sc_draw.nd rfl (Or.inl rfl) (pe_op op_mod (pe_callTy call_int1 (by rfl) T.f_int (by decide +kernel) (pa_cons (pe_op op_pow (pe_op op_add (pe_op op_add (pe_op op_mod (pe_callTy call_int1 (by rfl) T.f_int (by decide +kernel) (pa_cons (pv 4) pa_nil)) pe_int) (pe_op op_mul pe_int (pv 3))) pe_int) pe_int) pa_nil)) pe_int))
      (pss_cons (ps_set (i := 6) sc_draw.nd rfl (Or.inl rfl) (pe_op op_mod (pe_callTy call_int1 (by rfl) T.f_int (by decide +kernel) (pa_cons (pe_op op_pow (pe_op op_add (pe_op op_add (pe_op op_mul (pv 6) (pe_op op_add (pe_op op_mul pe_int (pv 3)) pe_int)) (pe_op op_mul (pe_op op_mul pe_int (pv 3)) (pv 3))) pe_int) pe_int) pa_nil)) pe_int))
      (pss_one (ps_ret (pe_op op_mod (pe_op op_fdiv (pe_callTy call_int1 (by rfl) T.f_int (by decide +kernel) (pa_cons (pv 6) pa_nil)) pe_int) (pv 1)))))))))))), ?_⟩
    -- if pen[2] > 0
    refine ⟨_, rfl, p, _, _, _, rfl, rfl, SqL.of hp, rfl, _, _, rfl, rfl, _, rfl, ?_⟩
    refine ite2 (fun hg => ?_) (fun hg => ?_)
    · refine ⟨_, rfl, p, _, _, _, rfl, rfl, SqL.of hp, rfl, Or.inl ⟨_, rfl, _, rfl, _, _, rfl, rfl, (show (0 : Int) < m by omega), ?_⟩⟩
      refine ⟨_, rfl, p, _, _, _, rfl, rfl, SqL.of hp, rfl, Or.inl ⟨_, rfl, _, rfl, _, _, rfl, rfl, ⟨(show (0 : Int) < m by omega), (show m < 1073741824 by omega)⟩, _, rfl, p, _, _, _, rfl, rfl, hp, rfl, _, rfl, ?_⟩⟩
      refine k _ _ ((Step.refl sd).write (.inl rfl) out) ⟨out, q, ns, t, _, upd_same, hq, t0, by omega⟩ (Int.emod_nonneg _ (by omega)) (Int.emod_lt_of_pos _ (by omega))
    · -- at = pen[1]; pen[1] = at + 1; cell = ..
      refine ⟨_, rfl, p, _, _, _, rfl, rfl, SqL.of hp, rfl, ?_⟩
      refine ⟨_, rfl, _, _, rfl, rfl, _, rfl, p, _, _, _, rfl, rfl, hp, rfl, ?_⟩
      have hp1 : (upd H p (.lst [.ref q, .int (t + 1), .int g])) p = some (.lst [.ref q, .int (t + 1), .int g]) := upd_same
      have st1 : Step (· = p) D H D (upd H p (.lst [.ref q, .int (t + 1), .int g])) := (Step.refl sd).write (.inl rfl) out
      have hq1 : SqL K (upd H p (.lst [.ref q, .int (t + 1), .int g])) q (ns.map V.int) := st1.dh.seq hq
      refine ⟨_, rfl, _, _, rfl, rfl, Or.inl ⟨by decide, by decide⟩, _, _, rfl, rfl, ?_⟩
      refine ⟨fun σ' H' => ∃ (c : Int), σ' = [some (.ref p), some (.int m), none, some (.int t), some (.int c), none, none] ∧ Step (· = p) D H D H' ∧ H' p = some (.lst [.ref q, .int (t + 1), .int g]), ?_, ?_⟩
      · -- if pen[0] != []
        refine ⟨_, rfl, p, _, _, _, rfl, rfl, SqL.of hp1, rfl, (by decide), fun l hl => ?_⟩
        have st2 : Step (· = p) D H D (upd (upd H p (.lst [.ref q, .int (t + 1), .int g])) l (.lst [])) := st1.trans (Step.tmp st1.dh hl)
        have npl : p ≠ l := ne_of_none hp1 hl
        have hp2 : (upd (upd H p (.lst [.ref q, .int (t + 1), .int g])) l (.lst [])) p = some (.lst [.ref q, .int (t + 1), .int g]) := by rw [upd_ne npl]; exact hp1
        have hq2 := st2.dh.seq hq
        refine ⟨.list (ns.map PyData.int), .list [], .lst hq2 (dpAll_ints ns), .lst (SqL.of upd_same) .nil, shaped_ints ns, rfl, _, rfl, ?_⟩
        cases ns with
        | nil =>
          refine iteF ?_
          exact ⟨_, rfl, st2, hp2⟩
        | cons n0 nr =>
          refine iteT ?_
          have hlen : (0 : Int) < (((n0 :: nr).map V.int).length : Int) := by simp
          have hmod := Int.emod_nonneg t (show (((n0 :: nr).map V.int).length : Int) ≠ 0 by omega)
          have hlt := Int.emod_lt_of_pos t hlen
          obtain ⟨c, hc⟩ : ∃ c : Int, ((n0 :: nr).map V.int)[(t % (((n0 :: nr).map V.int).length : Int)).toNat]? = some (.int c) := by
            have hb : (t % (((n0 :: nr).map V.int).length : Int)).toNat < (n0 :: nr).length := by
              rw [List.length_map] at hmod hlt ⊢
              omega
            exact ⟨_, by rw [List.getElem?_map, List.getElem?_eq_getElem hb] <;> rfl⟩
          refine ⟨_, rfl, p, _, _, _, rfl, rfl, SqL.of hp2, rfl, _, rfl, Or.inl ⟨_, rfl, _, rfl, p, _, _, _, rfl, rfl, SqL.of hp2, rfl, q, _, rfl, .inl hq2, _, _, rfl, rfl, hlen, q, _, _, .int c, rfl, rfl, hq2, ?_, ?_⟩⟩
          · have e := atI_nat hc
            rw [Int.toNat_of_nonneg hmod] at e
            exact e
          · exact ⟨c, rfl, st2, hp2⟩
      · rintro σ' H' ⟨c, rfl, st, hpp⟩
        have hqq := st.dh.seq hq
        have pen' : ∀ (H2 : Hp) (g' : Int), Step (· = p) D H D H2 → H2 p = some (.lst [.ref q, .int (t + 1), .int g']) → PenAt K D H2 p n := fun H2 g' _ e => ⟨out, q, ns, t + 1, g', e, hq, by omega, by omega⟩
        -- if at < len(pen[0]) and abs(cell) >= 10 ** 18
        refine ⟨fun σ' H2 => σ' = [some (.ref p), some (.int m), none, some (.int t), some (.int c), none, none] ∧ H2 = H', ?_, ?_⟩
        · refine ⟨_, rfl, _, rfl, p, _, _, _, rfl, rfl, SqL.of hpp, rfl, q, _, rfl, .inl hqq, _, _, rfl, rfl, _, rfl, ?_⟩
          refine ite2 (fun h1 => ?_) (fun h1 => iteF ⟨rfl, rfl⟩)
          refine ⟨_, rfl, _, rfl, _, _, rfl, rfl, ⟨by decide, by decide, by decide⟩, _, _, rfl, rfl, _, rfl, ?_⟩
          refine ite2 (fun h2 => ?_) (fun h2 => ⟨rfl, rfl⟩)
          refine ⟨_, rfl, _, rfl, _, _, rfl, rfl, ⟨by decide, by decide, by decide⟩, _, _, rfl, rfl, _, _, rfl, rfl, Or.inl ⟨by decide, by decide⟩, _, rfl, _, _, rfl, rfl, Or.inr ⟨_, rfl, _, _, rfl, rfl, ?_⟩⟩
          refine ⟨_, rfl, Or.inl ⟨_, rfl, _, rfl, _, _, rfl, rfl, ⟨(show (0 : Int) < m by omega), (show m < 1073741824 by omega)⟩, _, rfl, p, _, _, _, rfl, rfl, hpp, rfl, ?_⟩⟩
          refine ⟨_, rfl, Or.inl ⟨_, rfl, _, rfl, _, _, rfl, rfl, (show (0 : Int) < m by omega), ?_⟩⟩
          have st3 := st.write (o := .lst [.ref q, .int (t + 1), .int ((2 * ((if c < 0 then -c else c) - 10 ^ 18) + if decide (c < 0) = true then 1 else 0) / m)]) (.inl rfl) out
          exact k _ _ st3 (pen' _ _ st3 upd_same) (Int.emod_nonneg _ (by omega)) (Int.emod_lt_of_pos _ (by omega))
        · rintro σ' H2 ⟨rfl, rfl⟩
          -- mixed = int((int(cell) % .. + .. * at + ..) ** 5) % ..
          refine ⟨_, rfl, Or.inl ⟨_, rfl, _, _, rfl, rfl, (by show (0 : Int) < _; decide), _, rfl, _, _, rfl, rfl, Or.inl ⟨by decide, by decide⟩, _, _, rfl, rfl, _, _, rfl, rfl, _, _, rfl, rfl, ⟨by decide, by decide, by omega⟩, Or.inl ⟨_, rfl, _, _, rfl, rfl, (by show (0 : Int) < _; decide), ?_⟩⟩⟩
          obtain ⟨x, hx⟩ : ∃ x : Int, x = (c % 2147483629 + 84713 * t + 29) ^ 3 % 2147483587 := ⟨_, rfl⟩
          have hx0 : 0 ≤ x := by rw [hx]; exact Int.emod_nonneg _ (by decide)
          have hx1 : x < 4294967296 := by rw [hx]; exact Int.lt_of_lt_of_le (Int.emod_lt_of_pos _ (by decide)) (by decide)
          have hy := mul_bd hx0 (Int.le_of_lt hx1) (show (0 : Int) ≤ 2 * t + 31 by omega) (show 2 * t + 31 ≤ 4000000 by omega)
          have hz := mul_bd (show (0 : Int) ≤ 65063 * t by omega) (show 65063 * t ≤ 100000 * 1000000 by omega) t0 (show t ≤ 1000000 by omega)
          refine ⟨_, rfl, _, rfl, _, _, rfl, rfl, Or.inl ⟨by decide, by decide⟩, _, _, rfl, rfl, _, _, rfl, rfl, Or.inr ⟨by omega, by omega⟩, _, rfl, _, _, rfl, rfl, Or.inl ⟨by decide, by decide⟩, _, rfl, _, _, rfl, rfl, Or.inr ⟨by omega, by omega⟩, _, _, rfl, rfl, _, _, rfl, rfl, _, _, rfl, rfl, ⟨by decide, by decide, ?_⟩, Or.inl ⟨_, rfl, _, _, rfl, rfl, (by show (0 : Int) < _; decide), ?_⟩⟩
          · show ((c % 2147483629 + 84713 * t + 29) ^ 3 % 2147483587 * (2 * t + 31) + 65063 * t * t + 7).natAbs < 2 ^ 64
            rw [← hx]
            omega
          refine ⟨_, rfl, Or.inl ⟨_, rfl, _, _, rfl, rfl, ⟨by decide, by decide⟩, _, rfl, _, _, rfl, rfl, (show (0 : Int) < m by omega), ?_⟩⟩
          exact k _ _ st (pen' _ _ st hpp) (Int.emod_nonneg _ (by omega)) (Int.emod_lt_of_pos _ (by omega))
end
end Rg
namespace Rg
open PySem PySem.Spec PyProof.Rows L2
section
variable {P : Program} {w : World} {K : PySem.W.Frag} {mg : Str → Option Value} {base : Heap}
theorem cut_ints (ns : List Int) (lo hi : Option Int) : ∃ ms : List Int, cutV (ns.map V.int) lo hi = ms.map V.int := by
  unfold cutV
  rw [← List.map_drop, ← List.map_take]
  exact ⟨_, rfl⟩
def spPen (K : PySem.W.Frag) : Sp := fun vs H Q _ => ∃ (a : Addr) (ns : List Int), vs = [.ref a] ∧ SqL K H a (ns.map V.int) ∧ ∀ (D' H' : Hp) (p : Addr), Step NoW H H D' H' → PenAt K D' H' p 900000 → Q (.ref p) H'
theorem ok_pen {f : Addr} {fd : FuncData} (F : FunD K "_law_pen" "_law_pen" (defArgs s_pen) (defBody s_pen) (defScope s_pen) [] [] f fd) (T : Tx K mg) : FnOk P w K mg base CX0 1 f fd ["_law_script"] (spPen K) := by
  refine F.ok sc_pen (fun vs H Q E h => ?_) (fun cdv A outer s H vs Q E hr h => ?_)
  · obtain ⟨a, ns, rfl, _⟩ := h
    rfl
  · obtain ⟨a, ns, rfl, hS, k⟩ := h
    refine ⟨_, PSs.nox (pss_one (ps_ret (pe_lst (pa_cons (pe_callTy (call_list_ofK K) (by rfl) T.f_list (by decide +kernel) (pa_cons (pe_slice (sl_listK K) (pv 0) po_none (po_some pe_int)) pa_nil)) (pa_cons pe_int (pa_cons pe_int pa_nil)))))), ?_⟩
    obtain ⟨ms, em⟩ := cut_ints ns none (some 63)
    refine ⟨_, rfl, _, rfl, a, _, rfl, hS, fun p1 h1 => ⟨p1, _, rfl, .inl (SqL.of upd_same), fun p2 h2 => ⟨(by show 3 ≤ sizeLine; decide), fun p3 h3 => ?_⟩⟩⟩
    rw [em] at h2 h3 ⊢
    have st1 : Step NoW H H H (upd H p1 (.lst (ms.map V.int))) := Step.tmp (Same.refl H) h1
    have st2 := st1.trans (Step.new (o := .lst (ms.map V.int)) st1.dh h2)
    have st3 := st2.trans (Step.tmp (o := .lst [.ref p2, .int 0, .int 0]) st2.dh h3)
    exact k _ _ p3 st3 ⟨st2.dh.free h3, p2, ms, 0, 0, upd_same, SqL.of upd_same, Int.le_refl 0, by decide⟩
theorem cPen (T : Tx K mg) : CalX P w K mg base CX0 1 "_law_pen" (spPen K) := c_pen T fun _ F => ok_pen F T
theorem atI_of {α : Type} {xs : List α} {i : Int} {v : α} (h0 : 0 ≤ i) (h : xs[i.toNat]? = some v) : atI xs i = some v := by
  have e := atI_nat h
  rw [Int.toNat_of_nonneg h0] at e
  exact e
theorem at_mem {α : Type} {xs : List α} {r : Int} (h0 : 0 ≤ r) (h1 : r < xs.length) : ∃ v, v ∈ xs ∧ atI xs r = some v := by
  have hl : r.toNat < xs.length := by omega
  exact ⟨xs[r.toNat], List.getElem_mem hl, atI_of h0 (List.getElem?_eq_getElem hl)⟩
theorem texts_sgn : ∀ cs : List Nat, textsOf (cs.map fun c => DV.str (sgn c)) = some (cs.map sgn)
  | [] => rfl
  | c :: cs => by
    show (textsOf (cs.map fun c => DV.str (sgn c))).map (sgn c :: ·) = _
    rw [texts_sgn cs]
    rfl
theorem big_okX {n : Nat} (h : n ≤ 1000000) : n ≤ sizeLine := Nat.le_trans h (by decide)
theorem cDrawD (T : Tx K mg) : CalX P w K mg base CX0 1 "_law_draw" (spP K fnDraw) := c_draw T fun _ F => (ok_draw F T).imp imp_draw
def fnPick : PFn := fun pn ds n Q _ => ∃ (p : Addr) (xs : List DV), pn = some p ∧ ds = [.raw (.ref p), .lst xs] ∧ 1 ≤ n ∧ 1 ≤ xs.length ∧ xs.length < 1000000 ∧ ∀ x ∈ xs, Q x (n - 1)
theorem ok_pickD {f : Addr} {fd : FuncData} (F : FunD K "_law_pick" "_law_pick" (defArgs s_pick) (defBody s_pick) (defScope s_pick) [] [] f fd) (T : Tx K mg) : FnOk P w K mg base CX0 2 f fd ["_law_pen_here", "_law_things"] (spP K fnPick) := by
  refine ok_p F sc_pick (fun pn ds n Q R h => ?_) fun cdv A outer s pn D H E ds n Qd R hr h => ?_
  · obtain ⟨p, xs, rfl, rfl, _⟩ := h
    rfl
  obtain ⟨p, xs, rfl, rfl, n1, l1, l2, hq⟩ := h
  refine ⟨_, DSs.nox (s_one (s_ret (d_ixV (pv 1) (d_call (cDrawD T) hr (by decide) (by rfl) pass0 (a_cons (d_var (pv 0)) (a_cons (d_lenV (by rfl) T.f_len (pv 1)) a_nil)))))), ?_⟩
  refine ⟨p, _, rfl, rfl, n1, by omega, by omega, fun r r0 r1 => ?_⟩
  obtain ⟨v, hv, ha⟩ := at_mem r0 r1
  show (match atI xs r with | some a => Qd a (n - 1) | none => False)
  rw [ha]
  exact hq v hv
theorem cPickD (T : Tx K mg) : CalX P w K mg base CX0 2 "_law_pick" (spP K fnPick) := c_pick T fun _ F => ok_pickD F T
end
end Rg
namespace Rg
open PySem PySem.Spec PyProof.Rows L2
section
variable {P : Program} {w : World} {K : PySem.W.Frag} {mg : Str → Option Value} {base : Heap}
theorem own_Weights (T : Tx K mg) : OwnTy K "Weights" := ⟨⟨T.cl_Weights, He.eqO_ok T.ca_Weights, He.eqO_ok T.cnB, of_decide_eq_true T.ctB, of_decide_eq_true T.ob_Weights⟩, of_decide_eq_true T.ki_Weights, T.kn_Weights⟩
theorem own_Rule (T : Tx K mg) : OwnTy K "Rule" := ⟨⟨T.cl_Rule, He.eqO_ok T.ca_Rule, He.eqO_ok T.cnB, of_decide_eq_true T.ctB, of_decide_eq_true T.ob_Rule⟩, of_decide_eq_true T.ki_Rule, T.kn_Rule⟩
def okC (C : Str) (d : DV) : Bool := isC C d || (tyName d).isSome
theorem oth_C {C : Str} (c : Cls K (He.ga K C)) (ca : He.eqO (PySem.W.findIn K (.ref (He.ga K C)) "__class__") (some (some (.builtin "object.__class__"))) = true) (cn : He.eqO (PySem.W.specialIn K (.builtin "object.__class__") "__get__") (some (some (.builtin "getset_descriptor.__get__"))) = true) (ct : decide (PySem.W.takesIn K (.builtin "object.__class__") = some true) = true) (ob : decide (PySem.W.mroIn K (He.ga K C) (.type "object") = some true) = true)
    (nf : PySem.W.notFirst K (He.ga K C) (.ref (He.ga K C)) = true) (nn : (tyNames.all fun n => PySem.W.notFirst K (He.ga K C) (.type n)) = true) : OthD K (He.ga K C) (okC C) := ⟨fun {D H v d} sd r h => by
  unfold okC at h
  cases e : isC C d with
  | true =>
    obtain ⟨a, dx, fs, rfl, h1⟩ := rv_isC0 r e
    exact ⟨_, .base (.ins (sd _ _ h1) c (He.eqO_ok ca) (He.eqO_ok cn) (of_decide_eq_true ct) (of_decide_eq_true ob)), nf⟩
  | false =>
    rw [e, Bool.false_or] at h
    obtain ⟨t, e1⟩ := Option.isSome_iff_exists.mp h
    exact ⟨.type t, rv_ty r sd e1, List.all_eq_true.mp nn t (tyName_in e1)⟩⟩
theorem oth_Rule (T : Tx K mg) : OthD K (a_Rule K) (okC "Rule") := oth_C T.cl_Rule T.ca_Rule T.cnB T.ctB T.ob_Rule T.nf_Rule T.nn_Rule
theorem getIn_W (T : Tx K mg) : ∀ f, Meth K (a_Weights K) "__getitem__" f → PySem.W.fnIn K f = true := fun f h => by
  have e := h.at_
  rw [T.m_wget.at_] at e
  cases e
  exact T.getIn_Weights
theorem me_W : (("Weights" : Str) ∈ (["Weights"] : List Str)) := List.mem_singleton.mpr rfl
theorem me_R : (("Rule" : Str) ∈ (["Rule"] : List Str)) := List.mem_singleton.mpr rfl
def pairD (p : Nat × Nat) : DV := .tup [.str (sgn p.1), .int (p.2 : Nat)]
structure GoodPairs (ps : List (Nat × Nat)) : Prop where
  pos : 1 ≤ ps.length
  few : ps.length ≤ 4
  let_ : ∀ p ∈ ps, p.1 ∈ letters
  wt : ∀ p ∈ ps, p.2 ≤ 9
  nd : (ps.map (·.1)).Nodup
def keyP (p : Nat × Nat) : Key × DV := (Sum.inr (sgn p.1), .int (p.2 : Nat))
def wtsD (ps : List (Nat × Nat)) : List DV := [.node (.dct (ps.map fun p => Sum.inr (sgn p.1))) (ps.map fun p => DV.int (p.2 : Nat)), .tup (ps.map pairD), .str (SX.S (ps.map (·.1)))]
def fnIsLetter : PFn := fun _ ds n Q _ => ∃ c : Nat, ds = [.str (sgn c)] ∧ Q (.bl (decide (c ∈ letters))) n
theorem ok_isLetterD {f : Addr} {fd : FuncData} (F : FunD K "is_letter" "is_letter" (defArgs s_isLetter) (defBody s_isLetter) (defScope s_isLetter) [] [] f fd) (T : Tx K mg) : FnOk P w K mg base CX0 1 f fd ["thing"] (spP K fnIsLetter) := by
  refine ok_p F sc_isLetter (fun pn ds n Q R h => ?_) fun cdv A outer s pn D H E ds n Qd R hr h => ?_
  · obtain ⟨c, rfl, _⟩ := h
    rfl
  obtain ⟨c, rfl, hq⟩ := h
  refine ⟨_, DSs.nox (s_one (s_ret (d_and (d_callB (c_isi T.xE T.xK) (by rfl) T.f_isinstance (by decide +kernel) (a_cons (d_var (pv 0)) (a_cons (d_fast (d := .raw (.ty "str")) (pe_bltn (v := .ty "str") (by rfl) T.f_str (by decide +kernel) rfl) (fun _ _ => .raw _)) a_nil))) (d_and (d_cmp (b_eq hr.units) (d_lenV (by rfl) T.f_len (pv 0)) d_int (nomark _)) (d_one (d_cmp (b_in (hu65 hr)) (d_var (pv 0)) (d_fast (C8.pe_gc (by rfl) T.g_LETTERS) (fun _ _ => .str _)) (by rfl))))))), ?_⟩
  refine ⟨true, ⟨"str", rfl, by decide +kernel⟩, (show 1 ≤ sizeLine by decide), c, rfl, ?_⟩
  rw [xor_f]
  exact hq
theorem cIsLetter (T : Tx K mg) : CalX P w K mg base CX0 1 "is_letter" (spP K fnIsLetter) := c_isLetter T fun _ F => ok_isLetterD F T
def fnIsInt : PFn := fun _ ds n Q _ => ∃ i lo hi : Int, ds = [.int i, .int lo, .int hi] ∧ Q (.bl (decide (lo ≤ i) && decide (i ≤ hi))) n
theorem ok_isInt {f : Addr} {fd : FuncData} (F : FunD K "is_integer" "is_integer" (defArgs s_isInt) (defBody s_isInt) (defScope s_isInt) [] [] f fd) (T : Tx K mg) : FnOk P w K mg base CX0 1 f fd ["thing", "low", "high"] (spP K fnIsInt) := by
  refine ok_p F sc_isInt (fun pn ds n Q R h => ?_) fun cdv A outer s pn D H E ds n Qd R hr h => ?_
  · obtain ⟨i, lo, hi, rfl, _⟩ := h
    rfl
  obtain ⟨i, lo, hi, rfl, hq⟩ := h
  refine ⟨_, DSs.nox (s_one (s_ret (d_and (d_callB (c_isi T.xE T.xK) (by rfl) T.f_isinstance (by decide +kernel) (a_cons (d_var (pv 0)) (a_cons (d_fast (d := .raw (.ty "int")) (pe_bltn (v := .ty "int") (by rfl) T.f_int (by decide +kernel) rfl) (fun _ _ => .raw _)) a_nil))) (d_and (d_not (d_callB (c_isi T.xE T.xK) (by rfl) T.f_isinstance (by decide +kernel) (a_cons (d_var (pv 0)) (a_cons (d_fast (d := .raw (.ty "bool")) (pe_bltn (v := .ty "bool") (by rfl) T.f_bool (by decide +kernel) rfl) (fun _ _ => .raw _)) a_nil)))) (d_one (d_chain b_le b_le (d_var (pv 1)) (d_var (pv 0)) (d_var (pv 2)))))))), ?_⟩
  refine ⟨true, ⟨"int", rfl, by decide +kernel⟩, false, ⟨"int", rfl, by decide +kernel⟩, ?_⟩
  show (match (DV.bl (decide (lo ≤ i))) with | DV.bl true => _ | DV.bl false => _ | _ => False)
  by_cases h1 : lo ≤ i
  · rw [decide_eq_true h1] at hq ⊢
    exact hq
  · rw [decide_eq_false h1] at hq ⊢
    exact hq
theorem cIsInt (T : Tx K mg) : CalX P w K mg base CX0 1 "is_integer" (spP K fnIsInt) := c_isInt T fun _ F => ok_isInt F T
def fsW : List Str := ["weight_by", "pairs", "signs"]
def fnWts : NFn := fun _ ds n Q _ => ∃ ps : List (Nat × Nat), ds = ps.map pairD ∧ GoodPairs ps ∧ Q (wtsD ps) n
theorem dput_new {k : Key} {d : DV} : ∀ {kvs : List (Key × DV)}, k ∉ kvs.map (·.1) → dput kvs k d = kvs ++ [(k, d)] := fun {kvs} h => by
  unfold dput
  rw [if_neg]
  intro z
  obtain ⟨x, hx, e⟩ := List.any_eq_true.mp z
  exact h (List.mem_map.mpr ⟨x, hx, of_decide_eq_true e⟩)
theorem ok_winit {f : Addr} {fd : FuncData} (F : FunD K "__init__" "Weights.__init__" (defArgs s_winit) (defBody s_winit) (defScope s_winit) [] [] f fd) (T : Tx K mg) : FnR P w K mg base (L2.CX P w) 4 f (spNew K "Weights" fsW fnWts) := by
  refine ok_newV F sc_winit StX.cxUp (fun kV doc pm an cdv ct us rest hl => match us, hl, rest with | [_], _, [] => rfl | [_], _, _ :: _ => rfl) (fun pn ds n Q R h => ?_) fun cdv A outer s pn D H E x dx ds n Qd R hr d0 h0 np h => ?_
  · obtain ⟨ps, rfl, g, _⟩ := h
    rw [List.length_map]
    exact Nat.le_trans g.few (by decide)
  obtain ⟨ps, rfl, g, hq⟩ := h
  refine ⟨_, (b_cons (s_if (t_not (t_chain b_le b_le d_int (d_lenV (by rfl) T.f_len (pv 1)) (d_fast (C8.pe_gc (by rfl) T.g_MOST_SIGNS) (fun _ _ => .int _))))
      (s_one (s_raise (xc_BadSigns T) (takes_of rfl rfl rfl rfl) hr (by decide) (by rfl) (a_cons d_str a_nil))) s_nil)
      (b_dict (G := ⟨K, pn, D, H, E, []⟩) (X := cxOf (L2.CX P w) P w K mg base ["self", "pairs", "at", "pair", "sign", "weight"] "Weights.__init__" (defScope s_winit) f cdv A outer s H E) rfl h0 d0 np T.cl_Weights T.n_Weights_weight_by (pv 0)
      (si_cons (si_for (G := ⟨K, pn, D, H, E, []⟩) (X := cxOf (L2.CX P w) P w K mg base ["self", "pairs", "at", "pair", "sign", "weight"] "Weights.__init__" (defScope s_winit) f cdv A outer s H E) (passes_of rfl) rfl (fun _ => (i_enum (by rfl) T.f_enumerate (d_var (pv 1)))) (fun _ => (g_tup (n := 2) rfl (gs_cons (g_name (pg_name (i := 2) sc_winit.nd rfl (Or.inl rfl))) (gs_cons (g_name (pg_name (i := 3) sc_winit.nd rfl (Or.inl rfl))) gs_nil)) (glN (glN gl0))))
      (si_cons (si_plain (G := ⟨K, pn, D, H, E, []⟩) (X := cxOf (L2.CX P w) P w K mg base ["self", "pairs", "at", "pair", "sign", "weight"] "Weights.__init__" (defScope s_winit) f cdv A outer s H E) fun W dx a ps qs lk hk => (s_if (DW.t (w_or (t_not (t_tru (d_callB (c_isi T.xE T.xK) (by rfl) T.f_isinstance (by decide +kernel) (a_cons (d_var (pv 3)) (a_cons (d_fast (d := .raw (.ty "tuple")) (pe_bltn (v := .ty "tuple") (by rfl) T.f_tuple (by decide +kernel) rfl) (fun _ _ => .raw _)) a_nil))))) (w_or (t_cmp (b_ne hr.units) (d_lenV (by rfl) T.f_len (pv 3)) d_int (nomark _)) (w_or1 (t_not (t_tru (d_call (cIsLetter T) hr (by decide) (by rfl) pass0 (a_cons (d_ixV (pv 3) d_int) a_nil))))))))
      (s_one (s_raise (xc_BadSigns T) (takes_of rfl rfl rfl rfl) hr (by decide) (by rfl) (a_cons (d_var (pv 2)) a_nil))) s_nil))
      (si_cons (si_plain (G := ⟨K, pn, D, H, E, []⟩) (X := cxOf (L2.CX P w) P w K mg base ["self", "pairs", "at", "pair", "sign", "weight"] "Weights.__init__" (defScope s_winit) f cdv A outer s H E) fun W dx a ps qs lk hk => (s_if (DW.t (w_or (t_not (t_tru (d_call (cIsInt T) hr (by decide) (by rfl) pass0 (a_cons (d_ixV (pv 3) d_int) (a_cons d_int (a_cons (d_fast (C8.pe_gc (by rfl) T.g_MOST_WEIGHT) (fun _ _ => .int _)) a_nil)))))) (w_or1 (t_inF (hu1 hr.units) T.cl_Weights T.n_Weights_weight_by lk hk (pv 0) (d_ixV (pv 3) d_int)))))
      (s_one (s_raise (xc_BadSigns T) (takes_of rfl rfl rfl rfl) hr (by decide) (by rfl) (a_cons (d_var (pv 2)) a_nil))) s_nil))
      (si_cons (si_put (G := ⟨K, pn, D, H, E, []⟩) (X := cxOf (L2.CX P w) P w K mg base ["self", "pairs", "at", "pair", "sign", "weight"] "Weights.__init__" (defScope s_winit) f cdv A outer s H E) (hu1 hr.units) T.cl_Weights T.n_Weights_weight_by (pv 0) (fun _ => (d_ixV (pv 3) d_int)) (fun _ => (d_ixV (pv 3) d_int)))
      si_nil))))
      (si_cons (si_store (G := ⟨K, pn, D, H, E, []⟩) (X := cxOf (L2.CX P w) P w K mg base ["self", "pairs", "at", "pair", "sign", "weight"] "Weights.__init__" (defScope s_winit) f cdv A outer s H E) T.cl_Weights T.n_Weights_pairs (pv 0) (fun _ => (d_var (pv 1))))
      (si_cons (si_store (G := ⟨K, pn, D, H, E, []⟩) (X := cxOf (L2.CX P w) P w K mg base ["self", "pairs", "at", "pair", "sign", "weight"] "Weights.__init__" (defScope s_winit) f cdv A outer s H E) T.cl_Weights T.n_Weights_signs (pv 0) (fun _ => (d_join d_str (DF.de (f_lc (own := [("sign", 4), ("weight", 5)]) (by rfl) sc_winit.nd (i_any (d_var (pv 1))) (blkOk_by (by kernel_rfl)) (fun _ _ _ _ _ => (g_tup (n := 2) rfl (gs_cons (g_name (pg_name (i := 4) sc_winit.nd rfl (Or.inl rfl))) (gs_cons (g_name (pg_name (i := 5) sc_winit.nd rfl (Or.inl rfl))) gs_nil)) (glN (glN gl0)))) (by decide) (fun _ _ _ _ _ => pts_nil) simT_yes (fun _ _ _ _ _ => (d_var (pv 4))))))))
      si_nil))))), ?_⟩
  have g1 := g.pos
  have g2 := g.few
  have ll : (ps.map pairD).length = ps.length := List.length_map _
  show (match (DV.bl (decide ((1 : Int) ≤ (((ps.map pairD).length : Nat) : Int)))) with | DV.bl true => _ | DV.bl false => _ | _ => False)
  rw [decide_eq_true (show (1 : Int) ≤ (((ps.map pairD).length : Nat) : Int) by omega)]
  show (if (!(decide ((((ps.map pairD).length : Nat) : Int) ≤ 4))) = true then _ else _)
  rw [decide_eq_true (show (((ps.map pairD).length : Nat) : Int) ≤ 4 by omega)]
  refine ite_F rfl ?_
  refine ⟨rfl, fun fr0 => ?_⟩
  refine ⟨fun i ρ W => ∃ (v2 v3 : Option SV), ρ = ⟨[some (.val (.raw (.ref x))), some (.val (.tup (ps.map pairD))), v2, v3, none, none], n⟩ ∧ W = ⟨[("weight_by", none)], (ps.take i).map keyP⟩, ⟨none, none, rfl, rfl⟩, ?_, ?_⟩
  · rintro i d ρ2 W2 hd ⟨v2, v3, rfl, rfl⟩ fr
    have hi := (List.getElem?_eq_some_iff.mp hd).1
    rw [enumD_len, ll] at hi
    have hp : (ps.map pairD)[i]? = some (pairD ps[i]) := by rw [List.getElem?_map, List.getElem?_eq_getElem hi]; rfl
    rw [enumD_at hp] at hd
    cases hd
    have hm := List.getElem_mem hi
    have hl := g.let_ _ hm
    have hw := g.wt _ hm
    obtain ⟨⟨c, q⟩, hcq⟩ : ∃ p, p = ps[i] := ⟨_, rfl⟩
    have ec : ps[i].1 = c := by rw [← hcq]
    have eq : ps[i].2 = q := by rw [← hcq]
    rw [ec] at hl
    rw [eq] at hw
    rw [← hcq]
    have nk : Sum.inr (sgn c) ∉ (((ps.take i).map keyP).map (·.1)) := fun z => by
      rw [List.map_map] at z
      obtain ⟨y, hy, e⟩ := List.mem_map.mp z
      have e' : sgn y.1 = sgn c := Sum.inr.inj e
      have e2 : y.1 = c := by have := congrArg (fun x : Str => x.cps.toList) e'; simpa [sgn] using this
      obtain ⟨j, hj⟩ := List.mem_iff_getElem?.mp hy
      have hj2 := (List.getElem?_eq_some_iff.mp hj).1
      rw [List.length_take] at hj2
      rw [List.getElem?_take_of_lt (by omega)] at hj
      have hji : j < ps.length := by omega
      have := (List.getElem_inj (i := j) (j := i) (h₀ := by rw [List.length_map]; exact hji) (h₁ := by rw [List.length_map]; exact hi) g.nd).mp (by
        rw [List.getElem_map, List.getElem_map, ec, ← e2]
        rw [List.getElem?_eq_getElem hji] at hj
        rw [Option.some.inj hj])
      omega
    have hk : hasKey (((ps.take i).map keyP).map (·.1)) (Sum.inr (sgn c)) = false := by
      unfold hasKey
      rw [List.any_eq_false]
      intro y hy z
      exact nk (of_decide_eq_true z ▸ hy)
    intro dx1 a1 ps1 qs1
    refine ⟨true, ⟨"tuple", rfl, by decide +kernel⟩, ?_⟩
    refine ite_F rfl ?_
    refine ⟨c, rfl, ?_⟩
    rw [decide_eq_true hl]
    refine ite_F rfl ?_
    intro dx2 a2 ps2 qs2
    refine ⟨((q : Nat) : Int), 0, 9, rfl, ?_⟩
    rw [decide_eq_true (show (0 : Int) ≤ ((q : Nat) : Int) by omega), decide_eq_true (show ((q : Nat) : Int) ≤ 9 by omega)]
    refine ⟨rfl, rfl, ?_⟩
    show (if hasKey (((ps.take i).map keyP).map (·.1)) (Sum.inr (sgn c)) = true then _ else _)
    rw [hk]
    refine ite_F rfl ?_
    intro fr4
    refine ⟨rfl, rfl, ?_⟩
    have tl : ((ps.take i).map keyP).length < sizeLine := by
      rw [List.length_map, List.length_take]
      exact Nat.lt_of_le_of_lt (Nat.le_trans (Nat.min_le_right _ _) g2) (by decide)
    refine ⟨tl, ?_⟩
    have e : dput ((ps.take i).map keyP) (Sum.inr (sgn c)) (.int ((q : Nat) : Int)) = (ps.take (i + 1)).map keyP := by
      rw [dput_new nk, take_more (List.getElem?_eq_getElem hi), List.map_append, ← hcq]
      rfl
    refine ⟨_, n, (by repeat' first | exact .nil | refine .eq ?_ | refine .no ?_), Nat.le_refl _, _, _, rfl, ?_⟩
    exact congrArg (WS.mk _) e
  · rintro ρ2 W2 ⟨v2, v3, rfl, rfl⟩
    rw [enumD_len, ll, List.take_length]
    intro fr2
    refine ⟨rfl, (show ("pairs" : Str) ∉ [("weight_by" : Str)] by decide), (show 1 < 900 by decide), ?_⟩
    intro fr3
    show LcIn _ _ _ _ _ (ps.map pairD) ⟨[some (.val (.raw (.ref x))), some (.val (.tup (ps.map pairD))), v2, v3, none, none], n⟩
    refine lc_xs ps pairD (fun p => DV.str (sgn p.1)) (by omega) rfl (fun y k hy hk => ?_) ?_
    · exact hk _ (by repeat' first | exact .nil | refine .eq ?_ | refine .no ?_)
    have te : textsOf (ps.map fun p => DV.str (sgn p.1)) = some ((ps.map (·.1)).map sgn) := by
      have := texts_sgn (ps.map (·.1))
      rw [List.map_map] at this
      exact this
    refine ⟨(ps.map (·.1)).map sgn, te, ?_, ?_⟩
    · rw [sum_sgn, List.length_map, List.length_map]
      show ps.length + ps.length * 0 ≤ _
      omega
    rw [join_sgn]
    refine ⟨rfl, (show ("signs" : Str) ∉ [("weight_by" : Str), "pairs"] by decide), (show 2 < 900 by decide), ?_⟩
    refine ⟨rfl, ?_⟩
    have ed : finV ⟨[("weight_by", none), ("pairs", some (.tup (ps.map pairD))), ("signs", some (.str (SX.S (ps.map (·.1)))))], ps.map keyP⟩ = wtsD ps := by
      show [DV.node (.dct ((ps.map keyP).map (·.1))) ((ps.map keyP).map (·.2)), _, _] = _
      rw [List.map_map, List.map_map]
      rfl
    rw [← ed] at hq
    exact hq
theorem mWeights (T : Tx K mg) : MkS P w K mg base (L2.CX P w) 4 "Weights" (a_Weights K) (spNew K "Weights" fsW fnWts) := by
  obtain ⟨fd, F⟩ := T.d_winit
  exact ⟨⟨_, T.mk_Weights, ok_winit F T, T.g_Weights⟩⟩
theorem fl_weight_by (T : Tx K mg) : FldIn K "weight_by" ["Weights"] := fun C hC => by
  rw [List.mem_singleton.mp hC]
  exact ⟨T.cl_Weights, T.n_Weights_weight_by⟩
theorem fl_signs (T : Tx K mg) : FldIn K "signs" ["Weights"] := fun C hC => by
  rw [List.mem_singleton.mp hC]
  exact ⟨T.cl_Weights, T.n_Weights_signs⟩
def wtsO (ps : List (Nat × Nat)) : DV := .node (.ins "Weights" fsW) (wtsD ps)
def fnWGet : PFn := fun _ ds n Q _ => ∃ (ps : List (Nat × Nat)) (p : Nat × Nat), ds = [wtsO ps, .str (sgn p.1)] ∧ GoodPairs ps ∧ p ∈ ps ∧ Q (.int (p.2 : Nat)) n
theorem sgn_eqK {a b : Nat} (e : sgn a = sgn b) : a = b := by have := congrArg (fun x : Str => x.cps.toList) e; simpa [sgn] using this
theorem valD_at {p : Nat × Nat} : ∀ {ps : List (Nat × Nat)}, (ps.map (·.1)).Nodup → p ∈ ps → valD ((ps.map fun p => (Sum.inr (sgn p.1) : Key)).zip (ps.map fun p => DV.int (p.2 : Nat))) (Sum.inr (sgn p.1)) = some (.int (p.2 : Nat))
  | [], _, h => by cases h
  | q :: r, nd, h => by
    rw [List.map_cons] at nd
    have n1 := (List.nodup_cons.mp nd).1
    have n2 := (List.nodup_cons.mp nd).2
    rw [List.map_cons, List.map_cons, List.zip_cons_cons]
    unfold valD
    rcases List.mem_cons.mp h with e | e
    · rw [e, if_pos rfl]
    · rw [if_neg]
      · exact valD_at n2 e
      · intro z
        have z1 : q.1 = p.1 := sgn_eqK (Sum.inr.inj z)
        exact n1 (List.mem_map.mpr ⟨p, e, z1.symm⟩)
theorem ok_wget {f : Addr} {fd : FuncData} (F : FunD K "__getitem__" "Weights.__getitem__" (defArgs s_wget) (defBody s_wget) (defScope s_wget) [] [] f fd) (T : Tx K mg) : FnOk P w K mg base (L2.CX P w) 3 f fd ["self", "sign"] (spP K fnWGet) := by
  refine ok_p F sc_wget (fun pn ds n Q R h => ?_) fun cdv A outer s pn D H E ds n Qd R hr h => ?_
  · obtain ⟨ps, p, rfl, _⟩ := h
    rfl
  obtain ⟨ps, p, rfl, g, hm, hq⟩ := h
  refine ⟨_, (s_cons (s_if (DW.t (w_or (t_not (t_tru (d_callB (c_isi T.xE T.xK) (by rfl) T.f_isinstance (by decide +kernel) (a_cons (d_var (pv 1)) (a_cons (d_fast (d := .raw (.ty "str")) (pe_bltn (v := .ty "str") (by rfl) T.f_str (by decide +kernel) rfl) (fun _ _ => .raw _)) a_nil))))) (w_or1 (t_dnotinK (hu1 hr.units) (d_fld (fl_weight_by T) (d_var (pv 0))) (d_var (pv 1))))))
      (s_one (s_raise (xc_BadSigns T) (takes_of rfl rfl rfl rfl) hr (by decide) (by rfl) (a_cons (d_var (pv 1)) a_nil))) s_nil)
      (s_one (s_ret (d_dgetK (hu1 hr.units) (d_fld (fl_weight_by T) (d_var (pv 0))) (d_var (pv 1)))))), ?_⟩
  have hk : hasKey (ps.map fun p => (Sum.inr (sgn p.1) : Key)) (Sum.inr (sgn p.1)) = true := by
    unfold hasKey
    exact List.any_eq_true.mpr ⟨_, List.mem_map.mpr ⟨p, hm, rfl⟩, decide_eq_true rfl⟩
  refine ⟨true, ⟨"str", rfl, by decide +kernel⟩, ?_⟩
  refine ite_F rfl ?_
  refine ⟨List.mem_singleton.mpr rfl, ?_⟩
  show (if (hasKey (ps.map fun p => (Sum.inr (sgn p.1) : Key)) (Sum.inr (sgn p.1)) ^^ true) = true then _ else _)
  rw [hk]
  refine ite_F rfl ?_
  refine ⟨List.mem_singleton.mpr rfl, ?_⟩
  show (match valD ((ps.map fun p => (Sum.inr (sgn p.1) : Key)).zip (ps.map fun p => DV.int (p.2 : Nat))) (Sum.inr (sgn p.1)) with | some z => _ | none => False)
  rw [valD_at g.nd hm]
  exact hq
theorem cWGet (T : Tx K mg) : MetX P w K mg base (L2.CX P w) 3 (a_Weights K) "__getitem__" (spP K fnWGet) := c_wget T fun _ F => ok_wget F T
theorem eqv_str (a b : Str) : PyData.eqv (.str a) (.str b) = decide (a = b) := by
  by_cases h : a = b
  · rw [h]; simp [PyData.eqv]
  · simp [PyData.eqv, h]
end
end Rg
namespace Rg
open PySem PySem.Spec PyProof.Rows L2
section
variable {P : Program} {w : World} {K : PySem.W.Frag} {mg : Str → Option Value} {base : Heap}
theorem bools_mapR {α : Type} (b : α → Bool) : ∀ xs : List α, bools (xs.map fun x => DV.bl (b x)) = some (xs.map b)
  | [] => rfl
  | x :: xs => by
    show (bools (xs.map fun x => DV.bl (b x))).map (b x :: ·) = _
    rw [bools_mapR b xs]
    rfl
def fsR : List Str := ["old", "new", "left", "right"]
def ruleV (ds : List DV) : DV := .node (.ins "Rule" fsR) ds
def ruleD (o w : List Nat) (l r : Bool) : DV := ruleV [.str (SX.S o), .str (SX.S w), .bl l, .bl r]
def stretchB (t : List Nat) (k : Int) : Bool := decide (k ≤ (t.length : Nat)) && decide (t.length ≤ 4) && t.all fun c => decide (c ∈ letters)
def stretchA (d : DV) (k : Int) : Bool := match d with
  | .str x => stretchB x.cps.toList k
  | _ => false
def boolA : DV → Bool
  | .bl _ => true
  | _ => false
theorem lenS (t : List Nat) : (SX.S t).length = t.length := by show t.toArray.size = _; simp
theorem S_of (x : Str) : x = SX.S x.cps.toList := by
  cases x with
  | mk cps =>
    show Str.mk cps = Str.mk cps.toList.toArray
    simp
def shortD : DV → Bool
  | .str x => decide (x.cps.toList.length ≤ 1000)
  | d => (tyName d).isSome
theorem short_ty {d : DV} (h : shortD d = true) : (tyName d).isSome = true := by
  cases d with
  | str x => rfl
  | raw v => cases h
  | node t xs => exact h
  | _ => rfl
theorem isA_tyN {T : ExT} {d : DV} {t n : String} {b : Bool} (e1 : tyName d = some t) (e2 : kitB t n = some b) : isA K T d (.raw (.ty n)) b := by
  cases d with
  | node q xs => cases q with
    | ins C fs => cases e1
    | _ => exact ⟨t, e1, e2⟩
  | _ => exact ⟨t, e1, e2⟩
/-- a text or none -/
theorem str_cases {d : DV} (h : (tyName d).isSome = true) : (∃ t : List Nat, d = .str (SX.S t)) ∨ ((∃ t, tyName d = some t ∧ kitB t "str" = some false) ∧ (∀ k, stretchA d k = false)) := by
  cases d with
  | int i => exact .inr ⟨⟨_, rfl, by decide +kernel⟩, fun _ => rfl⟩
  | bl b => exact .inr ⟨⟨_, rfl, by decide +kernel⟩, fun _ => rfl⟩
  | non => exact .inr ⟨⟨_, rfl, by decide +kernel⟩, fun _ => rfl⟩
  | str z => exact .inl ⟨z.cps.toList, by rw [← S_of]⟩
  | raw v => cases h
  | node t xs => cases t with
    | lst => exact .inr ⟨⟨_, rfl, by decide +kernel⟩, fun _ => rfl⟩
    | tup => exact .inr ⟨⟨_, rfl, by decide +kernel⟩, fun _ => rfl⟩
    | dct ks => exact .inr ⟨⟨_, rfl, by decide +kernel⟩, fun _ => rfl⟩
    | ins C fs => cases h
    | exc C fs => cases h
theorem bool_cases {d : DV} (h : (tyName d).isSome = true) : (∃ t, tyName d = some t ∧ kitB t "bool" = some (boolA d)) := by
  cases d with
  | int i => exact ⟨_, rfl, show kitB "int" "bool" = some false by decide +kernel⟩
  | bl b => exact ⟨_, rfl, show kitB "bool" "bool" = some true by decide +kernel⟩
  | non => exact ⟨_, rfl, by decide +kernel⟩
  | str z => exact ⟨_, rfl, show kitB "str" "bool" = some false by decide +kernel⟩
  | raw v => cases h
  | node t xs => cases t with
    | lst => exact ⟨_, rfl, show kitB "list" "bool" = some false by decide +kernel⟩
    | tup => exact ⟨_, rfl, show kitB "tuple" "bool" = some false by decide +kernel⟩
    | dct ks => exact ⟨_, rfl, show kitB "dict" "bool" = some false by decide +kernel⟩
    | ins C fs => cases h
    | exc C fs => cases h
def fnStretch : PFn := fun _ ds n Q _ => ∃ (d : DV) (k : Int), ds = [d, .int k] ∧ shortD d = true ∧ Q (.bl (stretchA d k)) n
theorem ok_stretch {f : Addr} {fd : FuncData} (F : FunD K "is_stretch" "is_stretch" (defArgs s_isStretch) (defBody s_isStretch) (defScope s_isStretch) [] [] f fd) (T : Tx K mg) : FnOk P w K mg base CX0 1 f fd ["thing", "least"] (spP K fnStretch) := by
  refine ok_p F sc_isStretch (fun pn ds n Q R h => ?_) fun cdv A outer s pn D H E ds n Qd R hr h => ?_
  · obtain ⟨t, k, rfl, _⟩ := h
    rfl
  obtain ⟨d, k, rfl, tl, hq⟩ := h
  refine ⟨_, DSs.nox (s_cons (s_if (DW.t (w_or (t_not (t_tru (d_callB (c_isi T.xE T.xK) (by rfl) T.f_isinstance (by decide +kernel) (a_cons (d_var (pv 0)) (a_cons (d_fast (d := .raw (.ty "str")) (pe_bltn (v := .ty "str") (by rfl) T.f_str (by decide +kernel) rfl) (fun _ _ => .raw _)) a_nil))))) (w_or1 (t_not (t_chain b_le b_le (d_var (pv 1)) (d_lenV (by rfl) T.f_len (pv 0)) (d_fast (C8.pe_gc (by rfl) T.g_MOST_STRETCH) (fun _ _ => .int _)))))))
      (s_one (s_ret d_bl)) s_nil)
      (s_one (s_ret (d_callB (c_all (by rfl)) (by rfl) T.f_all (by decide +kernel) (a_cons (DF.de (f_lc (own := [("letter", 2)]) (by rfl) sc_isStretch.nd (i_any (d_var (pv 0))) (blkOk_by (by kernel_rfl)) (fun _ _ _ _ _ => (g_name (pg_name (i := 2) sc_isStretch.nd rfl (Or.inl rfl)))) (by decide) (fun _ _ _ _ _ => pts_nil) simT_yes (fun _ _ _ _ _ => (d_cmp (b_in (hu65 hr)) (d_var (pv 2)) (d_fast (C8.pe_gc (by rfl) T.g_LETTERS) (fun _ _ => .str _)) (by rfl))))) a_nil))))), ?_⟩
  rcases str_cases (short_ty tl) with ⟨t, rfl⟩ | ⟨⟨t, e1, e2⟩, e3⟩
  · have tl : t.length ≤ 1000 := of_decide_eq_true tl
    have ls := lenS t
    change Qd (.bl (stretchB t k)) n at hq
    refine ⟨true, ⟨"str", rfl, by decide +kernel⟩, ?_⟩
    refine ite_F rfl ?_
    refine ⟨big_okX (by omega), ?_⟩
    show (match (DV.bl (decide (k ≤ (((SX.S t).length : Nat) : Int)))) with | DV.bl true => _ | DV.bl false => _ | _ => False)
    by_cases h1 : k ≤ ((t.length : Nat) : Int)
    · rw [decide_eq_true (show k ≤ (((SX.S t).length : Nat) : Int) by omega)]
      show (if (!(decide ((((SX.S t).length : Nat) : Int) ≤ 4))) = true then _ else _)
      by_cases h2 : t.length ≤ 4
      · rw [decide_eq_true (show (((SX.S t).length : Nat) : Int) ≤ 4 by omega)]
        refine ite_F rfl ?_
        refine lc_xs (sl := [some (.val (.str (SX.S t))), some (.val (.int k)), none]) t (fun c => DV.str (sgn c)) (fun c => DV.bl (decide (c ∈ letters))) (by omega) rfl (fun c kk hc hk => ⟨c, rfl, by rw [xor_f]; exact hk _ (by repeat' first | exact .nil | refine .eq ?_ | refine .no ?_)⟩) ?_
        show (match bools (t.map fun c => DV.bl (decide (c ∈ letters))) with | some bs => _ | none => False)
        rw [bools_mapR]
        show Qd (.bl ((t.map fun c => decide (c ∈ letters)).all id)) n
        have e : stretchB t k = (t.map fun c => decide (c ∈ letters)).all id := by
          unfold stretchB
          rw [decide_eq_true h1, decide_eq_true h2, List.all_map]
          rfl
        rw [← e]
        exact hq
      · rw [decide_eq_false (show ¬ (((SX.S t).length : Nat) : Int) ≤ 4 by omega)]
        refine ite_T rfl ?_
        have e : stretchB t k = false := by
          unfold stretchB
          rw [decide_eq_false h2]
          simp
        rw [e] at hq
        exact hq
    · rw [decide_eq_false (show ¬ k ≤ (((SX.S t).length : Nat) : Int) by omega)]
      refine ite_T rfl ?_
      have e : stretchB t k = false := by
        unfold stretchB
        rw [decide_eq_false h1]
        simp
      rw [e] at hq
      exact hq
  · rw [e3] at hq
    refine ⟨false, isA_tyN e1 e2, ?_⟩
    exact ite_T rfl hq
theorem cStretch (T : Tx K mg) : CalX P w K mg base CX0 1 "is_stretch" (spP K fnStretch) := c_isStretch T fun _ F => ok_stretch F T
end
end Rg
namespace Rg
open PySem PySem.Spec PyProof.Rows L2
section
variable {P : Program} {w : World} {K : PySem.W.Frag} {mg : Str → Option Value} {base : Heap}
theorem fl_old (T : Tx K mg) : FldIn K "old" ["Rule"] := fun C hC => by
  rw [List.mem_singleton.mp hC]
  exact ⟨T.cl_Rule, T.n_Rule_old⟩
theorem fl_new (T : Tx K mg) : FldIn K "new" ["Rule"] := fun C hC => by
  rw [List.mem_singleton.mp hC]
  exact ⟨T.cl_Rule, T.n_Rule_new⟩
theorem fl_left (T : Tx K mg) : FldIn K "left" ["Rule"] := fun C hC => by
  rw [List.mem_singleton.mp hC]
  exact ⟨T.cl_Rule, T.n_Rule_left⟩
theorem fl_right (T : Tx K mg) : FldIn K "right" ["Rule"] := fun C hC => by
  rw [List.mem_singleton.mp hC]
  exact ⟨T.cl_Rule, T.n_Rule_right⟩
def badR (s : Str) : Exn := ("BadRule", ["part"], [.str s])
/-- the first wrong part -/
def badP (o w l r : DV) : Option Str := if stretchA o 1 = false then some "old" else if stretchA w 0 = false then some "new" else if boolA l = false then some "left" else if boolA r = false then some "right" else none
def fnMkX : NFn := fun _ ds n Q R => ∃ (o w l r : DV), ds = [o, w, l, r] ∧ shortD o = true ∧ shortD w = true ∧ shortD l = true ∧ shortD r = true ∧ (∀ s, badP o w l r = some s → R (badR s) n) ∧ (badP o w l r = none → Q [o, w, l, r] n)
theorem ok_rinit {f : Addr} {fd : FuncData} (F : FunD K "__init__" "Rule.__init__" (defArgs s_rinit) (defBody s_rinit) (defScope s_rinit) [] [("left", .bl false), ("right", .bl false)] f fd) (T : Tx K mg) : FnOk P w K mg base (L2.CX P w) 3 f fd ["self", "old", "new", "left", "right"] (spNew K "Rule" fsR fnMkX) := by
  refine ok_newS (fjs := [("old", 1), ("new", 2), ("left", 3), ("right", 4)]) F sc_rinit T.cl_Rule (fun f hf => ?_) (by decide +kernel) (by decide) (fun pn ds n Q R h => ?_) fun cdv A outer s pn D H E x ds n Qd R hr h => ?_
  · simp only [List.map_cons, List.map_nil, List.mem_cons, List.not_mem_nil, or_false] at hf
    rcases hf with rfl | rfl | rfl | rfl
    · exact T.n_Rule_old
    · exact T.n_Rule_new
    · exact T.n_Rule_left
    · exact T.n_Rule_right
  · obtain ⟨o, w, l, r, rfl, _⟩ := h
    rfl
  obtain ⟨o, w, l, r, rfl, ol, wl, ll, rl, h1, h2⟩ := h
  refine ⟨_, (x_cons (s_if (t_not (t_tru (d_call (cStretch T) hr (by decide) (by rfl) pass0 (a_cons (d_var (pv 1)) (a_cons d_int a_nil)))))
      (s_one (s_raise (xc_BadRule T) (takes_of rfl rfl rfl rfl) hr (by decide) (by rfl) (a_cons d_str a_nil))) s_nil)
      (x_cons (s_if (t_not (t_tru (d_call (cStretch T) hr (by decide) (by rfl) pass0 (a_cons (d_var (pv 2)) (a_cons d_int a_nil)))))
      (s_one (s_raise (xc_BadRule T) (takes_of rfl rfl rfl rfl) hr (by decide) (by rfl) (a_cons d_str a_nil))) s_nil)
      (x_cons (s_if (t_not (t_tru (d_callB (c_isi T.xE T.xK) (by rfl) T.f_isinstance (by decide +kernel) (a_cons (d_var (pv 3)) (a_cons (d_fast (d := .raw (.ty "bool")) (pe_bltn (v := .ty "bool") (by rfl) T.f_bool (by decide +kernel) rfl) (fun _ _ => .raw _)) a_nil)))))
      (s_one (s_raise (xc_BadRule T) (takes_of rfl rfl rfl rfl) hr (by decide) (by rfl) (a_cons d_str a_nil))) s_nil)
      (x_cons (s_if (t_not (t_tru (d_callB (c_isi T.xE T.xK) (by rfl) T.f_isinstance (by decide +kernel) (a_cons (d_var (pv 4)) (a_cons (d_fast (d := .raw (.ty "bool")) (pe_bltn (v := .ty "bool") (by rfl) T.f_bool (by decide +kernel) rfl) (fun _ _ => .raw _)) a_nil)))))
      (s_one (s_raise (xc_BadRule T) (takes_of rfl rfl rfl rfl) hr (by decide) (by rfl) (a_cons d_str a_nil))) s_nil)
      (x_tail (st_cons (pv 0) (pv 1) (st_cons (pv 0) (pv 2) (st_cons (pv 0) (pv 3) (st_cons (pv 0) (pv 4) st_nil))))))))), ?_⟩
  refine ⟨o, 1, rfl, ol, ?_⟩
  unfold badP at h1 h2
  cases e1 : stretchA o 1 with
  | false => rw [if_pos e1] at h1; exact ⟨rfl, h1 _ rfl⟩
  | true =>
    have f1 : ¬ stretchA o 1 = false := by rw [e1]; exact Bool.noConfusion
    rw [if_neg f1] at h1 h2
    refine ite_F rfl ?_
    refine ⟨w, 0, rfl, wl, ?_⟩
    cases e2 : stretchA w 0 with
    | false => rw [if_pos e2] at h1; exact ⟨rfl, h1 _ rfl⟩
    | true =>
      have f2 : ¬ stretchA w 0 = false := by rw [e2]; exact Bool.noConfusion
      rw [if_neg f2] at h1 h2
      refine ite_F rfl ?_
      obtain ⟨t3, n3, k3⟩ := bool_cases (short_ty ll)
      refine ⟨boolA l, isA_tyN n3 k3, ?_⟩
      cases e3 : boolA l with
      | false => rw [if_pos e3] at h1; exact ⟨rfl, h1 _ rfl⟩
      | true =>
        have f3 : ¬ boolA l = false := by rw [e3]; exact Bool.noConfusion
        rw [if_neg f3] at h1 h2
        refine ite_F rfl ?_
        obtain ⟨t4, n4, k4⟩ := bool_cases (short_ty rl)
        refine ⟨boolA r, isA_tyN n4 k4, ?_⟩
        cases e4 : boolA r with
        | false => rw [if_pos e4] at h1; exact ⟨rfl, h1 _ rfl⟩
        | true =>
          have f4 : ¬ boolA r = false := by rw [e4]; exact Bool.noConfusion
          rw [if_neg f4] at h2
          refine ite_F rfl ?_
          exact ⟨rfl, [_, _, _, _], ⟨rfl, rfl, rfl, rfl, True.intro⟩, h2 rfl⟩
theorem S_cat (a b : List Nat) : SX.S a ++ SX.S b = SX.S (a ++ b) := SX.S_cat a b
theorem strOk_lt {t : List Nat} (h : ∀ c ∈ t, c < 0x110000) : PyData.strOk (SX.S t) = true := by
  show (t.toArray.all fun c => decide (c < 0x110000)) = true
  rw [List.all_toArray, List.all_eq_true]
  exact fun c hc => decide_eq_true (h c hc)
theorem strOk_S {t : List Nat} (h : ∀ c ∈ t, c ∈ letters) : PyData.strOk (SX.S t) = true := by
  have lt : ∀ c ∈ letters, c < 0x110000 := by decide +kernel
  exact strOk_lt fun c hc => lt c (h c hc)
def quadP (o w : List Nat) (l r : Bool) : List PyData := [.str (SX.S o), .str (SX.S w), .bool l, .bool r]
def quadD (o w : List Nat) (l r : Bool) : List DV := [.str (SX.S o), .str (SX.S w), .bl l, .bl r]
theorem toPy_quad (o w : List Nat) (l r : Bool) : toPyA (quadD o w l r) = some (quadP o w l r) := by
  unfold quadD
  rw [toPyA, toPyA, toPyA, toPyA, toPyA, toPy, toPy, toPy, toPy]
  rfl
theorem toPy_quadT (o w : List Nat) (l r : Bool) : toPy (.tup (quadD o w l r)) = some (.tuple (quadP o w l r)) := by
  rw [toPy, toPy_quad]
  rfl
theorem eqv_bool (a b : Bool) : PyData.eqv (.bool a) (.bool b) = decide (a = b) := by cases a <;> cases b <;> rfl
theorem decS (a b : List Nat) : decide (SX.S a = SX.S b) = decide (a = b) := decide_eq_decide.mpr ⟨fun e => SX.S_inj e, fun e => by rw [e]⟩
/-- whether the parts are equal -/
def quadB (o w : List Nat) (l r : Bool) (o2 w2 : List Nat) (l2 r2 : Bool) : Bool := decide (o = o2) && (decide (w = w2) && (decide (l = l2) && decide (r = r2)))
theorem eqv_quad (o w : List Nat) (l r : Bool) (o2 w2 : List Nat) (l2 r2 : Bool) : PyData.eqvAll (quadP o w l r) (quadP o2 w2 l2 r2) = quadB o w l r o2 w2 l2 r2 := by
  unfold quadP quadB
  rw [PyData.eqvAll, PyData.eqvAll, PyData.eqvAll, PyData.eqvAll, PyData.eqvAll, eqv_str, eqv_str, eqv_bool, eqv_bool, decS, decS, Bool.and_true]
theorem eqv_quadT (o w : List Nat) (l r : Bool) (o2 w2 : List Nat) (l2 r2 : Bool) : PyData.eqv (.tuple (quadP o w l r)) (.tuple (quadP o2 w2 l2 r2)) = quadB o w l r o2 w2 l2 r2 := by
  rw [PyData.eqv, eqv_quad]
theorem shaped_quadT {o w : List Nat} {l r : Bool} (h1 : ∀ c ∈ o, c ∈ letters) (h2 : ∀ c ∈ w, c ∈ letters) : SeqAt.shaped (.tuple (quadP o w l r)) = true := by
  simp [quadP, SeqAt.shaped, PyData.canLay0, PyData.canLayAll0, PyData.depth, PyData.depthAll, strOk_S h1, strOk_S h2]
def fnREq : PFn := fun _ ds n Q _ => ∃ (o w : List Nat) (l r : Bool) (d : DV), ds = [ruleD o w l r, d] ∧ (∀ c ∈ o, c ∈ letters) ∧ (∀ c ∈ w, c ∈ letters) ∧ ((∃ (o2 w2 : List Nat) (l2 r2 : Bool), d = ruleD o2 w2 l2 r2 ∧ (∀ c ∈ o2, c ∈ letters) ∧ (∀ c ∈ w2, c ∈ letters) ∧ Q (.bl (quadB o w l r o2 w2 l2 r2)) n) ∨ ((tyName d).isSome = true ∧ Q (.bl false) n))
theorem ok_req {f : Addr} {fd : FuncData} (F : FunD K "__eq__" "Rule.__eq__" (defArgs s_req) (defBody s_req) (defScope s_req) [] [] f fd) (T : Tx K mg) : FnOk P w K mg base CX0 1 f fd ["self", "other"] (spP K fnREq) := by
  refine ok_p F sc_req (fun pn ds n Q R h => ?_) fun cdv A outer s pn D H E ds n Qd R hr h => ?_
  · obtain ⟨o, w, l, r, d, rfl, _⟩ := h
    rfl
  obtain ⟨o, w, l, r, d, rfl, oL, wL, h⟩ := h
  refine ⟨_, DSs.nox (s_cons (s_if (t_not (t_tru (d_callB (c_isiC (C := "Rule") (own_Rule T)) (by rfl) T.f_isinstance (by decide +kernel) (a_cons (d_var (pv 1)) (a_cons (d_fast (d := .raw (.ref _)) (pe_glob (v := .ref _) (by rfl) T.g_Rule rfl) (fun _ _ => .raw _)) a_nil)))))
      (s_one (s_ret d_bl)) s_nil)
      (s_cons (s_set (i := 2) sc_req.nd rfl (Or.inl rfl) (d_tup (a_cons (d_fld (fl_old T) (d_var (pv 0))) (a_cons (d_fld (fl_new T) (d_var (pv 0))) (a_cons (d_fld (fl_left T) (d_var (pv 0))) (a_cons (d_fld (fl_right T) (d_var (pv 0))) a_nil))))))
      (s_one (s_ret (d_cmp (b_eq hr.units) (d_var (pv 2)) (d_tup (a_cons (d_fld (fl_old T) (d_var (pv 1))) (a_cons (d_fld (fl_new T) (d_var (pv 1))) (a_cons (d_fld (fl_left T) (d_var (pv 1))) (a_cons (d_fld (fl_right T) (d_var (pv 1))) a_nil))))) (nomark _)))))), ?_⟩
  rcases h with ⟨o2, w2, l2, r2, rfl, oL2, wL2, hq⟩ | ⟨ht, hq⟩
  · refine ⟨rfl, .inl ⟨rfl, ?_⟩⟩
    refine ite_F rfl ?_
    refine ⟨List.mem_singleton.mpr rfl, List.mem_singleton.mpr rfl, List.mem_singleton.mpr rfl, List.mem_singleton.mpr rfl, (show 4 ≤ sizeLine by decide), ?_⟩
    refine ⟨List.mem_singleton.mpr rfl, List.mem_singleton.mpr rfl, List.mem_singleton.mpr rfl, List.mem_singleton.mpr rfl, (show 4 ≤ sizeLine by decide), ?_⟩
    refine ⟨_, _, toPy_quadT o w l r, toPy_quadT o2 w2 l2 r2, shaped_quadT oL wL, shaped_quadT oL2 wL2, ?_⟩
    rw [eqv_quadT, xor_f]
    exact hq
  · refine ⟨rfl, .inr ⟨ht, ?_⟩⟩
    exact ite_T rfl hq
theorem cREq (T : Tx K mg) : MetX P w K mg base CX0 1 (a_Rule K) "__eq__" (spP K fnREq) := c_req T fun _ F => ok_req F T
end
end Rg
namespace Rg
open PySem PySem.Spec PyProof.Rows L2
section
variable {P : Program} {w : World} {K : PySem.W.Frag} {mg : Str → Option Value} {base : Heap}
abbrev Rul : Type := List Nat × List Nat × Bool × Bool
def rulD (q : Rul) : DV := ruleD q.1 q.2.1 q.2.2.1 q.2.2.2
structure RulOk (q : Rul) : Prop where
  l1 : ∀ c ∈ q.1, c ∈ letters
  l2 : ∀ c ∈ q.2.1, c ∈ letters
  n1 : q.1.length ≤ 4
  n2 : q.2.1.length ≤ 4
def qB (p q : Rul) : Bool := quadB p.1 p.2.1 p.2.2.1 p.2.2.2 q.1 q.2.1 q.2.2.1 q.2.2.2
theorem qB_eq (p q : Rul) : qB p q = decide (p = q) := by
  obtain ⟨a, b, c, d⟩ := p
  obtain ⟨e, f, g, h⟩ := q
  unfold qB quadB
  simp only [← Bool.decide_and]
  refine decide_eq_decide.mpr ⟨fun z => ?_, fun z => ?_⟩
  · obtain ⟨z1, z2, z3, z4⟩ := z
    rw [z1, z2, z3, z4]
  · cases z
    exact ⟨rfl, rfl, rfl, rfl⟩
theorem bigN {n : Nat} (h : n ≤ 1000000) : n ≤ sizeLine := Nat.le_trans h (by decide)
theorem SS_len (cs : List Nat) : (SX.S cs).length = cs.length := by show cs.toArray.size = _; simp
def fnIsRow : PFn := fun _ ds n Q _ => ∃ z cs : List Nat, ds = [.str (SX.S z), .str (SX.S cs)] ∧ cs.length ≤ 1000 ∧ Q (.bl (cs.all fun c => decide (c ∈ z))) n
theorem ok_isRow {f : Addr} {fd : FuncData} (F : FunD K "is_row" "is_row" (defArgs s_isRow) (defBody s_isRow) (defScope s_isRow) [] [] f fd) (T : Tx K mg) : FnOk P w K mg base CX0 1 f fd ["signs", "thing"] (spP K fnIsRow) := by
  refine ok_p F sc_isRow (fun pn ds n Q R h => ?_) fun cdv A outer s pn D H E ds n Qd R hr h => ?_
  · obtain ⟨z, cs, rfl, _⟩ := h
    rfl
  obtain ⟨z, cs, rfl, cl, hq⟩ := h
  refine ⟨_, DSs.nox (s_one (s_ret (d_and (d_callB (c_isi T.xE T.xK) (by rfl) T.f_isinstance (by decide +kernel) (a_cons (d_var (pv 1)) (a_cons (d_fast (d := .raw (.ty "str")) (pe_bltn (v := .ty "str") (by rfl) T.f_str (by decide +kernel) rfl) (fun _ _ => .raw _)) a_nil))) (d_one (d_callB (c_all (by rfl)) (by rfl) T.f_all (by decide +kernel) (a_cons (DF.de (f_lc (own := [("sign", 2)]) (by rfl) sc_isRow.nd (i_any (d_var (pv 1))) (blkOk_by (by kernel_rfl)) (fun _ _ _ _ _ => (g_name (pg_name (i := 2) sc_isRow.nd rfl (Or.inl rfl)))) (by decide) (fun _ _ _ _ _ => pts_nil) simT_yes (fun _ _ _ _ _ => (d_cmp (b_in (hu65 hr)) (d_var (pv 2)) (d_var (pv 0)) (by rfl))))) a_nil)))))), ?_⟩
  refine ⟨true, ⟨"str", rfl, by decide +kernel⟩, ?_⟩
  refine lc_xs (vs := [2]) (sl := [some (.val (.str (SX.S z))), some (.val (.str (SX.S cs))), none]) cs (fun c => DV.str (sgn c)) (fun c => DV.bl (decide (c ∈ z))) (by omega) rfl (fun c kk hc hk => ?_) ?_
  · refine ⟨c, rfl, ?_⟩
    rw [xor_f]
    exact hk _ (by repeat' first | exact .nil | refine .eq ?_ | refine .no ?_)
  show (match bools (cs.map fun c => DV.bl (decide (c ∈ z))) with | some bs => _ | none => False)
  rw [bools_mapR]
  show Qd (.bl ((cs.map fun c => decide (c ∈ z)).all id)) n
  rw [List.all_map]
  exact hq
theorem cIsRow (T : Tx K mg) : CalX P w K mg base CX0 1 "is_row" (spP K fnIsRow) := c_isRow T fun _ F => ok_isRow F T
def wt1 (ps : List (Nat × Nat)) (c : Nat) : Nat := ((ps.find? fun p => decide (p.1 = c)).map (·.2)).getD 0
def wSum (ps : List (Nat × Nat)) (cs : List Nat) : Nat := (cs.map (wt1 ps)).sum
theorem wt1_of {p : Nat × Nat} : ∀ {ps : List (Nat × Nat)}, (ps.map (·.1)).Nodup → p ∈ ps → wt1 ps p.1 = p.2
  | [], _, h => by cases h
  | q :: r, nd, h => by
    rw [List.map_cons] at nd
    have n1 := (List.nodup_cons.mp nd).1
    have n2 := (List.nodup_cons.mp nd).2
    unfold wt1
    rcases List.mem_cons.mp h with e | e
    · subst e
      rw [List.find?_cons_of_pos (by exact decide_eq_true rfl)]
      rfl
    · have ne : ¬ q.1 = p.1 := fun z => n1 (List.mem_map.mpr ⟨p, e, z.symm⟩)
      rw [List.find?_cons_of_neg (by rw [decide_eq_false ne]; exact Bool.false_ne_true)]
      exact wt1_of n2 e
def fnWeightOf : PFn := fun _ ds n Q _ => ∃ (ps : List (Nat × Nat)) (cs : List Nat), ds = [wtsO ps, .str (SX.S cs)] ∧ GoodPairs ps ∧ (∀ c ∈ cs, c ∈ ps.map (·.1)) ∧ cs.length ≤ 1000 ∧ Q (.int ((wSum ps cs : Nat) : Int)) n
theorem sum_nats : ∀ ns : List Nat, (ns.map fun n : Nat => (n : Int)).sum = ((ns.sum : Nat) : Int)
  | [] => rfl
  | n :: r => by
    rw [List.map_cons, List.sum_cons, List.sum_cons, sum_nats r]
    omega
theorem ints_nats {α : Type} (f : α → Nat) : ∀ xs : List α, intsO (xs.map fun x => DV.int ((f x : Nat) : Int)) = some ((xs.map f).map fun n : Nat => (n : Int))
  | [] => rfl
  | x :: r => by
    rw [List.map_cons, intsO, ints_nats f r]
    rfl
theorem ok_weightOf {f : Addr} {fd : FuncData} (F : FunD K "weight_of" "weight_of" (defArgs s_weightOf) (defBody s_weightOf) (defScope s_weightOf) [] [] f fd) (T : Tx K mg) : FnOk P w K mg base CX0 5 f fd ["weights", "row"] (spP K fnWeightOf) := by
  refine ok_p F sc_weightOf (fun pn ds n Q R h => ?_) fun cdv A outer s pn D H E ds n Qd R hr h => ?_
  · obtain ⟨ps, cs, rfl, _⟩ := h
    rfl
  obtain ⟨ps, cs, rfl, g, hin, cl, hq⟩ := h
  refine ⟨_, DSs.nox (s_one (s_ret (d_callB (c_sum (by rfl)) (by rfl) T.f_sum (by decide +kernel) (a_cons (DF.de (f_lc (own := [("sign", 2)]) (by rfl) sc_weightOf.nd (i_any (d_var (pv 1))) (blkOk_by (by kernel_rfl)) (fun _ _ _ _ _ => (g_name (pg_name (i := 2) sc_weightOf.nd rfl (Or.inl rfl)))) (by decide) (fun _ _ _ _ _ => pts_nil) simT_yes (fun _ _ _ _ _ => (d_getO (cWGet T).calm (getIn_W T) hr (by decide) pass0 (d_var (pv 0)) (d_var (pv 2)))))) a_nil)))), ?_⟩
  refine lc_xs (vs := [2]) (sl := [some (.val (wtsO ps)), some (.val (.str (SX.S cs))), none]) cs (fun c => DV.str (sgn c)) (fun c => DV.int ((wt1 ps c : Nat) : Int)) (by omega) rfl (fun c kk hc hk => ?_) ?_
  · obtain ⟨p, hp, rfl⟩ := List.mem_map.mp (hin c hc)
    refine ⟨rfl, ps, p, rfl, g, hp, ?_⟩
    have e := hk [some (.val (wtsO ps)), some (.val (.str (SX.S cs))), some (.val (.str (sgn p.1)))] (by repeat' first | exact .nil | refine .eq ?_ | refine .no ?_)
    rw [wt1_of g.nd hp] at e
    exact e
  show (match intsO (cs.map fun c => DV.int ((wt1 ps c : Nat) : Int)) with | some is => _ | none => False)
  rw [ints_nats]
  show Qd (.int ((cs.map (wt1 ps)).map fun n : Nat => (n : Int)).sum) n
  rw [sum_nats]
  exact hq
theorem cWeightOf (T : Tx K mg) : CalX P w K mg base CX0 5 "weight_of" (spP K fnWeightOf) := c_weightOf T fun _ F => ok_weightOf F T
def exHeavy (i : Nat) : Exn := ("Heavier", ["at"], [.int (i : Nat)])
def exBook (d : DV) : Exn := ("BadBook", ["at"], [d])
def ltB (ps : List (Nat × Nat)) (q : Rul) : Bool := decide (wSum ps q.2.1 < wSum ps q.1)
def inB (z : List Nat) (q : Rul) : Bool := (q.1 ++ q.2.1).all fun c => decide (c ∈ z)
theorem inB_of {z : List Nat} {q : Rul} (h : inB z q = true) : (∀ c ∈ q.1, c ∈ z) ∧ ∀ c ∈ q.2.1, c ∈ z := by
  unfold inB at h
  rw [List.all_eq_true] at h
  exact ⟨fun c hc => of_decide_eq_true (h c (List.mem_append_left _ hc)), fun c hc => of_decide_eq_true (h c (List.mem_append_right _ hc))⟩
/-- the first rule that lessens nothing -/
def HeavyAt (ps : List (Nat × Nat)) (rs : List Rul) (i : Nat) : Prop := (∃ q, rs[i]? = some q ∧ ltB ps q = false) ∧ ∀ j q, j < i → rs[j]? = some q → ltB ps q = true
theorem HeavyAt.uniq {ps : List (Nat × Nat)} {rs : List Rul} {i j : Nat} (h : HeavyAt ps rs i) (h' : HeavyAt ps rs j) : i = j := by
  obtain ⟨⟨q, e1, e2⟩, h2⟩ := h
  obtain ⟨⟨p, e3, e4⟩, h4⟩ := h'
  rcases Nat.lt_trichotomy i j with z | z | z
  · rw [h4 i q z e1] at e2; cases e2
  · exact z
  · rw [h2 j p z e3] at e4; cases e4
def fnLighter : PFn := fun _ ds n Q R => ∃ (ps : List (Nat × Nat)) (rs : List Rul), ds = [wtsO ps, .tup (rs.map rulD)] ∧ GoodPairs ps ∧ (∀ q ∈ rs, inB (ps.map (·.1)) q = true ∧ RulOk q) ∧ rs.length ≤ 1000 ∧ (∀ i, HeavyAt ps rs i → R (exHeavy i) n) ∧ ((∀ q ∈ rs, ltB ps q = true) → Q .non n)
theorem ok_lighter {f : Addr} {fd : FuncData} (F : FunD K "need_lighter" "need_lighter" (defArgs s_lighter) (defBody s_lighter) (defScope s_lighter) [] [] f fd) (T : Tx K mg) : FnOk P w K mg base (L2.CX P w) 7 f fd ["weights", "rules"] (spP K fnLighter) := by
  refine ok_p F sc_lighter (fun pn ds n Q R h => ?_) fun cdv A outer s pn D H E ds n Qd R hr h => ?_
  · obtain ⟨ps, rs, rfl, _⟩ := h
    rfl
  obtain ⟨ps, rs, rfl, g, hin, rl, hR, hq⟩ := h
  refine ⟨_, (s_one (s_for (passes_of rfl) rfl (i_enum (by rfl) T.f_enumerate (d_var (pv 1))) (g_tup (n := 2) rfl (gs_cons (g_name (pg_name (i := 2) sc_lighter.nd rfl (Or.inl rfl))) (gs_cons (g_name (pg_name (i := 3) sc_lighter.nd rfl (Or.inl rfl))) gs_nil)) (glN (glN gl0)))
      (s_cons (s_par (i := 4) (j := 5) (by rfl) sc_lighter.nd rfl rfl (by decide) rfl rfl (a_cons (d_call (cWeightOf T) hr (by decide) (by rfl) pass0 (a_cons (d_var (pv 0)) (a_cons (d_fld (fl_old T) (d_var (pv 3))) a_nil))) (a_cons (d_call (cWeightOf T) hr (by decide) (by rfl) pass0 (a_cons (d_var (pv 0)) (a_cons (d_fld (fl_new T) (d_var (pv 3))) a_nil))) a_nil)) (by rfl))
      (s_one (s_if (t_cmp b_le (d_var (pv 4)) (d_var (pv 5)) (nomark _))
      (s_one (s_raiseF (xc_Heavier T) (xc_Unlessened T) (takes_of rfl rfl rfl rfl) hr (by decide) (by decide) (by rfl) (by rfl) (a_cons (d_var (pv 2)) a_nil) (a_cons (d_var (pv 4)) (a_cons (d_var (pv 5)) a_nil)))) s_nil))))), ?_⟩
  have ll : (rs.map rulD).length = rs.length := List.length_map _
  refine ⟨fun i ρ => (∃ v2 v3 v4 v5 : Option SV, ρ = ⟨[some (.val (wtsO ps)), some (.val (.tup (rs.map rulD))), v2, v3, v4, v5], n⟩) ∧ ∀ j q, j < i → rs[j]? = some q → ltB ps q = true, ⟨⟨none, none, none, none, rfl⟩, fun j q hj => absurd hj (Nat.not_lt_zero j)⟩, ?_, ?_⟩
  · rintro i d ρ2 hd ⟨⟨v2, v3, v4, v5, rfl⟩, pre⟩
    have hi := (List.getElem?_eq_some_iff.mp hd).1
    rw [enumD_len, ll] at hi
    obtain ⟨q, hq2⟩ : ∃ q, rs[i]? = some q := ⟨_, List.getElem?_eq_getElem hi⟩
    have hp : (rs.map rulD)[i]? = some (rulD q) := by rw [List.getElem?_map, hq2]; rfl
    rw [enumD_at hp] at hd
    cases hd
    obtain ⟨hb, ok⟩ := hin q (List.mem_of_getElem? hq2)
    obtain ⟨b1, b2⟩ := inB_of hb
    have n1 := ok.n1
    have n2 := ok.n2
    refine ⟨me_R, ps, q.1, rfl, g, b1, by omega, ?_⟩
    refine ⟨me_R, ps, q.2.1, rfl, g, b2, by omega, ?_⟩
    cases hl : ltB ps q with
    | true =>
      have hl2 := of_decide_eq_true hl
      refine ite_F (decide_eq_false (by omega)) ?_
      refine ⟨_, n, (by repeat' first | exact .nil | refine .eq ?_ | refine .no ?_), Nat.le_refl _, ⟨_, _, _, _, rfl⟩, fun j p hj hp2 => ?_⟩
      rcases Nat.lt_or_eq_of_le (Nat.le_of_lt_succ hj) with z | z
      · exact pre j p z hp2
      · rw [z, hq2] at hp2
        cases hp2
        exact hl
    | false =>
      have hl2 := of_decide_eq_false hl
      refine ite_T (decide_eq_true (by omega)) ?_
      exact ⟨rfl, rfl, hR i ⟨⟨q, hq2, hl⟩, pre⟩⟩
  · rintro ρ2 ⟨⟨v2, v3, v4, v5, rfl⟩, pre⟩
    rw [enumD_len, ll] at pre
    exact hq fun q hq2 => by
      obtain ⟨j, hj⟩ := List.mem_iff_getElem?.mp hq2
      exact pre j q (List.getElem?_eq_some_iff.mp hj).1 hj
theorem xLighter (T : Tx K mg) : CalX P w K mg base (L2.CX P w) 7 "need_lighter" (spP K fnLighter) := c_lighter T fun _ F => ok_lighter F T
end
end Rg
namespace Rg
open PySem PySem.Spec PyProof.Rows L2
section
variable {P : Program} {w : World} {K : PySem.W.Frag} {mg : Str → Option Value} {base : Heap}
abbrev It : Type := Rul ⊕ DV
def madD : It → DV
  | .inl q => rulD q
  | .inr d => d
def ItOk : It → Prop
  | .inl q => RulOk q
  | .inr d => (tyName d).isSome = true
/-- the first i are rules over the signs, no two alike -/
structure PreI (z : List Nat) (its : List It) (i : Nat) (qs : List Rul) : Prop where
  eq : its.take i = qs.map Sum.inl
  len : qs.length = i
  ok : ∀ q ∈ qs, inB z q = true
  nd : qs.Nodup
def goodI (z : List Nat) (qs : List Rul) : It → Bool
  | .inl q => inB z q && !decide (q ∈ qs)
  | .inr _ => false
def BadI (z : List Nat) (its : List It) (i : Nat) : Prop := ∃ qs, PreI z its i qs ∧ ∃ it, its[i]? = some it ∧ goodI z qs it = false
def AllI (z : List Nat) (its : List It) (qs : List Rul) : Prop := PreI z its its.length qs
theorem PreI.zero (z : List Nat) (its : List It) : PreI z its 0 [] := ⟨rfl, rfl, (fun q h => nomatch h), List.nodup_nil⟩
theorem PreI.next {z : List Nat} {its : List It} {i : Nat} {qs : List Rul} {q : Rul} (h : PreI z its i qs) (hd : its[i]? = some (.inl q)) (hq : inB z q = true) (hn : q ∉ qs) : PreI z its (i + 1) (qs ++ [q]) := by
  refine ⟨by rw [List.take_add_one, hd, h.eq, List.map_append]; rfl, by rw [List.length_append, h.len]; rfl, fun p hp => ?_, ?_⟩
  · rcases List.mem_append.mp hp with hp | hp
    · exact h.ok p hp
    · rw [List.mem_singleton.mp hp]; exact hq
  · refine List.nodup_append.mpr ⟨h.nd, List.nodup_cons.mpr ⟨(fun z => nomatch z), List.nodup_nil⟩, fun a ha b hb e => ?_⟩
    rw [List.mem_singleton.mp hb] at e
    exact hn (e ▸ ha)
theorem inl_inj : ∀ {ps qs : List Rul}, ps.map (Sum.inl : Rul → It) = qs.map Sum.inl → ps = qs
  | [], [], _ => rfl
  | [], _ :: _, h => by cases h
  | _ :: _, [], h => by cases h
  | p :: ps, q :: qs, h => by
    rw [List.map_cons, List.map_cons] at h
    injection h with h1 h2
    rw [Sum.inl.inj h1, inl_inj h2]
theorem PreI.uniq {z : List Nat} {its : List It} {i : Nat} {ps qs : List Rul} (h : PreI z its i ps) (h' : PreI z its i qs) : ps = qs := inl_inj (h.eq.symm.trans h'.eq)
theorem PreI.down {z : List Nat} {its : List It} {i j : Nat} {qs : List Rul} (h : PreI z its i qs) (hj : j ≤ i) : PreI z its j (qs.take j) := by
  refine ⟨?_, by rw [List.length_take, h.len, Nat.min_eq_left hj], fun q hq => h.ok q (List.mem_of_mem_take hq), h.nd.sublist (List.take_sublist _ _)⟩
  have := congrArg (List.take j) h.eq
  rw [List.take_take, Nat.min_eq_left hj, ← List.map_take] at this
  exact this
theorem PreI.at_ {z : List Nat} {its : List It} {i j : Nat} {qs : List Rul} (h : PreI z its i qs) (hj : j < i) : ∃ q, qs[j]? = some q ∧ its[j]? = some (.inl q) ∧ inB z q = true ∧ q ∉ qs.take j := by
  have hl : j < qs.length := by rw [h.len]; exact hj
  refine ⟨qs[j], List.getElem?_eq_getElem hl, ?_, h.ok _ (List.getElem_mem hl), fun m => ?_⟩
  · have := congrArg (fun l : List It => l[j]?) h.eq
    simp only [List.getElem?_take_of_lt hj, List.getElem?_map, List.getElem?_eq_getElem hl] at this
    exact this
  · obtain ⟨k, hk⟩ := List.mem_iff_getElem?.mp m
    have kl := (List.getElem?_eq_some_iff.mp hk).1
    rw [List.length_take] at kl
    rw [List.getElem?_take_of_lt (by omega), List.getElem?_eq_getElem (show k < qs.length by omega)] at hk
    have := (List.getElem_inj (i := k) (j := j) (h₀ := by omega) (h₁ := hl) h.nd).mp (Option.some.inj hk)
    omega
theorem BadI.lt {z : List Nat} {its : List It} {i : Nat} (h : BadI z its i) : i < its.length := by
  obtain ⟨_, _, d, hd, _⟩ := h
  exact (List.getElem?_eq_some_iff.mp hd).1
theorem BadI.none {z : List Nat} {its : List It} {i j : Nat} {qs : List Rul} (h : BadI z its i) (p : PreI z its j qs) : j ≤ i := by
  refine Nat.le_of_not_lt fun l => ?_
  obtain ⟨rs, hr, d, hd, hb⟩ := h
  obtain ⟨q, h1, h2, h3, h4⟩ := p.at_ l
  rw [hd] at h2
  cases h2
  have e := hr.uniq (p.down (Nat.le_of_lt l))
  subst e
  have hb2 : (inB z q && !decide (q ∈ qs.take i)) = false := hb
  rw [h3, decide_eq_false h4] at hb2
  cases hb2
theorem BadI.uniq {z : List Nat} {its : List It} {i j : Nat} (h : BadI z its i) (h' : BadI z its j) : i = j := by
  obtain ⟨ps, p, _⟩ := id h
  obtain ⟨qs, q, _⟩ := id h'
  exact Nat.le_antisymm (h'.none p) (h.none q)
theorem AllI.eq' {z : List Nat} {its : List It} {qs : List Rul} (h : AllI z its qs) : its = qs.map Sum.inl := by
  have := h.eq
  rwa [List.take_length] at this
def fsB : List Str := ["weights", "rules"]
def zOf (ps : List (Nat × Nat)) : List Nat := ps.map (·.1)
def fnBook : NFn := fun _ ds n Q R => ∃ (wd : DV) (its : List It), ds = wd :: its.map madD ∧ its.length ≤ 1000 ∧ (∀ it ∈ its, ItOk it) ∧
  (((tyName wd).isSome = true ∧ R (exBook .non) n) ∨ ∃ ps, wd = wtsO ps ∧ GoodPairs ps ∧ (8 < its.length → R (exBook .non) n) ∧ (its.length ≤ 8 → (∀ i, BadI (zOf ps) its i → R (exBook (.int (i : Nat))) n) ∧
    ∀ qs, AllI (zOf ps) its qs → (∀ i, HeavyAt ps qs i → R (exHeavy i) n) ∧ ((∀ q ∈ qs, ltB ps q = true) → Q [wtsO ps, .tup (qs.map rulD)] n)))
theorem ok_binit {f : Addr} {fd : FuncData} (F : FunD K "__init__" "Book.__init__" (defArgs s_binit) (defBody s_binit) (defScope s_binit) [] [] f fd) (T : Tx K mg) : FnR P w K mg base (L2.CX P w) 9 f (spNew K "Book" fsB fnBook) := by
  refine ok_newSV (ps := ["self", "weights"]) (m := 1) (fjs := [("weights", 1), ("rules", 2)]) F sc_binit StX.cxUp (fun kV doc pm an cdv ct us rest hl => match us, hl, rest with | [_, _], _, [] => rfl | [_, _], _, _ :: _ => rfl) T.cl_Book (fun f hf => ?_) (by decide +kernel) (by decide) rfl (fun pn ds n Q R h => ?_) fun cdv A outer s pn D H E x ds1 ds2 n Qd R hr l1 h => ?_
  · simp only [List.map_cons, List.map_nil, List.mem_cons, List.not_mem_nil, or_false] at hf
    rcases hf with rfl | rfl
    · exact T.n_Book_weights
    · exact T.n_Book_rules
  · obtain ⟨wd, its, rfl, il, _⟩ := h
    rw [List.length_cons, List.length_map]
    exact ⟨by omega, bigN (by omega)⟩
  obtain ⟨wd, its, e, il, iok, h⟩ := h
  obtain ⟨a, rfl⟩ : ∃ a, ds1 = [a] := by
    match ds1, l1 with
    | [a], _ => exact ⟨a, rfl⟩
  have e : a :: ds2 = wd :: its.map madD := e
  injection e with e1 e2
  subst e1 e2
  refine ⟨_, (x_cons (s_if (DW.t (w_or (t_not (t_tru (d_callB (c_isiC (C := "Weights") (own_Weights T)) (by rfl) T.f_isinstance (by decide +kernel) (a_cons (d_var (pv 1)) (a_cons (d_fast (d := .raw (.ref _)) (pe_glob (v := .ref _) (by rfl) T.g_Weights rfl) (fun _ _ => .raw _)) a_nil))))) (w_or1 (t_cmp b_gt (d_lenV (by rfl) T.f_len (pv 2)) (d_fast (C8.pe_gc (by rfl) T.g_MOST_RULES) (fun _ _ => .int _)) (nomark _)))))
      (s_one (s_raise (xc_BadBook T) (takes_of rfl rfl rfl rfl) hr (by decide) (by rfl) (a_cons d_non a_nil))) s_nil)
      (x_cons (s_for (passes_of rfl) rfl (i_enum (by rfl) T.f_enumerate (d_var (pv 2))) (g_tup (n := 2) rfl (gs_cons (g_name (pg_name (i := 3) sc_binit.nd rfl (Or.inl rfl))) (gs_cons (g_name (pg_name (i := 4) sc_binit.nd rfl (Or.inr rfl))) gs_nil)) (glN (glN gl0)))
      (s_cons (s_if (DW.t (w_or (t_not (t_tru (d_callB (c_isiC (C := "Rule") (own_Rule T)) (by rfl) T.f_isinstance (by decide +kernel) (a_cons (d_var (pv 4)) (a_cons (d_fast (d := .raw (.ref _)) (pe_glob (v := .ref _) (by rfl) T.g_Rule rfl) (fun _ _ => .raw _)) a_nil))))) (w_or1 (t_not (t_tru (d_call (cIsRow T) hr (by decide) (by rfl) pass0 (a_cons (d_fld (fl_signs T) (d_var (pv 1))) (a_cons (d_op b_add (d_fld (fl_old T) (d_var (pv 4))) (d_fld (fl_new T) (d_var (pv 4)))) a_nil))))))))
      (s_one (s_raise (xc_BadBook T) (takes_of rfl rfl rfl rfl) hr (by decide) (by rfl) (a_cons (d_var (pv 3)) a_nil))) s_nil)
      (s_one (s_if (t_tru (d_callB (c_any (by rfl)) (by rfl) T.f_any (by decide +kernel) (a_cons (DF.de (f_lc (own := [("other", 5)]) (by rfl) sc_binit.nd (i_any (d_slice (d_var (pv 2)) o_none (o_some (d_var (pv 3))))) (blkOk_by (by kernel_rfl)) (fun _ _ _ _ _ => (g_name (pg_name (i := 5) sc_binit.nd rfl (Or.inl rfl)))) (by decide) (fun _ _ _ _ _ => pts_nil) simT_yes (fun _ _ _ _ _ => (d_cmpO (op := .Eq) (cREq T) (oth_Rule T) hr (by decide) pass0 (d_var (pv 4)) (d_var (pv 5)) (nomark _))))) a_nil)))
      (s_one (s_raise (xc_BadBook T) (takes_of rfl rfl rfl rfl) hr (by decide) (by rfl) (a_cons (d_var (pv 3)) a_nil))) s_nil))))
      (x_cons (s_expr (d_call (xLighter T) hr (by decide) (by rfl) (passes_call (takes_of rfl rfl rfl rfl) (fun _ _ _ _ h => h)) (a_cons (d_var (pv 1)) (a_cons (d_var (pv 2)) a_nil))))
      (x_tail (st_cons (pv 0) (pv 1) (st_cons (pv 0) (pv 2) st_nil)))))), ?_⟩
  have ll : (its.map madD).length = its.length := List.length_map _
  rcases h with ⟨ht, hR⟩ | ⟨ps, rfl, g, h8, h⟩
  · exact ⟨rfl, .inr ⟨ht, rfl, hR⟩⟩
  refine ⟨rfl, .inl ⟨rfl, ?_⟩⟩
  refine ite_F rfl ?_
  by_cases g8 : 8 < its.length
  case pos => exact ite_T (decide_eq_true (show (((its.map madD).length : Nat) : Int) > 8 by omega)) ⟨rfl, h8 g8⟩
  refine ite_F (decide_eq_false (show ¬ (((its.map madD).length : Nat) : Int) > 8 by omega)) ?_
  obtain ⟨hb, hq⟩ := h (by omega)
  refine ⟨fun i ρ => ∃ (v3 v4 : Option SV) (qs : List Rul), PreI (zOf ps) its i qs ∧ ρ = ⟨[some (.val (.raw (.ref x))), some (.val (wtsO ps)), some (.val (.tup (its.map madD))), v3, v4, none], n⟩, ⟨none, none, [], PreI.zero _ _, rfl⟩, ?_, ?_⟩
  · rintro i d ρ2 hd ⟨v3, v4, qs, pre, rfl⟩
    have hi := (List.getElem?_eq_some_iff.mp hd).1
    rw [enumD_len, ll] at hi
    obtain ⟨it, hit⟩ : ∃ it, its[i]? = some it := ⟨_, List.getElem?_eq_getElem hi⟩
    have hp : (its.map madD)[i]? = some (madD it) := by rw [List.getElem?_map, hit]; rfl
    rw [enumD_at hp] at hd
    cases hd
    have iO := iok it (List.mem_of_getElem? hit)
    have pl := pre.len
    cases it with
    | inr d => exact ⟨rfl, .inr ⟨iO, rfl, hb i ⟨qs, pre, _, hit, rfl⟩⟩⟩
    | inl q =>
      have n1 := iO.n1
      have n2 := iO.n2
      refine ⟨rfl, .inl ⟨rfl, ?_⟩⟩
      refine ⟨me_W, me_R, me_R, bigN (show (SX.S q.1).length + (SX.S q.2.1).length ≤ 1000000 by rw [SS_len, SS_len]; omega), zOf ps, q.1 ++ q.2.1, by rw [← S_cat]; rfl, by rw [List.length_append]; omega, ?_⟩
      have eI : ((q.1 ++ q.2.1).all fun c => decide (c ∈ zOf ps)) = inB (zOf ps) q := rfl
      rw [eI]
      cases hI : inB (zOf ps) q with
      | false => exact ⟨rfl, hb i ⟨qs, pre, _, hit, by show (inB (zOf ps) q && !decide (q ∈ qs)) = false; rw [hI]; rfl⟩⟩
      | true =>
        refine ite_F rfl ?_
        have qOk : ∀ p ∈ qs, RulOk p := fun p hp2 => by
          have m : (Sum.inl p : It) ∈ its.take i := by rw [pre.eq]; exact List.mem_map.mpr ⟨p, hp2, rfl⟩
          exact iok _ (List.mem_of_mem_take m)
        have et : cutD (its.map madD) none (some ((i : Nat) : Int)) = qs.map rulD := by
          unfold cutD
          rw [HT.sIx_none, HT.sIx_nat, ll, Nat.min_eq_left (Nat.le_of_lt hi)]
          show (its.map madD).take i = _
          rw [← List.map_take, pre.eq, List.map_map]
          rfl
        refine ⟨fun z => ?_, ?_⟩
        · have z2 := z.2
          rw [HT.sIx_nat, ll] at z2
          omega
        show LcIn _ _ _ _ _ (cutD (its.map madD) none (some ((i : Nat) : Int))) ⟨[some (.val (.raw (.ref x))), some (.val (wtsO ps)), some (.val (.tup (its.map madD))), some (.val (.int ((i : Nat) : Int))), some (.val (rulD q)), none], n⟩
        rw [et]
        refine lc_xs (vs := [5]) (sl := [some (.val (.raw (.ref x))), some (.val (wtsO ps)), some (.val (.tup (its.map madD))), some (.val (.int ((i : Nat) : Int))), some (.val (rulD q)), none]) qs rulD (fun p => DV.bl (qB q p)) (by omega) rfl (fun p kk hp2 hk => ?_) ?_
        · have pO := qOk p hp2
          exact ⟨rfl, rfl, q.1, q.2.1, q.2.2.1, q.2.2.2, rulD p, rfl, iO.l1, iO.l2, .inl ⟨p.1, p.2.1, p.2.2.1, p.2.2.2, rfl, pO.l1, pO.l2, hk _ (by repeat' first | exact .nil | refine .eq ?_ | refine .no ?_)⟩⟩
        show (match bools (qs.map fun p => DV.bl (qB q p)) with | some bs => _ | none => False)
        rw [bools_mapR]
        have ea : ((qs.map (qB q)).any id) = decide (q ∈ qs) := by
          rw [List.any_map]
          by_cases hm : q ∈ qs
          · rw [decide_eq_true hm, List.any_eq_true]
            exact ⟨q, hm, by show qB q q = true; rw [qB_eq, decide_eq_true rfl]⟩
          · rw [decide_eq_false hm, List.any_eq_false]
            intro p hp2 z
            have z2 : qB q p = true := z
            rw [qB_eq] at z2
            exact hm (of_decide_eq_true z2 ▸ hp2)
        show (match tru (DV.bl ((qs.map (qB q)).any id)) with | some k => _ | none => False)
        rw [ea]
        by_cases hm : q ∈ qs
        · rw [decide_eq_true hm]
          exact ⟨rfl, hb i ⟨qs, pre, _, hit, by show (inB (zOf ps) q && !decide (q ∈ qs)) = false; rw [decide_eq_true hm, Bool.and_comm]; rfl⟩⟩
        · rw [decide_eq_false hm]
          exact ⟨_, n, (by repeat' first | exact .nil | refine .eq ?_ | refine .no ?_), Nat.le_refl _, _, _, _, pre.next hit hI hm, rfl⟩
  · rintro ρ2 ⟨v3, v4, qs, pre, rfl⟩
    rw [enumD_len, ll] at pre
    obtain ⟨hH, hQ⟩ := hq qs pre
    have ee : its.map madD = qs.map rulD := by
      rw [AllI.eq' pre, List.map_map]
      rfl
    have qin : ∀ q ∈ qs, inB (ps.map (·.1)) q = true ∧ RulOk q := fun q hq2 => by
      refine ⟨pre.ok q hq2, ?_⟩
      have m : (Sum.inl q : It) ∈ its := by rw [AllI.eq' pre]; exact List.mem_map.mpr ⟨q, hq2, rfl⟩
      exact iok _ m
    refine ⟨ps, qs, by rw [ee], g, qin, by rw [pre.len]; omega, hH, fun hl => ?_⟩
    refine ⟨rfl, [_, _], ⟨rfl, rfl, True.intro⟩, ?_⟩
    rw [ee]
    exact hQ hl
theorem mBook (T : Tx K mg) : MkS P w K mg base (L2.CX P w) 9 "Book" (a_Book K) (spNew K "Book" fsB fnBook) := by
  obtain ⟨fd, F⟩ := T.d_binit
  exact ⟨⟨_, T.mk_Book, ok_binit F T, T.g_Book⟩⟩
end
end Rg
namespace Rg
open PySem PySem.Spec PyProof.Rows L2
section
variable {P : Program} {w : World} {K : PySem.W.Frag} {mg : Str → Option Value} {base : Heap}
def nm21 : List Str := ["BadSigns", "BadRow", "BadRule", "BadBook", "Heavier", "Unlessened", "BadMove", "BadMachine", "BadGame", "BadSeat", "OtherSigns", "BadNumber", "BadText", "BadLine", "TooMany", "NoMove", "NotWon", "NotRight", "NotKept", "NotThere", "NothingPlayed"]
def nmIn : List Str := ["BadSigns", "BadRow", "BadRule", "BadBook", "Heavier", "Unlessened", "BadMove", "BadMachine", "BadGame", "BadSeat", "OtherSigns", "BadNumber", "BadText", "BadLine"]
def nmNo : List Str := ["TooMany", "NoMove", "NotWon", "NotRight", "NotKept", "NotThere", "NothingPlayed"]
def subB (C D : Str) : Bool := (subX exT C D).getD false
def nmAll : List Str := ("GameError" : Str) :: nm21
theorem sub_all : ∀ C ∈ nmAll, ∀ D ∈ ("GameError" :: "BadInput" :: "NoAnswer" :: nm21 : List Str), subX exT C D = some (subB C D) := by decide +kernel
theorem look_all : ∀ C ∈ nmAll, (exT.lookup C).isSome = true := by decide +kernel
def kindsN (C : Str) : Nat := (nm21.filter (subB C)).length
theorem kinds_one : ∀ C ∈ nm21, kindsN C = 1 := by decide +kernel
theorem grp_in : ∀ C ∈ nmIn, subB C "GameError" = true ∧ subB C "BadInput" = true ∧ subB C "NoAnswer" = false := by decide +kernel
theorem grp_no : ∀ C ∈ nmNo, subB C "GameError" = true ∧ subB C "BadInput" = false ∧ subB C "NoAnswer" = true := by decide +kernel
def fnGroup : PFn := fun _ ds n Q _ => ∃ (C : Str) (fs : List Str) (zs : List DV) (b : Bool), ds = [.node (.exc C fs) zs, .bl b] ∧ (C ∈ nmIn ∨ C ∈ nmNo) ∧ Q (.bl (decide (decide (C ∈ nmIn) = b))) n
theorem ok_group {f : Addr} {fd : FuncData} (F : FunD K "_law_group" "_law_group" (defArgs s_group) (defBody s_group) (defScope s_group) [] [] f fd) (T : Tx K mg) : FnOk P w K mg base CX0 1 f fd ["_law_error", "_law_is_input"] (spP K fnGroup) := by
  refine ok_p F sc_group (fun pn ds n Q R h => ?_) fun cdv A outer s pn D H E ds n Qd R hr h => ?_
  · obtain ⟨C, fs, zs, b, rfl, _⟩ := h
    rfl
  obtain ⟨C, fs, zs, b, rfl, hC, hq⟩ := h
  refine ⟨_, DSs.nox (s_cons (s_if (DW.t (w_or (t_not (t_tru (d_callB (c_isE (kn := none) T.xE T.xK T.xV (fun _ _ z => nomatch z)) (by rfl) T.f_isinstance (by decide +kernel) (a_cons (d_var (pv 0)) (a_cons (d_fast (d := .raw (.ref _)) (pe_glob (v := .ref _) (by rfl) T.g_GameError rfl) (fun _ _ => .raw _)) a_nil))))) (w_or1 (t_not (t_tru (d_callB (c_isE (kn := none) T.xE T.xK T.xV (fun _ _ z => nomatch z)) (by rfl) T.f_isinstance (by decide +kernel) (a_cons (d_var (pv 0)) (a_cons (d_fast (d := .raw (.ty "ValueError")) (pe_bltn (v := .ty "ValueError") (by rfl) T.f_ValueError (by decide +kernel) rfl) (fun _ _ => .raw _)) a_nil))))))))
      (s_one (s_ret d_bl)) s_nil)
      (s_one (s_ret (d_and (d_cmp (b_eq hr.units) (d_callB (c_isE (kn := none) T.xE T.xK T.xV (fun _ _ z => nomatch z)) (by rfl) T.f_isinstance (by decide +kernel) (a_cons (d_var (pv 0)) (a_cons (d_fast (d := .raw (.ref _)) (pe_glob (v := .ref _) (by rfl) T.g_BadInput rfl) (fun _ _ => .raw _)) a_nil))) (d_var (pv 1)) (nomark _)) (d_one (d_cmp (b_ne hr.units) (d_callB (c_isE (kn := none) T.xE T.xK T.xV (fun _ _ z => nomatch z)) (by rfl) T.f_isinstance (by decide +kernel) (a_cons (d_var (pv 0)) (a_cons (d_fast (d := .raw (.ref _)) (pe_glob (v := .ref _) (by rfl) T.g_NoAnswer rfl) (fun _ _ => .raw _)) a_nil))) (d_var (pv 1)) (nomark _))))))), ?_⟩
  have cA : C ∈ nmAll := by
    have k1 : ∀ C ∈ nmIn, C ∈ nmAll := by decide +kernel
    have k2 : ∀ C ∈ nmNo, C ∈ nmAll := by decide +kernel
    exact hC.elim (k1 C) (k2 C)
  have g0 := sub_all C cA "GameError" (by decide)
  have g1 := sub_all C cA "BadInput" (by decide)
  have g2 := sub_all C cA "NoAnswer" (by decide)
  have ev : isA K exT (.node (.exc C fs) zs) (.raw (.ty "ValueError")) true → True := fun _ => True.intro
  have i0 : subB C "GameError" = true := hC.elim (fun z => (grp_in C z).1) (fun z => (grp_no C z).1)
  have i1 : subB C "BadInput" = decide (C ∈ nmIn) := by
    rcases hC with z | z
    · rw [(grp_in C z).2.1, decide_eq_true z]
    · have : ∀ C ∈ nmNo, C ∉ nmIn := by decide +kernel
      rw [(grp_no C z).2.1, decide_eq_false (this C z)]
  have i2 : subB C "NoAnswer" = !decide (C ∈ nmIn) := by
    rcases hC with z | z
    · rw [(grp_in C z).2.2, decide_eq_true z]
      rfl
    · have : ∀ C ∈ nmNo, C ∉ nmIn := by decide +kernel
      rw [(grp_no C z).2.2, decide_eq_false (this C z)]
      rfl
  refine ⟨true, ⟨"GameError", rfl, by rw [g0, i0]⟩, ?_⟩
  refine ⟨rfl, look_all C cA, ?_⟩
  by_cases hm : C ∈ nmIn
  · rw [i1, decide_eq_true hm] at g1
    rw [i2, decide_eq_true hm] at g2
    rw [decide_eq_true hm] at hq
    refine ⟨true, ⟨"BadInput", rfl, g1⟩, ?_⟩
    cases b with
    | true => exact ⟨false, ⟨"NoAnswer", rfl, g2⟩, hq⟩
    | false => exact hq
  · rw [i1, decide_eq_false hm] at g1
    rw [i2, decide_eq_false hm] at g2
    rw [decide_eq_false hm] at hq
    refine ⟨false, ⟨"BadInput", rfl, g1⟩, ?_⟩
    cases b with
    | true => exact hq
    | false => exact ⟨true, ⟨"NoAnswer", rfl, g2⟩, hq⟩
theorem cGroup (T : Tx K mg) : CalX P w K mg base CX0 1 "_law_group" (spP K fnGroup) := c_group T fun _ F => ok_group F T
def fnKinds : PFn := fun _ ds n Q _ => ∃ (C : Str) (fs : List Str) (zs : List DV), ds = [.node (.exc C fs) zs] ∧ C ∈ nmAll ∧ Q (.int ((kindsN C : Nat) : Int)) n
theorem ok_kinds {f : Addr} {fd : FuncData} (F : FunD K "_law_kinds" "_law_kinds" (defArgs s_kinds) (defBody s_kinds) (defScope s_kinds) [] [] f fd) (T : Tx K mg) : FnOk P w K mg base CX0 1 f fd ["_law_error"] (spP K fnKinds) := by
  refine ok_p F sc_kinds (fun pn ds n Q R h => ?_) fun cdv A outer s pn D H E ds n Qd R hr h => ?_
  · obtain ⟨C, fs, zs, rfl, _⟩ := h
    rfl
  obtain ⟨C, fs, zs, rfl, cA, hq⟩ := h
  refine ⟨_, DSs.nox (s_cons (s_set (i := 1) sc_kinds.nd rfl (Or.inl rfl) (DF.de (f_lst (a_cons (d_callB (c_isE (kn := none) T.xE T.xK T.xV (fun _ _ z => nomatch z)) (by rfl) T.f_isinstance (by decide +kernel) (a_cons (d_var (pv 0)) (a_cons (d_fast (d := .raw (.ref _)) (pe_glob (v := .ref _) (by rfl) T.g_BadSigns rfl) (fun _ _ => .raw _)) a_nil))) (a_cons (d_callB (c_isE (kn := none) T.xE T.xK T.xV (fun _ _ z => nomatch z)) (by rfl) T.f_isinstance (by decide +kernel) (a_cons (d_var (pv 0)) (a_cons (d_fast (d := .raw (.ref _)) (pe_glob (v := .ref _) (by rfl) T.g_BadRow rfl) (fun _ _ => .raw _)) a_nil))) (a_cons (d_callB (c_isE (kn := none) T.xE T.xK T.xV (fun _ _ z => nomatch z)) (by rfl) T.f_isinstance (by decide +kernel) (a_cons (d_var (pv 0)) (a_cons (d_fast (d := .raw (.ref _)) (pe_glob (v := .ref _) (by rfl) T.g_BadRule rfl) (fun _ _ => .raw _)) a_nil))) a_nil))))))
      (s_cons (s_set (i := 1) sc_kinds.nd rfl (Or.inl rfl) (d_op b_add (d_var (pv 1)) (DF.de (f_lst (a_cons (d_callB (c_isE (kn := none) T.xE T.xK T.xV (fun _ _ z => nomatch z)) (by rfl) T.f_isinstance (by decide +kernel) (a_cons (d_var (pv 0)) (a_cons (d_fast (d := .raw (.ref _)) (pe_glob (v := .ref _) (by rfl) T.g_BadBook rfl) (fun _ _ => .raw _)) a_nil))) a_nil)))))
      (s_cons (s_set (i := 1) sc_kinds.nd rfl (Or.inl rfl) (d_op b_add (d_var (pv 1)) (DF.de (f_lst (a_cons (d_callB (c_isE (kn := none) T.xE T.xK T.xV (fun _ _ z => nomatch z)) (by rfl) T.f_isinstance (by decide +kernel) (a_cons (d_var (pv 0)) (a_cons (d_fast (d := .raw (.ref _)) (pe_glob (v := .ref _) (by rfl) T.g_Heavier rfl) (fun _ _ => .raw _)) a_nil))) (a_cons (d_callB (c_isE (kn := none) T.xE T.xK T.xV (fun _ _ z => nomatch z)) (by rfl) T.f_isinstance (by decide +kernel) (a_cons (d_var (pv 0)) (a_cons (d_fast (d := .raw (.ref _)) (pe_glob (v := .ref _) (by rfl) T.g_Unlessened rfl) (fun _ _ => .raw _)) a_nil))) (a_cons (d_callB (c_isE (kn := none) T.xE T.xK T.xV (fun _ _ z => nomatch z)) (by rfl) T.f_isinstance (by decide +kernel) (a_cons (d_var (pv 0)) (a_cons (d_fast (d := .raw (.ref _)) (pe_glob (v := .ref _) (by rfl) T.g_BadMove rfl) (fun _ _ => .raw _)) a_nil))) a_nil)))))))
      (s_cons (s_set (i := 1) sc_kinds.nd rfl (Or.inl rfl) (d_op b_add (d_var (pv 1)) (DF.de (f_lst (a_cons (d_callB (c_isE (kn := none) T.xE T.xK T.xV (fun _ _ z => nomatch z)) (by rfl) T.f_isinstance (by decide +kernel) (a_cons (d_var (pv 0)) (a_cons (d_fast (d := .raw (.ref _)) (pe_glob (v := .ref _) (by rfl) T.g_BadMachine rfl) (fun _ _ => .raw _)) a_nil))) (a_cons (d_callB (c_isE (kn := none) T.xE T.xK T.xV (fun _ _ z => nomatch z)) (by rfl) T.f_isinstance (by decide +kernel) (a_cons (d_var (pv 0)) (a_cons (d_fast (d := .raw (.ref _)) (pe_glob (v := .ref _) (by rfl) T.g_BadGame rfl) (fun _ _ => .raw _)) a_nil))) (a_cons (d_callB (c_isE (kn := none) T.xE T.xK T.xV (fun _ _ z => nomatch z)) (by rfl) T.f_isinstance (by decide +kernel) (a_cons (d_var (pv 0)) (a_cons (d_fast (d := .raw (.ref _)) (pe_glob (v := .ref _) (by rfl) T.g_BadSeat rfl) (fun _ _ => .raw _)) a_nil))) a_nil)))))))
      (s_cons (s_set (i := 1) sc_kinds.nd rfl (Or.inl rfl) (d_op b_add (d_var (pv 1)) (DF.de (f_lst (a_cons (d_callB (c_isE (kn := none) T.xE T.xK T.xV (fun _ _ z => nomatch z)) (by rfl) T.f_isinstance (by decide +kernel) (a_cons (d_var (pv 0)) (a_cons (d_fast (d := .raw (.ref _)) (pe_glob (v := .ref _) (by rfl) T.g_OtherSigns rfl) (fun _ _ => .raw _)) a_nil))) (a_cons (d_callB (c_isE (kn := none) T.xE T.xK T.xV (fun _ _ z => nomatch z)) (by rfl) T.f_isinstance (by decide +kernel) (a_cons (d_var (pv 0)) (a_cons (d_fast (d := .raw (.ref _)) (pe_glob (v := .ref _) (by rfl) T.g_BadNumber rfl) (fun _ _ => .raw _)) a_nil))) (a_cons (d_callB (c_isE (kn := none) T.xE T.xK T.xV (fun _ _ z => nomatch z)) (by rfl) T.f_isinstance (by decide +kernel) (a_cons (d_var (pv 0)) (a_cons (d_fast (d := .raw (.ref _)) (pe_glob (v := .ref _) (by rfl) T.g_BadText rfl) (fun _ _ => .raw _)) a_nil))) a_nil)))))))
      (s_cons (s_set (i := 1) sc_kinds.nd rfl (Or.inl rfl) (d_op b_add (d_var (pv 1)) (DF.de (f_lst (a_cons (d_callB (c_isE (kn := none) T.xE T.xK T.xV (fun _ _ z => nomatch z)) (by rfl) T.f_isinstance (by decide +kernel) (a_cons (d_var (pv 0)) (a_cons (d_fast (d := .raw (.ref _)) (pe_glob (v := .ref _) (by rfl) T.g_BadLine rfl) (fun _ _ => .raw _)) a_nil))) (a_cons (d_callB (c_isE (kn := none) T.xE T.xK T.xV (fun _ _ z => nomatch z)) (by rfl) T.f_isinstance (by decide +kernel) (a_cons (d_var (pv 0)) (a_cons (d_fast (d := .raw (.ref _)) (pe_glob (v := .ref _) (by rfl) T.g_TooMany rfl) (fun _ _ => .raw _)) a_nil))) (a_cons (d_callB (c_isE (kn := none) T.xE T.xK T.xV (fun _ _ z => nomatch z)) (by rfl) T.f_isinstance (by decide +kernel) (a_cons (d_var (pv 0)) (a_cons (d_fast (d := .raw (.ref _)) (pe_glob (v := .ref _) (by rfl) T.g_NoMove rfl) (fun _ _ => .raw _)) a_nil))) a_nil)))))))
      (s_cons (s_set (i := 1) sc_kinds.nd rfl (Or.inl rfl) (d_op b_add (d_var (pv 1)) (DF.de (f_lst (a_cons (d_callB (c_isE (kn := none) T.xE T.xK T.xV (fun _ _ z => nomatch z)) (by rfl) T.f_isinstance (by decide +kernel) (a_cons (d_var (pv 0)) (a_cons (d_fast (d := .raw (.ref _)) (pe_glob (v := .ref _) (by rfl) T.g_NotWon rfl) (fun _ _ => .raw _)) a_nil))) (a_cons (d_callB (c_isE (kn := none) T.xE T.xK T.xV (fun _ _ z => nomatch z)) (by rfl) T.f_isinstance (by decide +kernel) (a_cons (d_var (pv 0)) (a_cons (d_fast (d := .raw (.ref _)) (pe_glob (v := .ref _) (by rfl) T.g_NotRight rfl) (fun _ _ => .raw _)) a_nil))) (a_cons (d_callB (c_isE (kn := none) T.xE T.xK T.xV (fun _ _ z => nomatch z)) (by rfl) T.f_isinstance (by decide +kernel) (a_cons (d_var (pv 0)) (a_cons (d_fast (d := .raw (.ref _)) (pe_glob (v := .ref _) (by rfl) T.g_NotKept rfl) (fun _ _ => .raw _)) a_nil))) a_nil)))))))
      (s_cons (s_set (i := 1) sc_kinds.nd rfl (Or.inl rfl) (d_op b_add (d_var (pv 1)) (DF.de (f_lst (a_cons (d_callB (c_isE (kn := none) T.xE T.xK T.xV (fun _ _ z => nomatch z)) (by rfl) T.f_isinstance (by decide +kernel) (a_cons (d_var (pv 0)) (a_cons (d_fast (d := .raw (.ref _)) (pe_glob (v := .ref _) (by rfl) T.g_NotThere rfl) (fun _ _ => .raw _)) a_nil))) (a_cons (d_callB (c_isE (kn := none) T.xE T.xK T.xV (fun _ _ z => nomatch z)) (by rfl) T.f_isinstance (by decide +kernel) (a_cons (d_var (pv 0)) (a_cons (d_fast (d := .raw (.ref _)) (pe_glob (v := .ref _) (by rfl) T.g_NothingPlayed rfl) (fun _ _ => .raw _)) a_nil))) a_nil))))))
      (s_one (s_ret (d_callB c_len (by rfl) T.f_len (by decide +kernel) (a_cons (DF.de (f_lc (own := [("_law_flag", 2)]) (by rfl) sc_kinds.nd (i_any (d_var (pv 1))) (blkOk_by (by kernel_rfl)) (fun _ _ _ _ _ => (g_name (pg_name (i := 2) sc_kinds.nd rfl (Or.inl rfl)))) (by decide) (fun _ _ _ _ _ => pts_one ((t_tru (d_var (pv 2)))).run) simT_l (fun _ _ _ _ _ => (d_var (pv 2))))) a_nil)))))))))))), ?_⟩
  have sb : ∀ D : Str, D ∈ ("GameError" :: "BadInput" :: "NoAnswer" :: nm21 : List Str) → subX exT C D = some (subB C D) := sub_all C cA
  refine ⟨_, ⟨"BadSigns", rfl, sb "BadSigns" (by decide)⟩, _, ⟨"BadRow", rfl, sb "BadRow" (by decide)⟩, _, ⟨"BadRule", rfl, sb "BadRule" (by decide)⟩, (show 3 ≤ sizeLine by decide), ?_⟩
  refine ⟨_, ⟨"BadBook", rfl, sb "BadBook" (by decide)⟩, (show 1 ≤ sizeLine by decide), (show 3 + 1 ≤ sizeLine by decide), ?_⟩
  refine ⟨_, ⟨"Heavier", rfl, sb "Heavier" (by decide)⟩, _, ⟨"Unlessened", rfl, sb "Unlessened" (by decide)⟩, _, ⟨"BadMove", rfl, sb "BadMove" (by decide)⟩, (show 3 ≤ sizeLine by decide), (show 4 + 3 ≤ sizeLine by decide), ?_⟩
  refine ⟨_, ⟨"BadMachine", rfl, sb "BadMachine" (by decide)⟩, _, ⟨"BadGame", rfl, sb "BadGame" (by decide)⟩, _, ⟨"BadSeat", rfl, sb "BadSeat" (by decide)⟩, (show 3 ≤ sizeLine by decide), (show 7 + 3 ≤ sizeLine by decide), ?_⟩
  refine ⟨_, ⟨"OtherSigns", rfl, sb "OtherSigns" (by decide)⟩, _, ⟨"BadNumber", rfl, sb "BadNumber" (by decide)⟩, _, ⟨"BadText", rfl, sb "BadText" (by decide)⟩, (show 3 ≤ sizeLine by decide), (show 10 + 3 ≤ sizeLine by decide), ?_⟩
  refine ⟨_, ⟨"BadLine", rfl, sb "BadLine" (by decide)⟩, _, ⟨"TooMany", rfl, sb "TooMany" (by decide)⟩, _, ⟨"NoMove", rfl, sb "NoMove" (by decide)⟩, (show 3 ≤ sizeLine by decide), (show 13 + 3 ≤ sizeLine by decide), ?_⟩
  refine ⟨_, ⟨"NotWon", rfl, sb "NotWon" (by decide)⟩, _, ⟨"NotRight", rfl, sb "NotRight" (by decide)⟩, _, ⟨"NotKept", rfl, sb "NotKept" (by decide)⟩, (show 3 ≤ sizeLine by decide), (show 16 + 3 ≤ sizeLine by decide), ?_⟩
  refine ⟨_, ⟨"NotThere", rfl, sb "NotThere" (by decide)⟩, _, ⟨"NothingPlayed", rfl, sb "NothingPlayed" (by decide)⟩, (show 2 ≤ sizeLine by decide), (show 19 + 2 ≤ sizeLine by decide), ?_⟩
  have eF : ([.bl (subB C "BadSigns"), .bl (subB C "BadRow"), .bl (subB C "BadRule"), .bl (subB C "BadBook"), .bl (subB C "Heavier"), .bl (subB C "Unlessened"), .bl (subB C "BadMove"), .bl (subB C "BadMachine"), .bl (subB C "BadGame"), .bl (subB C "BadSeat"), .bl (subB C "OtherSigns"), .bl (subB C "BadNumber"), .bl (subB C "BadText"), .bl (subB C "BadLine"), .bl (subB C "TooMany"), .bl (subB C "NoMove"), .bl (subB C "NotWon"), .bl (subB C "NotRight"), .bl (subB C "NotKept"), .bl (subB C "NotThere"), .bl (subB C "NothingPlayed")] : List DV) = nm21.map fun D => DV.bl (subB C D) := rfl
  show LcIn _ _ _ _ _ ([.bl (subB C "BadSigns"), .bl (subB C "BadRow"), .bl (subB C "BadRule"), .bl (subB C "BadBook"), .bl (subB C "Heavier"), .bl (subB C "Unlessened"), .bl (subB C "BadMove"), .bl (subB C "BadMachine"), .bl (subB C "BadGame"), .bl (subB C "BadSeat"), .bl (subB C "OtherSigns"), .bl (subB C "BadNumber"), .bl (subB C "BadText"), .bl (subB C "BadLine"), .bl (subB C "TooMany"), .bl (subB C "NoMove"), .bl (subB C "NotWon"), .bl (subB C "NotRight"), .bl (subB C "NotKept"), .bl (subB C "NotThere"), .bl (subB C "NothingPlayed")] : List DV) _
  rw [eF]
  refine lc_xsel (vs := [2]) (sl := [some (.val (.node (.exc C fs) zs)), some (.val (.lst (nm21.map fun D => DV.bl (subB C D)))), none]) nm21 (fun D => DV.bl (subB C D)) (fun D => DV.bl (subB C D)) (subB C) (by decide) rfl (fun D kk k0 hD r1 r2 => ?_) ?_
  · cases e : subB C D with
    | true =>
      have z := r1 e
      rw [e] at z
      exact z _ (by repeat' first | exact .nil | refine .eq ?_ | refine .no ?_)
    | false => exact r2 e _ (by repeat' first | exact .nil | refine .eq ?_ | refine .no ?_)
  show Qd (.int ((((nm21.filter (subB C)).map fun D => DV.bl (subB C D)).length : Nat) : Int)) n
  rw [List.length_map]
  exact hq
theorem cKinds (T : Tx K mg) : CalX P w K mg base CX0 1 "_law_kinds" (spP K fnKinds) := c_kinds T fun _ F => ok_kinds F T
def fnGroupE : Addr → Str → PFn := fun a C _ ds n Q _ => ∃ b : Bool, ds = [.raw (.ref a), .bl b] ∧ (C ∈ nmIn ∨ C ∈ nmNo) ∧ Q (.bl (decide (decide (C ∈ nmIn) = b))) n
theorem ok_groupE {f : Addr} {fd : FuncData} (F : FunD K "_law_group" "_law_group" (defArgs s_group) (defBody s_group) (defScope s_group) [] [] f fd) (T : Tx K mg) : FnOk P w K mg base CX0 1 f fd ["_law_error", "_law_is_input"] (spE K fnGroupE) := by
  refine ok_pE F sc_group (fun ax Cx pn ds n Q R h => ?_) fun cdv A outer s pn D H E ax C ds n Qd R hr hDx h => ?_
  · obtain ⟨b, rfl, _⟩ := h
    rfl
  obtain ⟨b, rfl, hC, hq⟩ := h
  let Cx := C
  refine ⟨_, DSs.nox (s_cons (s_if (DW.t (w_or (t_not (t_tru (d_callB (c_isE (kn := some (ax, Cx)) T.xE T.xK T.xV (fun _ _ z => by cases z; exact hDx)) (by rfl) T.f_isinstance (by decide +kernel) (a_cons (d_var (pv 0)) (a_cons (d_fast (d := .raw (.ref _)) (pe_glob (v := .ref _) (by rfl) T.g_GameError rfl) (fun _ _ => .raw _)) a_nil))))) (w_or1 (t_not (t_tru (d_callB (c_isE (kn := some (ax, Cx)) T.xE T.xK T.xV (fun _ _ z => by cases z; exact hDx)) (by rfl) T.f_isinstance (by decide +kernel) (a_cons (d_var (pv 0)) (a_cons (d_fast (d := .raw (.ty "ValueError")) (pe_bltn (v := .ty "ValueError") (by rfl) T.f_ValueError (by decide +kernel) rfl) (fun _ _ => .raw _)) a_nil))))))))
      (s_one (s_ret d_bl)) s_nil)
      (s_one (s_ret (d_and (d_cmp (b_eq hr.units) (d_callB (c_isE (kn := some (ax, Cx)) T.xE T.xK T.xV (fun _ _ z => by cases z; exact hDx)) (by rfl) T.f_isinstance (by decide +kernel) (a_cons (d_var (pv 0)) (a_cons (d_fast (d := .raw (.ref _)) (pe_glob (v := .ref _) (by rfl) T.g_BadInput rfl) (fun _ _ => .raw _)) a_nil))) (d_var (pv 1)) (nomark _)) (d_one (d_cmp (b_ne hr.units) (d_callB (c_isE (kn := some (ax, Cx)) T.xE T.xK T.xV (fun _ _ z => by cases z; exact hDx)) (by rfl) T.f_isinstance (by decide +kernel) (a_cons (d_var (pv 0)) (a_cons (d_fast (d := .raw (.ref _)) (pe_glob (v := .ref _) (by rfl) T.g_NoAnswer rfl) (fun _ _ => .raw _)) a_nil))) (d_var (pv 1)) (nomark _))))))), ?_⟩
  have cA : C ∈ nmAll := by
    have k1 : ∀ C ∈ nmIn, C ∈ nmAll := by decide +kernel
    have k2 : ∀ C ∈ nmNo, C ∈ nmAll := by decide +kernel
    exact hC.elim (k1 C) (k2 C)
  have g0 := sub_all C cA "GameError" (by decide)
  have g1 := sub_all C cA "BadInput" (by decide)
  have g2 := sub_all C cA "NoAnswer" (by decide)
  have i0 : subB C "GameError" = true := hC.elim (fun z => (grp_in C z).1) (fun z => (grp_no C z).1)
  have i1 : subB C "BadInput" = decide (C ∈ nmIn) := by
    rcases hC with z | z
    · rw [(grp_in C z).2.1, decide_eq_true z]
    · have : ∀ C ∈ nmNo, C ∉ nmIn := by decide +kernel
      rw [(grp_no C z).2.1, decide_eq_false (this C z)]
  have i2 : subB C "NoAnswer" = !decide (C ∈ nmIn) := by
    rcases hC with z | z
    · rw [(grp_in C z).2.2, decide_eq_true z]
      rfl
    · have : ∀ C ∈ nmNo, C ∉ nmIn := by decide +kernel
      rw [(grp_no C z).2.2, decide_eq_false (this C z)]
      rfl
  refine ⟨C, "GameError", true, rfl, rfl, by rw [g0, i0], ?_⟩
  refine ⟨rfl, ⟨C, rfl, look_all C cA⟩, ?_⟩
  by_cases hm : C ∈ nmIn
  · rw [i1, decide_eq_true hm] at g1
    rw [i2, decide_eq_true hm] at g2
    rw [decide_eq_true hm] at hq
    refine ⟨C, "BadInput", true, rfl, rfl, g1, ?_⟩
    cases b with
    | true => exact ⟨C, "NoAnswer", false, rfl, rfl, g2, hq⟩
    | false => exact hq
  · rw [i1, decide_eq_false hm] at g1
    rw [i2, decide_eq_false hm] at g2
    rw [decide_eq_false hm] at hq
    refine ⟨C, "BadInput", false, rfl, rfl, g1, ?_⟩
    cases b with
    | true => exact hq
    | false => exact ⟨C, "NoAnswer", true, rfl, rfl, g2, hq⟩
theorem cGroupE (T : Tx K mg) : CalX P w K mg base CX0 1 "_law_group" (spE K fnGroupE) := c_group T fun _ F => ok_groupE F T
def fnKindsE : Addr → Str → PFn := fun a C _ ds n Q _ => ds = [.raw (.ref a)] ∧ C ∈ nmAll ∧ Q (.int ((kindsN C : Nat) : Int)) n
theorem ok_kindsE {f : Addr} {fd : FuncData} (F : FunD K "_law_kinds" "_law_kinds" (defArgs s_kinds) (defBody s_kinds) (defScope s_kinds) [] [] f fd) (T : Tx K mg) : FnOk P w K mg base CX0 1 f fd ["_law_error"] (spE K fnKindsE) := by
  refine ok_pE F sc_kinds (fun ax Cx pn ds n Q R h => ?_) fun cdv A outer s pn D H E ax C ds n Qd R hr hDx h => ?_
  · obtain ⟨rfl, _⟩ := h
    rfl
  obtain ⟨rfl, cA, hq⟩ := h
  let Cx := C
  refine ⟨_, DSs.nox (s_cons (s_set (i := 1) sc_kinds.nd rfl (Or.inl rfl) (DF.de (f_lst (a_cons (d_callB (c_isE (kn := some (ax, Cx)) T.xE T.xK T.xV (fun _ _ z => by cases z; exact hDx)) (by rfl) T.f_isinstance (by decide +kernel) (a_cons (d_var (pv 0)) (a_cons (d_fast (d := .raw (.ref _)) (pe_glob (v := .ref _) (by rfl) T.g_BadSigns rfl) (fun _ _ => .raw _)) a_nil))) (a_cons (d_callB (c_isE (kn := some (ax, Cx)) T.xE T.xK T.xV (fun _ _ z => by cases z; exact hDx)) (by rfl) T.f_isinstance (by decide +kernel) (a_cons (d_var (pv 0)) (a_cons (d_fast (d := .raw (.ref _)) (pe_glob (v := .ref _) (by rfl) T.g_BadRow rfl) (fun _ _ => .raw _)) a_nil))) (a_cons (d_callB (c_isE (kn := some (ax, Cx)) T.xE T.xK T.xV (fun _ _ z => by cases z; exact hDx)) (by rfl) T.f_isinstance (by decide +kernel) (a_cons (d_var (pv 0)) (a_cons (d_fast (d := .raw (.ref _)) (pe_glob (v := .ref _) (by rfl) T.g_BadRule rfl) (fun _ _ => .raw _)) a_nil))) a_nil))))))
      (s_cons (s_set (i := 1) sc_kinds.nd rfl (Or.inl rfl) (d_op b_add (d_var (pv 1)) (DF.de (f_lst (a_cons (d_callB (c_isE (kn := some (ax, Cx)) T.xE T.xK T.xV (fun _ _ z => by cases z; exact hDx)) (by rfl) T.f_isinstance (by decide +kernel) (a_cons (d_var (pv 0)) (a_cons (d_fast (d := .raw (.ref _)) (pe_glob (v := .ref _) (by rfl) T.g_BadBook rfl) (fun _ _ => .raw _)) a_nil))) a_nil)))))
      (s_cons (s_set (i := 1) sc_kinds.nd rfl (Or.inl rfl) (d_op b_add (d_var (pv 1)) (DF.de (f_lst (a_cons (d_callB (c_isE (kn := some (ax, Cx)) T.xE T.xK T.xV (fun _ _ z => by cases z; exact hDx)) (by rfl) T.f_isinstance (by decide +kernel) (a_cons (d_var (pv 0)) (a_cons (d_fast (d := .raw (.ref _)) (pe_glob (v := .ref _) (by rfl) T.g_Heavier rfl) (fun _ _ => .raw _)) a_nil))) (a_cons (d_callB (c_isE (kn := some (ax, Cx)) T.xE T.xK T.xV (fun _ _ z => by cases z; exact hDx)) (by rfl) T.f_isinstance (by decide +kernel) (a_cons (d_var (pv 0)) (a_cons (d_fast (d := .raw (.ref _)) (pe_glob (v := .ref _) (by rfl) T.g_Unlessened rfl) (fun _ _ => .raw _)) a_nil))) (a_cons (d_callB (c_isE (kn := some (ax, Cx)) T.xE T.xK T.xV (fun _ _ z => by cases z; exact hDx)) (by rfl) T.f_isinstance (by decide +kernel) (a_cons (d_var (pv 0)) (a_cons (d_fast (d := .raw (.ref _)) (pe_glob (v := .ref _) (by rfl) T.g_BadMove rfl) (fun _ _ => .raw _)) a_nil))) a_nil)))))))
      (s_cons (s_set (i := 1) sc_kinds.nd rfl (Or.inl rfl) (d_op b_add (d_var (pv 1)) (DF.de (f_lst (a_cons (d_callB (c_isE (kn := some (ax, Cx)) T.xE T.xK T.xV (fun _ _ z => by cases z; exact hDx)) (by rfl) T.f_isinstance (by decide +kernel) (a_cons (d_var (pv 0)) (a_cons (d_fast (d := .raw (.ref _)) (pe_glob (v := .ref _) (by rfl) T.g_BadMachine rfl) (fun _ _ => .raw _)) a_nil))) (a_cons (d_callB (c_isE (kn := some (ax, Cx)) T.xE T.xK T.xV (fun _ _ z => by cases z; exact hDx)) (by rfl) T.f_isinstance (by decide +kernel) (a_cons (d_var (pv 0)) (a_cons (d_fast (d := .raw (.ref _)) (pe_glob (v := .ref _) (by rfl) T.g_BadGame rfl) (fun _ _ => .raw _)) a_nil))) (a_cons (d_callB (c_isE (kn := some (ax, Cx)) T.xE T.xK T.xV (fun _ _ z => by cases z; exact hDx)) (by rfl) T.f_isinstance (by decide +kernel) (a_cons (d_var (pv 0)) (a_cons (d_fast (d := .raw (.ref _)) (pe_glob (v := .ref _) (by rfl) T.g_BadSeat rfl) (fun _ _ => .raw _)) a_nil))) a_nil)))))))
      (s_cons (s_set (i := 1) sc_kinds.nd rfl (Or.inl rfl) (d_op b_add (d_var (pv 1)) (DF.de (f_lst (a_cons (d_callB (c_isE (kn := some (ax, Cx)) T.xE T.xK T.xV (fun _ _ z => by cases z; exact hDx)) (by rfl) T.f_isinstance (by decide +kernel) (a_cons (d_var (pv 0)) (a_cons (d_fast (d := .raw (.ref _)) (pe_glob (v := .ref _) (by rfl) T.g_OtherSigns rfl) (fun _ _ => .raw _)) a_nil))) (a_cons (d_callB (c_isE (kn := some (ax, Cx)) T.xE T.xK T.xV (fun _ _ z => by cases z; exact hDx)) (by rfl) T.f_isinstance (by decide +kernel) (a_cons (d_var (pv 0)) (a_cons (d_fast (d := .raw (.ref _)) (pe_glob (v := .ref _) (by rfl) T.g_BadNumber rfl) (fun _ _ => .raw _)) a_nil))) (a_cons (d_callB (c_isE (kn := some (ax, Cx)) T.xE T.xK T.xV (fun _ _ z => by cases z; exact hDx)) (by rfl) T.f_isinstance (by decide +kernel) (a_cons (d_var (pv 0)) (a_cons (d_fast (d := .raw (.ref _)) (pe_glob (v := .ref _) (by rfl) T.g_BadText rfl) (fun _ _ => .raw _)) a_nil))) a_nil)))))))
      (s_cons (s_set (i := 1) sc_kinds.nd rfl (Or.inl rfl) (d_op b_add (d_var (pv 1)) (DF.de (f_lst (a_cons (d_callB (c_isE (kn := some (ax, Cx)) T.xE T.xK T.xV (fun _ _ z => by cases z; exact hDx)) (by rfl) T.f_isinstance (by decide +kernel) (a_cons (d_var (pv 0)) (a_cons (d_fast (d := .raw (.ref _)) (pe_glob (v := .ref _) (by rfl) T.g_BadLine rfl) (fun _ _ => .raw _)) a_nil))) (a_cons (d_callB (c_isE (kn := some (ax, Cx)) T.xE T.xK T.xV (fun _ _ z => by cases z; exact hDx)) (by rfl) T.f_isinstance (by decide +kernel) (a_cons (d_var (pv 0)) (a_cons (d_fast (d := .raw (.ref _)) (pe_glob (v := .ref _) (by rfl) T.g_TooMany rfl) (fun _ _ => .raw _)) a_nil))) (a_cons (d_callB (c_isE (kn := some (ax, Cx)) T.xE T.xK T.xV (fun _ _ z => by cases z; exact hDx)) (by rfl) T.f_isinstance (by decide +kernel) (a_cons (d_var (pv 0)) (a_cons (d_fast (d := .raw (.ref _)) (pe_glob (v := .ref _) (by rfl) T.g_NoMove rfl) (fun _ _ => .raw _)) a_nil))) a_nil)))))))
      (s_cons (s_set (i := 1) sc_kinds.nd rfl (Or.inl rfl) (d_op b_add (d_var (pv 1)) (DF.de (f_lst (a_cons (d_callB (c_isE (kn := some (ax, Cx)) T.xE T.xK T.xV (fun _ _ z => by cases z; exact hDx)) (by rfl) T.f_isinstance (by decide +kernel) (a_cons (d_var (pv 0)) (a_cons (d_fast (d := .raw (.ref _)) (pe_glob (v := .ref _) (by rfl) T.g_NotWon rfl) (fun _ _ => .raw _)) a_nil))) (a_cons (d_callB (c_isE (kn := some (ax, Cx)) T.xE T.xK T.xV (fun _ _ z => by cases z; exact hDx)) (by rfl) T.f_isinstance (by decide +kernel) (a_cons (d_var (pv 0)) (a_cons (d_fast (d := .raw (.ref _)) (pe_glob (v := .ref _) (by rfl) T.g_NotRight rfl) (fun _ _ => .raw _)) a_nil))) (a_cons (d_callB (c_isE (kn := some (ax, Cx)) T.xE T.xK T.xV (fun _ _ z => by cases z; exact hDx)) (by rfl) T.f_isinstance (by decide +kernel) (a_cons (d_var (pv 0)) (a_cons (d_fast (d := .raw (.ref _)) (pe_glob (v := .ref _) (by rfl) T.g_NotKept rfl) (fun _ _ => .raw _)) a_nil))) a_nil)))))))
      (s_cons (s_set (i := 1) sc_kinds.nd rfl (Or.inl rfl) (d_op b_add (d_var (pv 1)) (DF.de (f_lst (a_cons (d_callB (c_isE (kn := some (ax, Cx)) T.xE T.xK T.xV (fun _ _ z => by cases z; exact hDx)) (by rfl) T.f_isinstance (by decide +kernel) (a_cons (d_var (pv 0)) (a_cons (d_fast (d := .raw (.ref _)) (pe_glob (v := .ref _) (by rfl) T.g_NotThere rfl) (fun _ _ => .raw _)) a_nil))) (a_cons (d_callB (c_isE (kn := some (ax, Cx)) T.xE T.xK T.xV (fun _ _ z => by cases z; exact hDx)) (by rfl) T.f_isinstance (by decide +kernel) (a_cons (d_var (pv 0)) (a_cons (d_fast (d := .raw (.ref _)) (pe_glob (v := .ref _) (by rfl) T.g_NothingPlayed rfl) (fun _ _ => .raw _)) a_nil))) a_nil))))))
      (s_one (s_ret (d_callB c_len (by rfl) T.f_len (by decide +kernel) (a_cons (DF.de (f_lc (own := [("_law_flag", 2)]) (by rfl) sc_kinds.nd (i_any (d_var (pv 1))) (blkOk_by (by kernel_rfl)) (fun _ _ _ _ _ => (g_name (pg_name (i := 2) sc_kinds.nd rfl (Or.inl rfl)))) (by decide) (fun _ _ _ _ _ => pts_one ((t_tru (d_var (pv 2)))).run) simT_l (fun _ _ _ _ _ => (d_var (pv 2))))) a_nil)))))))))))), ?_⟩
  have sb : ∀ D : Str, D ∈ ("GameError" :: "BadInput" :: "NoAnswer" :: nm21 : List Str) → subX exT C D = some (subB C D) := sub_all C cA
  refine ⟨C, "BadSigns", _, rfl, rfl, sb "BadSigns" (by decide), C, "BadRow", _, rfl, rfl, sb "BadRow" (by decide), C, "BadRule", _, rfl, rfl, sb "BadRule" (by decide), (show 3 ≤ sizeLine by decide), ?_⟩
  refine ⟨C, "BadBook", _, rfl, rfl, sb "BadBook" (by decide), (show 1 ≤ sizeLine by decide), (show 3 + 1 ≤ sizeLine by decide), ?_⟩
  refine ⟨C, "Heavier", _, rfl, rfl, sb "Heavier" (by decide), C, "Unlessened", _, rfl, rfl, sb "Unlessened" (by decide), C, "BadMove", _, rfl, rfl, sb "BadMove" (by decide), (show 3 ≤ sizeLine by decide), (show 4 + 3 ≤ sizeLine by decide), ?_⟩
  refine ⟨C, "BadMachine", _, rfl, rfl, sb "BadMachine" (by decide), C, "BadGame", _, rfl, rfl, sb "BadGame" (by decide), C, "BadSeat", _, rfl, rfl, sb "BadSeat" (by decide), (show 3 ≤ sizeLine by decide), (show 7 + 3 ≤ sizeLine by decide), ?_⟩
  refine ⟨C, "OtherSigns", _, rfl, rfl, sb "OtherSigns" (by decide), C, "BadNumber", _, rfl, rfl, sb "BadNumber" (by decide), C, "BadText", _, rfl, rfl, sb "BadText" (by decide), (show 3 ≤ sizeLine by decide), (show 10 + 3 ≤ sizeLine by decide), ?_⟩
  refine ⟨C, "BadLine", _, rfl, rfl, sb "BadLine" (by decide), C, "TooMany", _, rfl, rfl, sb "TooMany" (by decide), C, "NoMove", _, rfl, rfl, sb "NoMove" (by decide), (show 3 ≤ sizeLine by decide), (show 13 + 3 ≤ sizeLine by decide), ?_⟩
  refine ⟨C, "NotWon", _, rfl, rfl, sb "NotWon" (by decide), C, "NotRight", _, rfl, rfl, sb "NotRight" (by decide), C, "NotKept", _, rfl, rfl, sb "NotKept" (by decide), (show 3 ≤ sizeLine by decide), (show 16 + 3 ≤ sizeLine by decide), ?_⟩
  refine ⟨C, "NotThere", _, rfl, rfl, sb "NotThere" (by decide), C, "NothingPlayed", _, rfl, rfl, sb "NothingPlayed" (by decide), (show 2 ≤ sizeLine by decide), (show 19 + 2 ≤ sizeLine by decide), ?_⟩
  have eF : ([.bl (subB C "BadSigns"), .bl (subB C "BadRow"), .bl (subB C "BadRule"), .bl (subB C "BadBook"), .bl (subB C "Heavier"), .bl (subB C "Unlessened"), .bl (subB C "BadMove"), .bl (subB C "BadMachine"), .bl (subB C "BadGame"), .bl (subB C "BadSeat"), .bl (subB C "OtherSigns"), .bl (subB C "BadNumber"), .bl (subB C "BadText"), .bl (subB C "BadLine"), .bl (subB C "TooMany"), .bl (subB C "NoMove"), .bl (subB C "NotWon"), .bl (subB C "NotRight"), .bl (subB C "NotKept"), .bl (subB C "NotThere"), .bl (subB C "NothingPlayed")] : List DV) = nm21.map fun D => DV.bl (subB C D) := rfl
  show LcIn _ _ _ _ _ ([.bl (subB C "BadSigns"), .bl (subB C "BadRow"), .bl (subB C "BadRule"), .bl (subB C "BadBook"), .bl (subB C "Heavier"), .bl (subB C "Unlessened"), .bl (subB C "BadMove"), .bl (subB C "BadMachine"), .bl (subB C "BadGame"), .bl (subB C "BadSeat"), .bl (subB C "OtherSigns"), .bl (subB C "BadNumber"), .bl (subB C "BadText"), .bl (subB C "BadLine"), .bl (subB C "TooMany"), .bl (subB C "NoMove"), .bl (subB C "NotWon"), .bl (subB C "NotRight"), .bl (subB C "NotKept"), .bl (subB C "NotThere"), .bl (subB C "NothingPlayed")] : List DV) _
  rw [eF]
  refine lc_xsel (vs := [2]) (sl := [some (.val (.raw (.ref ax))), some (.val (.lst (nm21.map fun D => DV.bl (subB C D)))), none]) nm21 (fun D => DV.bl (subB C D)) (fun D => DV.bl (subB C D)) (subB C) (by decide) rfl (fun D kk k0 hD r1 r2 => ?_) ?_
  · cases e : subB C D with
    | true =>
      have z := r1 e
      rw [e] at z
      exact z _ (by repeat' first | exact .nil | refine .eq ?_ | refine .no ?_)
    | false => exact r2 e _ (by repeat' first | exact .nil | refine .eq ?_ | refine .no ?_)
  show Qd (.int ((((nm21.filter (subB C)).map fun D => DV.bl (subB C D)).length : Nat) : Int)) n
  rw [List.length_map]
  exact hq
theorem cKindsE (T : Tx K mg) : CalX P w K mg base CX0 1 "_law_kinds" (spE K fnKindsE) := c_kinds T fun _ F => ok_kindsE F T
end
end Rg
namespace Rg
open PySem PySem.Spec PyProof.Rows L2
section
variable {P : Program} {w : World} {K : PySem.W.Frag} {mg : Str → Option Value} {base : Heap}
def valL : List DV := [.non, .bl true, .bl false, .int 0, .int (-1), .int (10 ^ 40), .str "", .str "x", .str "wall 9", .tup [], .tup [.str "x", .int 1], .lst [], .lst [.int 1, .str "a"], dctD [], dctD [(Sum.inr "a", .tup [.int 1])]]
def fnValue : PFn := fun pn ds n Q _ => ∃ p : Addr, pn = some p ∧ ds = [.raw (.ref p)] ∧ 1 ≤ n ∧ ∀ d ∈ valL, Q d (n - 1)
theorem ok_value {f : Addr} {fd : FuncData} (F : FunD K "_law_value" "_law_value" (defArgs s_value) (defBody s_value) (defScope s_value) [] [] f fd) (T : Tx K mg) : FnOk P w K mg base CX0 3 f fd ["_law_pen_here"] (spP K fnValue) := by
  refine ok_p F sc_value (fun pn ds n Q R h => ?_) fun cdv A outer s pn D H E ds n Qd R hr h => ?_
  · obtain ⟨p, rfl, rfl, _⟩ := h
    rfl
  obtain ⟨p, rfl, rfl, n1, hq⟩ := h
  refine ⟨_, DSs.nox (s_cons (s_set (i := 1) sc_value.nd rfl (Or.inl rfl) (DF.de (f_lst (a_cons d_non (a_cons d_bl (a_cons d_bl (a_cons d_int (a_cons (d_neg d_int) (a_cons (d_op b_pow d_int d_int) (a_cons d_str (a_cons d_str (a_cons d_str (a_cons (d_tup a_nil) (a_cons (d_tup (a_cons d_str (a_cons d_int a_nil))) (a_cons (DF.de (f_lst a_nil)) (a_cons (DF.de (f_lst (a_cons d_int (a_cons d_str a_nil)))) (a_cons d_dct0 (a_cons (d_dlit (DKV.cons d_str (d_tup (a_cons d_int a_nil)) DKV.nil)) a_nil))))))))))))))))))
      (s_one (s_ret (d_call (cPickD T) hr (by decide) (by rfl) pass0 (a_cons (d_var (pv 0)) (a_cons (d_var (pv 1)) a_nil)))))), ?_⟩
  have t1 : 1 ≤ sizeLine := by decide
  have t2 : 2 ≤ sizeLine := by decide
  refine ⟨⟨by decide, by decide, by decide⟩, ?_⟩
  refine ⟨Nat.zero_le _, t2, Nat.zero_le _, t2, t1, (show 15 ≤ sizeLine by decide), ?_⟩
  exact ⟨p, valL, rfl, rfl, n1, by decide, by decide, hq⟩
theorem cValue (T : Tx K mg) : CalX P w K mg base CX0 3 "_law_value" (spP K fnValue) := c_value T fun _ F => ok_value F T
def nmP : List (Str × Str) := [("BadSigns", "part"), ("BadRule", "part"), ("BadMove", "part"), ("BadMachine", "part"), ("BadGame", "part"), ("OtherSigns", "part"), ("BadNumber", "part"), ("BadRow", "at"), ("BadBook", "at"), ("Heavier", "at"), ("BadSeat", "seat")]
def ex1 (C f : Str) (d : DV) : DV := .node (.exc C [f]) [d]
def fnInputs : PFn := fun _ ds n Q _ => ∃ d : DV, ds = [d] ∧ Q (.lst (nmP.map fun q => DV.tup [ex1 q.1 q.2 d, .str q.2])) n
theorem ok_inputs {f : Addr} {fd : FuncData} (F : FunD K "_law_inputs" "_law_inputs" (defArgs s_inputs) (defBody s_inputs) (defScope s_inputs) [] [] f fd) (T : Tx K mg) : FnOk P w K mg base CX0 3 f fd ["_law_one"] (spP K fnInputs) := by
  refine ok_p F sc_inputs (fun pn ds n Q R h => ?_) fun cdv A outer s pn D H E ds n Qd R hr h => ?_
  · obtain ⟨d, rfl, _⟩ := h
    rfl
  obtain ⟨d, rfl, hq⟩ := h
  refine ⟨_, DSs.nox (s_cons (s_set (i := 1) sc_inputs.nd rfl (Or.inl rfl) (DF.de (f_lst (a_cons (d_tup (a_cons (d_makeE (xc_BadSigns T) hr (by decide) (by rfl) (a_cons (d_var (pv 0)) a_nil)) (a_cons d_str a_nil))) (a_cons (d_tup (a_cons (d_makeE (xc_BadRule T) hr (by decide) (by rfl) (a_cons (d_var (pv 0)) a_nil)) (a_cons d_str a_nil))) (a_cons (d_tup (a_cons (d_makeE (xc_BadMove T) hr (by decide) (by rfl) (a_cons (d_var (pv 0)) a_nil)) (a_cons d_str a_nil))) (a_cons (d_tup (a_cons (d_makeE (xc_BadMachine T) hr (by decide) (by rfl) (a_cons (d_var (pv 0)) a_nil)) (a_cons d_str a_nil))) a_nil)))))))
      (s_cons (s_set (i := 1) sc_inputs.nd rfl (Or.inl rfl) (d_op b_add (d_var (pv 1)) (DF.de (f_lst (a_cons (d_tup (a_cons (d_makeE (xc_BadGame T) hr (by decide) (by rfl) (a_cons (d_var (pv 0)) a_nil)) (a_cons d_str a_nil))) (a_cons (d_tup (a_cons (d_makeE (xc_OtherSigns T) hr (by decide) (by rfl) (a_cons (d_var (pv 0)) a_nil)) (a_cons d_str a_nil))) (a_cons (d_tup (a_cons (d_makeE (xc_BadNumber T) hr (by decide) (by rfl) (a_cons (d_var (pv 0)) a_nil)) (a_cons d_str a_nil))) a_nil)))))))
      (s_one (s_ret (d_op b_add (d_var (pv 1)) (DF.de (f_lst (a_cons (d_tup (a_cons (d_makeE (xc_BadRow T) hr (by decide) (by rfl) (a_cons (d_var (pv 0)) a_nil)) (a_cons d_str a_nil))) (a_cons (d_tup (a_cons (d_makeE (xc_BadBook T) hr (by decide) (by rfl) (a_cons (d_var (pv 0)) a_nil)) (a_cons d_str a_nil))) (a_cons (d_tup (a_cons (d_makeE (xc_Heavier T) hr (by decide) (by rfl) (a_cons (d_var (pv 0)) a_nil)) (a_cons d_str a_nil))) (a_cons (d_tup (a_cons (d_makeE (xc_BadSeat T) hr (by decide) (by rfl) (a_cons (d_var (pv 0)) a_nil)) (a_cons d_str a_nil))) a_nil))))))))))), ?_⟩
  have t2 : 2 ≤ sizeLine := by decide
  refine ⟨rfl, t2, rfl, t2, rfl, t2, rfl, t2, (show 4 ≤ sizeLine by decide), rfl, t2, rfl, t2, rfl, t2, (show 3 ≤ sizeLine by decide), (show 4 + 3 ≤ sizeLine by decide), rfl, t2, rfl, t2, rfl, t2, rfl, t2, (show 4 ≤ sizeLine by decide), (show 7 + 4 ≤ sizeLine by decide), ?_⟩
  exact hq
theorem cInputs (T : Tx K mg) : CalX P w K mg base CX0 3 "_law_inputs" (spP K fnInputs) := c_inputs T fun _ F => ok_inputs F T
def fnField : PFn := fun _ ds n Q _ => ∃ (q : Str × Str) (d : DV), ds = [ex1 q.1 q.2 d, .str q.2] ∧ q ∈ nmP ∧ Q d n
theorem ok_field {f : Addr} {fd : FuncData} (F : FunD K "_law_field" "_law_field" (defArgs s_field) (defBody s_field) (defScope s_field) [] [] f fd) (T : Tx K mg) : FnOk P w K mg base CX0 1 f fd ["_law_error", "_law_name"] (spP K fnField) := by
  refine ok_p F sc_field (fun pn ds n Q R h => ?_) fun cdv A outer s pn D H E ds n Qd R hr h => ?_
  · obtain ⟨q, d, rfl, _⟩ := h
    rfl
  obtain ⟨q, d, rfl, hm, hq⟩ := h
  refine ⟨_, DSs.nox (s_cons (s_if (t_cmp (b_eq hr.units) (d_var (pv 1)) d_str (nomark _))
      (s_one (s_ret (d_fldX (fldXB_ok T.xf_part) (d_var (pv 0))))) s_nil)
      (s_one (s_ret (d_if (t_cmp (b_eq hr.units) (d_var (pv 1)) d_str (nomark _)) (d_fldX (fldXB_ok T.xf_at) (d_var (pv 0))) (d_fldX (fldXB_ok T.xf_seat) (d_var (pv 0))))))), ?_⟩
  unfold nmP at hm
  simp only [List.mem_cons, List.not_mem_nil, or_false] at hm
  rcases hm with rfl | rfl | rfl | rfl | rfl | rfl | rfl | rfl | rfl | rfl | rfl
  all_goals exact ⟨(by decide), hq⟩
theorem cField (T : Tx K mg) : CalX P w K mg base CX0 1 "_law_field" (spP K fnField) := c_field T fun _ F => ok_field F T
end
end Rg
namespace Rg
open PySem PySem.Spec PyProof.Rows L2
section
variable {P : Program} {w : World} {K : PySem.W.Frag} {mg : Str → Option Value} {base : Heap}
def fnNeedRow : PFn := fun _ ds n Q _ => ∃ z t : List Nat, ds = [.str (SX.S z), .str (SX.S t)] ∧ (∀ c ∈ t, c ∈ z) ∧ Q .non n
theorem ok_needRow {f : Addr} {fd : FuncData} (F : FunD K "need_row" "need_row" (defArgs s_needRow) (defBody s_needRow) (defScope s_needRow) [] [] f fd) (T : Tx K mg) : FnOk P w K mg base CX0 1 f fd ["signs", "row"] (spP K fnNeedRow) := by
  refine ok_p F sc_needRow (fun pn ds n Q R h => ?_) fun cdv A outer s pn D H E ds n Qd R hr h => ?_
  · obtain ⟨z, t, rfl, _⟩ := h
    rfl
  obtain ⟨z, t, rfl, tz, hq⟩ := h
  refine ⟨_, DSs.nox (s_cons (s_if (t_not (t_tru (d_callB (c_isi T.xE T.xK) (by rfl) T.f_isinstance (by decide +kernel) (a_cons (d_var (pv 1)) (a_cons (d_fast (d := .raw (.ty "str")) (pe_bltn (v := .ty "str") (by rfl) T.f_str (by decide +kernel) rfl) (fun _ _ => .raw _)) a_nil)))))
      (s_one s_never) s_nil)
      (s_one (s_for PassesOwn.never rfl (i_enum (by rfl) T.f_enumerate (d_var (pv 1))) (g_tup (n := 2) rfl (gs_cons (g_name (pg_name (i := 2) sc_needRow.nd rfl (Or.inl rfl))) (gs_cons (g_name (pg_name (i := 3) sc_needRow.nd rfl (Or.inl rfl))) gs_nil)) (glN (glN gl0)))
      (s_one (s_if (t_cmp (b_notIn (hu65 hr)) (d_var (pv 3)) (d_var (pv 0)) (by rfl))
      (s_one s_never) s_nil))))), ?_⟩
  refine ⟨true, ⟨"str", rfl, by decide +kernel⟩, ?_⟩
  refine ⟨fun i ρ => ∃ v2 v3 : Option SV, ρ = ⟨[some (.val (.str (SX.S z))), some (.val (.str (SX.S t))), v2, v3], n⟩, ⟨none, none, rfl⟩, ?_, ?_⟩
  · rintro i d ρ2 hd ⟨v2, v3, rfl⟩
    have hi := (List.getElem?_eq_some_iff.mp hd).1
    have l : (signsD (SX.S t)).length = t.length := List.length_map _
    rw [enumD_len, l] at hi
    obtain ⟨c, hc⟩ : ∃ c, t[i]? = some c := ⟨_, List.getElem?_eq_getElem hi⟩
    rw [enumD_at (signsD_at (z := SX.S t) hc)] at hd
    cases hd
    refine ⟨c, rfl, ?_⟩
    show (if (decide (c ∈ z) ^^ true) = true then _ else _)
    rw [decide_eq_true (tz c (List.mem_of_getElem? hc))]
    refine ite_F rfl ?_
    exact ⟨_, n, (by repeat' first | exact .nil | refine .eq ?_ | refine .no ?_), Nat.le_refl _, _, _, rfl⟩
  · rintro ρ2 ⟨v2, v3, rfl⟩
    exact hq
theorem cNeedRow (T : Tx K mg) : CalX P w K mg base CX0 1 "need_row" (spP K fnNeedRow) := c_needRow T fun _ F => ok_needRow F T
def fnWCall : PFn := fun _ ds n Q _ => ∃ (ps : List (Nat × Nat)) (cs : List Nat), ds = [wtsO ps, .str (SX.S cs)] ∧ GoodPairs ps ∧ (∀ c ∈ cs, c ∈ ps.map (·.1)) ∧ cs.length ≤ 1000 ∧ Q (.int ((wSum ps cs : Nat) : Int)) n
theorem ok_wcall {f : Addr} {fd : FuncData} (F : FunD K "__call__" "Weights.__call__" (defArgs s_wcall) (defBody s_wcall) (defScope s_wcall) [] [] f fd) (T : Tx K mg) : FnOk P w K mg base CX0 6 f fd ["self", "row"] (spP K fnWCall) := by
  refine ok_p F sc_wcall (fun pn ds n Q R h => ?_) fun cdv A outer s pn D H E ds n Qd R hr h => ?_
  · obtain ⟨ps, cs, rfl, _⟩ := h
    rfl
  obtain ⟨ps, cs, rfl, gp, hc, hl, hq⟩ := h
  refine ⟨_, DSs.nox (s_cons (s_expr (d_call (cNeedRow T) hr (by decide) (by rfl) pass0 (a_cons (d_fld (fl_signs T) (d_var (pv 0))) (a_cons (d_var (pv 1)) a_nil))))
      (s_one (s_ret (d_call (cWeightOf T) hr (by decide) (by rfl) pass0 (a_cons (d_var (pv 0)) (a_cons (d_var (pv 1)) a_nil)))))), ?_⟩
  refine ⟨me_W, ps.map (·.1), cs, rfl, hc, ?_⟩
  exact ⟨ps, cs, rfl, gp, hc, hl, hq⟩
theorem clWeights (T : Tx K mg) : ClO P w K mg base CX0 6 (a_Weights K) (spP K fnWCall) := by
  obtain ⟨fd, F⟩ := T.d_wcall
  exact ⟨_, fd, _, ⟨T.m_wcall.at_, T.m_wcall.fn, T.clO_Weights⟩, ok_wcall F T, F.bindsN fun _ _ _ _ _ _ us hl => match us, hl with | [_, _], _ => rfl⟩
theorem calm_newS {P : Program} {w : World} {K : PySem.W.Frag} {mg : Str → Option Value} {base : Heap} {k : Nat} {C : Str} {fs : List Str} {Fn : NFn} {x : Str} {f : Addr} {fd : FuncData} {ps : List Str} (F : FnOk P w K mg base (L2.CX P w) k f fd ps (spNew K C fs Fn)) : FnOk P w K mg base CX0 k f fd ps (spNew K C fs (calmN Fn)) := by
  have cs : ∀ {vs : List V} {H : Hp} {Q : VK} {E : XK}, spNew K C fs (calmN Fn) vs H Q E → spNew K C fs Fn vs H Q fun _ _ _ => False := fun {vs H Q E} h => by
    obtain ⟨D, pn, x, dx, us, ds, n, Qd, R, h1, h2, h3, h4, h5, h6, h7, h8, h9, _⟩ := h
    exact ⟨D, pn, x, dx, us, ds, n, Qd, _, h1, h2, h3, h4, h5, h6, h7, h8, h9, exX_never⟩
  refine ⟨fun vs H Q E h => F.len _ _ _ _ (cs h), fun A outer s H args us vs Q E hr he hb hv hs => codeAny_mono (F.run A outer s H args us vs Q _ hr he hb hv (cs hs)) fun r s' hq => ?_⟩
  cases r with
  | error e => exact (calm_cx hq).elim
  | ok fl => cases fl <;> exact hq
theorem sMake (T : Tx K mg) : MkS P w K mg base CX0 3 "Rule" (a_Rule K) (spNew K "Rule" fsR (dflN [.bl false, .bl false] (calmN fnMkX))) := by
  obtain ⟨fd, F⟩ := T.d_rinit
  obtain ⟨ds, hd, hb⟩ := FunD.binds0 (ps := ["self", "old", "new", "left", "right"]) F 3 (by simp) rfl fun D doc pm an cdv ct us ks l1 l2 => match us, l1, ks, l2 with | [_, _, _], _, [_, _], _ => ⟨_, _, _, _, _, _, rfl, rfl, _, _, _, _, _, _, rfl, rfl, rfl⟩
  exact mkS_dfl (fun D => .cons (.bl _) (.cons (.bl _) .nil)) T.mk_Rule (calm_newS (x := "") (ok_rinit F T)) hb hd T.g_Rule
end
end Rg
namespace Rg
open PySem PySem.Spec PyProof.Rows L2
section
variable {P : Program} {w : World} {K : PySem.W.Frag} {mg : Str → Option Value} {base : Heap}
theorem heavy_no {ps : List (Nat × Nat)} {qs : List Rul} {i : Nat} (h : HeavyAt ps qs i) (hl : ∀ q ∈ qs, ltB ps q = true) : False := by
  obtain ⟨⟨q, e1, e2⟩, _⟩ := h
  rw [hl q (List.mem_of_getElem? e1)] at e2
  cases e2
def fnHeavier : PFn := fun pn ds n Q _ => ∃ p : Addr, pn = some p ∧ ds = [.raw (.ref p)] ∧ 4 ≤ n ∧ Q (.bl true) (n - 1 - 1 - 1 - 1)
def xC : Nat := 120
def oC : Nat := 111
theorem hv_old (a h l : Nat) : wSum [(xC, 1 + h), (oC, l)] (List.replicate (1 + a) xC) = (1 + a) * (1 + h) := by
  unfold wSum
  rw [List.map_replicate, show wt1 [(xC, 1 + h), (oC, l)] xC = 1 + h from rfl, List.sum_replicate_nat]
theorem hv_new (b h l : Nat) : wSum [(xC, 1 + h), (oC, l)] ([xC, xC] ++ List.replicate b oC) = (1 + h) + (1 + h) + b * l := by
  unfold wSum
  rw [List.map_append, List.map_replicate, show wt1 [(xC, 1 + h), (oC, l)] oC = l from rfl, List.sum_append, List.sum_replicate_nat]
  show ((1 + h) + ((1 + h) + 0)) + _ = _
  omega
theorem hv_le (a b h l : Nat) (ha : a < 2) : (1 + a) * (1 + h) ≤ (1 + h) + (1 + h) + b * l := by
  have : (1 + a) * (1 + h) ≤ 2 * (1 + h) := Nat.mul_le_mul_right _ (by omega)
  omega
theorem hv_nodup (a b : Nat) (ha : a < 2) (hb : b < 3) : ([([xC, xC, xC], [oC], false, false), (List.replicate (1 + a) xC, [xC, xC] ++ List.replicate b oC, false, false), ([xC], [xC, xC, xC], false, false)] : List Rul).Nodup := by
  obtain rfl | rfl : a = 0 ∨ a = 1 := by omega
  all_goals obtain rfl | rfl | rfl : b = 0 ∨ b = 1 ∨ b = 2 := by omega
  all_goals decide +kernel
theorem hv_ok (a b : Nat) (ha : a < 2) (hb : b < 3) : ∀ q ∈ ([([xC, xC, xC], [oC], false, false), (List.replicate (1 + a) xC, [xC, xC] ++ List.replicate b oC, false, false), ([xC], [xC, xC, xC], false, false)] : List Rul), (∀ c ∈ q.1, c ∈ letters) ∧ (∀ c ∈ q.2.1, c ∈ letters) ∧ q.1.length ≤ 4 ∧ q.2.1.length ≤ 4 := by
  obtain rfl | rfl : a = 0 ∨ a = 1 := by omega
  all_goals obtain rfl | rfl | rfl : b = 0 ∨ b = 1 ∨ b = 2 := by omega
  all_goals
    intro q hq
    simp only [List.mem_cons, List.not_mem_nil, or_false] at hq
    rcases hq with rfl | rfl | rfl
    all_goals exact ⟨by decide, by decide, by decide, by decide⟩
theorem ok_heavier {f : Addr} {fd : FuncData} (F : FunD K "_law_heavier" "_law_heavier" (defArgs s_heavier) (defBody s_heavier) (defScope s_heavier) [] [] f fd) (T : Tx K mg) : FnOk P w K mg base CX0 11 f fd ["_law_pen_here"] (spP K fnHeavier) := by
  refine ok_p F sc_heavier (fun pn ds n Q R h => ?_) fun cdv A outer s pn D H E ds n Qd R hr h => ?_
  · obtain ⟨p, rfl, rfl, _⟩ := h
    rfl
  obtain ⟨p, rfl, rfl, n4, hq⟩ := h
  refine ⟨_, DSs.nox (s_cons (s_par (i := 1) (j := 2) (by rfl) sc_heavier.nd rfl rfl (by decide) rfl rfl (a_cons (d_op b_add d_int (d_call (cDrawD T) hr (by decide) (by rfl) pass0 (a_cons (d_var (pv 0)) (a_cons d_int a_nil)))) (a_cons (d_call (cDrawD T) hr (by decide) (by rfl) pass0 (a_cons (d_var (pv 0)) (a_cons d_int a_nil))) a_nil)) (by rfl))
      (s_cons (s_set (i := 3) sc_heavier.nd rfl (Or.inl rfl) (d_makeS (mWeights T).calm hr (by decide) (by rfl) pass0 (a_cons (d_tup (a_cons d_str (a_cons (d_var (pv 1)) a_nil))) (a_cons (d_tup (a_cons d_str (a_cons (d_var (pv 2)) a_nil))) a_nil))))
      (s_cons (s_set (i := 4) sc_heavier.nd rfl (Or.inl rfl) (DF.de (f_lst (a_cons (d_makeS (sMake T) hr (by decide) (by rfl) pass0 (a_cons d_str (a_cons d_str a_nil))) (a_cons (d_makeS (sMake T) hr (by decide) (by rfl) pass0 (a_cons (d_op b_mulS d_str (d_op b_add d_int (d_call (cDrawD T) hr (by decide) (by rfl) pass0 (a_cons (d_var (pv 0)) (a_cons d_int a_nil))))) (a_cons (d_op b_add d_str (d_op b_mulS d_str (d_call (cDrawD T) hr (by decide) (by rfl) pass0 (a_cons (d_var (pv 0)) (a_cons d_int a_nil))))) a_nil))) a_nil)))))
      (s_cons (s_set (i := 5) sc_heavier.nd rfl (Or.inl rfl) d_non)
      (s_cut (s_try T.xM (fun _ _ => (r_expr (r_makeS (mBook T) hr (by decide) (by rfl) (a_cons (d_var (pv 3)) (a_cons (d_ixV (pv 4) d_int) (a_cons (d_ixV (pv 4) d_int) (a_cons (d_makeS (sMake T) hr (by decide) (by rfl) pass0 (a_cons d_str (a_cons d_str a_nil))) a_nil))))))) (DH.as_ (C := "Heavier") (i := 6) (by rfl) (by decide) T.g_Heavier sc_heavier.nd rfl rfl (fun _ _ => (s_one (s_set (i := 5) sc_heavier.nd rfl (Or.inl rfl) (d_fldX (fldXB_ok T.xf_at) (d_var (pv 6)))))) DH.nil))
      (s_cons (s_par (i := 7) (j := 8) (by rfl) sc_heavier.nd rfl rfl (by decide) rfl rfl (a_cons (d_callO (d_var (pv 3)) (clWeights T) hr (by decide) pass0 (a_cons (d_fld (fl_old T) (d_ixV (pv 4) d_int)) a_nil)) (a_cons (d_callO (d_var (pv 3)) (clWeights T) hr (by decide) pass0 (a_cons (d_fld (fl_new T) (d_ixV (pv 4) d_int)) a_nil)) a_nil)) (by rfl))
      (s_cons (s_set (i := 9) sc_heavier.nd rfl (Or.inl rfl) (d_makeE (xc_Unlessened T) hr (by decide) (by rfl) (a_cons (d_var (pv 7)) (a_cons (d_var (pv 8)) a_nil))))
      (s_cons (s_if (DW.t (w_or (t_cmp (b_ne hr.units) (d_fldX (fldXB_ok T.xf_old) (d_var (pv 9))) (d_var (pv 7)) (nomark _)) (w_or (t_cmp (b_ne hr.units) (d_fldX (fldXB_ok T.xf_new) (d_var (pv 9))) (d_var (pv 8)) (nomark _)) (w_or1 (t_cmp b_le (d_op b_mul (d_var (pv 1)) d_int) (d_var (pv 2)) (nomark _))))))
      (s_one (s_ret d_bl)) s_nil)
      (s_one (s_ret (d_and (d_cmp (b_eq hr.units) (d_var (pv 5)) d_int (nomark _)) (d_one (d_cmp b_le (d_var (pv 7)) (d_var (pv 8)) (nomark _)))))))))))))), ?_⟩
  refine ⟨p, 9, rfl, rfl, (show 1 ≤ n by omega), by decide, by decide, fun rh h0 h1 => ?_⟩
  refine ⟨p, 2, rfl, rfl, (show 1 ≤ n - 1 by omega), by decide, by decide, fun rl l0 l1 => ?_⟩
  obtain ⟨h, rfl⟩ : ∃ h : Nat, rh = (h : Int) := ⟨rh.toNat, (Int.toNat_of_nonneg h0).symm⟩
  obtain ⟨l, rfl⟩ : ∃ l : Nat, rl = (l : Int) := ⟨rl.toNat, (Int.toNat_of_nonneg l0).symm⟩
  have e : (1 + (h : Int)) = ((1 + h : Nat) : Int) := by omega
  have t2 : 2 ≤ sizeLine := by decide
  have gp : GoodPairs [(xC, 1 + h), (oC, l)] := ⟨(show 1 ≤ 2 by decide), (show 2 ≤ 4 by decide), (fun q hm => by
    simp only [List.mem_cons, List.not_mem_nil, or_false] at hm
    rcases hm with rfl | rfl
    · show xC ∈ letters
      decide
    · show oC ∈ letters
      decide), (fun q hm => by
    simp only [List.mem_cons, List.not_mem_nil, or_false] at hm
    rcases hm with rfl | rfl
    · show 1 + h ≤ 9
      omega
    · show l ≤ 9
      omega), (show [xC, oC].Nodup by decide)⟩
  refine ⟨t2, t2, [(xC, 1 + h), (oC, l)], congrArg (fun i : Int => [DV.tup [.str "x", .int i], .tup [.str "o", .int ((l : Nat) : Int)]]) e, gp, ?_⟩
  have b0 : badP (.str "xxx") (.str "o") (.bl false) (.bl false) = none := by decide +kernel
  have m0 : shortD (.bl false) = true := rfl
  refine ⟨.str "xxx", .str "o", .bl false, .bl false, rfl, rfl, rfl, m0, m0, (fun s hs => by rw [b0] at hs; cases hs), fun _ => ?_⟩
  refine ⟨p, 2, rfl, rfl, (show 1 ≤ n - 1 - 1 by omega), by decide, by decide, fun ra a0 a1 => ?_⟩
  have ha : ra = 0 ∨ ra = 1 := by omega
  obtain ⟨a, ha2, rfl⟩ : ∃ a : Nat, a < 2 ∧ ra = (a : Int) := ⟨ra.toNat, by omega, (Int.toNat_of_nonneg a0).symm⟩
  have xo : ∀ k, k < 2 → repS "x" (1 + ((k : Nat) : Int)).toNat = SX.S (List.replicate (1 + k) xC) := by decide +kernel
  have oo : ∀ k, k < 3 → ("xx" : Str) ++ repS "o" ((k : Nat) : Int).toNat = SX.S ([xC, xC] ++ List.replicate k oC) := by decide +kernel
  refine ⟨by omega, by omega, by decide, ?_⟩
  refine ⟨p, 3, rfl, rfl, (show 1 ≤ n - 1 - 1 - 1 by omega), by decide, by decide, fun rb b0' b1 => ?_⟩
  obtain ⟨b, hb2, rfl⟩ : ∃ b : Nat, b < 3 ∧ rb = (b : Int) := ⟨rb.toNat, by omega, (Int.toNat_of_nonneg b0').symm⟩
  refine ⟨by omega, by omega, by decide, ?_⟩
  refine ⟨(show (2 : Nat) + _ ≤ sizeLine by
    rw [show (repS "o" ((b : Nat) : Int).toNat) = SX.S (List.replicate b oC) from (by decide +kernel : ∀ k, k < 3 → repS "o" ((k : Nat) : Int).toNat = SX.S (List.replicate k oC)) b hb2, lenS, List.length_replicate]
    have : 5 ≤ sizeLine := by decide
    omega), ?_⟩
  rw [xo a ha2, oo b hb2]
  have ok1 : badP (.str (SX.S (List.replicate (1 + a) xC))) (.str (SX.S ([xC, xC] ++ List.replicate b oC))) (.bl false) (.bl false) = none := (by decide +kernel : ∀ a, a < 2 → ∀ b, b < 3 → badP (.str (SX.S (List.replicate (1 + a) xC))) (.str (SX.S ([xC, xC] ++ List.replicate b oC))) (.bl false) (.bl false) = none) a ha2 b hb2
  have s1 : shortD (.str (SX.S (List.replicate (1 + a) xC))) = true := (by decide +kernel : ∀ a, a < 2 → shortD (.str (SX.S (List.replicate (1 + a) xC))) = true) a ha2
  have s2 : shortD (.str (SX.S ([xC, xC] ++ List.replicate b oC))) = true := (by decide +kernel : ∀ b, b < 3 → shortD (.str (SX.S ([xC, xC] ++ List.replicate b oC))) = true) b hb2
  refine ⟨_, _, _, _, rfl, s1, s2, m0, m0, (fun s hs => by rw [ok1] at hs; cases hs), fun _ => ?_⟩
  refine ⟨(show 2 ≤ sizeLine by decide), ?_⟩
  refine ⟨fun ρ => ρ = ⟨[some (.val (.raw (.ref p))), some (.val (.int (1 + (h : Int)))), some (.val (.int (l : Int))), some (.val (wtsO [(xC, 1 + h), (oC, l)])), some (.val (.lst [.node (.ins "Rule" fsR) [.str "xxx", .str "o", .bl false, .bl false], ruleD (List.replicate (1 + a) xC) ([xC, xC] ++ List.replicate b oC) false false])), some (.val (.int 1)), none, none, none, none], n - 1 - 1 - 1 - 1⟩, ?_, ?_⟩
  rotate_left
  · rintro ρ1 rfl
    have z1 : ∀ c ∈ List.replicate (1 + a) xC, c ∈ [xC, oC] := fun c hc => by rw [List.eq_of_mem_replicate hc]; decide
    have z2 : ∀ c ∈ [xC, xC] ++ List.replicate b oC, c ∈ [xC, oC] := fun c hc => by
      rcases List.mem_append.mp hc with hc | hc
      · exact (by decide : ∀ c ∈ [xC, xC], c ∈ [xC, oC]) c hc
      · rw [List.eq_of_mem_replicate hc]
        decide
    refine ⟨rfl, me_R, [(xC, 1 + h), (oC, l)], List.replicate (1 + a) xC, rfl, gp, z1, by rw [List.length_replicate]; omega, ?_⟩
    refine ⟨rfl, me_R, [(xC, 1 + h), (oC, l)], [xC, xC] ++ List.replicate b oC, rfl, gp, z2, by rw [List.length_append, List.length_replicate]; show 2 + b ≤ 1000; omega, ?_⟩
    rw [hv_old, hv_new]
    have i0 : ∀ i : Int, (decide (i = i) ^^ true) = false := fun i => by rw [decide_eq_true rfl]; rfl
    have hle := hv_le a b h l ha2
    refine ⟨rfl, by decide, ?_⟩
    refine ite_F (i0 _) ?_
    refine ⟨by decide, ?_⟩
    refine ite_F (i0 _) ?_
    refine ⟨.inr ⟨by omega, by omega⟩, ?_⟩
    show (if decide ((1 + (h : Int)) * 3 ≤ (l : Int)) = true then _ else _)
    refine ite_F (decide_eq_false (by omega)) ?_
    show Qd (.bl (decide ((((1 + a) * (1 + h) : Nat) : Int) ≤ (((1 + h) + (1 + h) + b * l : Nat) : Int)))) _
    rw [decide_eq_true (by omega)]
    exact hq
  have b3 : badP (.str "x") (.str "xxx") (.bl false) (.bl false) = none := by decide +kernel
  refine ⟨_, _, _, _, rfl, rfl, rfl, m0, m0, (fun s hs => by rw [b3] at hs; cases hs), fun _ => ?_⟩
  have ex3 : ("xxx" : Str) = SX.S [xC, xC, xC] := by decide +kernel
  have ex1 : ("x" : Str) = SX.S [xC] := by decide +kernel
  have eo1 : ("o" : Str) = SX.S [oC] := by decide +kernel
  let q1 : Rul := (List.replicate (1 + a) xC, [xC, xC] ++ List.replicate b oC, false, false)
  let qs : List Rul := [([xC, xC, xC], [oC], false, false), q1, ([xC], [xC, xC, xC], false, false)]
  have hA : AllI (zOf [(xC, 1 + h), (oC, l)]) (qs.map Sum.inl) qs := ⟨rfl, rfl, (by
    show ∀ q ∈ qs, inB [xC, oC] q = true
    exact (by decide +kernel : ∀ a, a < 2 → ∀ b, b < 3 → ∀ q ∈ ([([xC, xC, xC], [oC], false, false), (List.replicate (1 + a) xC, [xC, xC] ++ List.replicate b oC, false, false), ([xC], [xC, xC, xC], false, false)] : List Rul), inB [xC, oC] q = true) a ha2 b hb2),
    hv_nodup a b ha2 hb2⟩
  have wx : wt1 [(xC, 1 + h), (oC, l)] xC = 1 + h := rfl
  have wo : wt1 [(xC, 1 + h), (oC, l)] oC = l := rfl
  have s3 : wSum [(xC, 1 + h), (oC, l)] [xC, xC, xC] = (1 + h) + ((1 + h) + ((1 + h) + 0)) := rfl
  have s1o : wSum [(xC, 1 + h), (oC, l)] [oC] = l + 0 := rfl
  have hle := hv_le a b h l ha2
  have hh : HeavyAt [(xC, 1 + h), (oC, l)] qs 1 := ⟨⟨q1, rfl, by
    show decide (wSum [(xC, 1 + h), (oC, l)] ([xC, xC] ++ List.replicate b oC) < wSum [(xC, 1 + h), (oC, l)] (List.replicate (1 + a) xC)) = false
    rw [hv_old, hv_new]
    exact decide_eq_false (by omega)⟩, fun j q hj hq => by
    obtain rfl : j = 0 := by omega
    cases hq
    show decide (wSum [(xC, 1 + h), (oC, l)] [oC] < wSum [(xC, 1 + h), (oC, l)] [xC, xC, xC]) = true
    rw [s3, s1o]
    exact decide_eq_true (by omega)⟩
  have iO : ∀ it ∈ qs.map (Sum.inl : Rul → It), ItOk it := fun it hi => by
    obtain ⟨q, hq, rfl⟩ := List.mem_map.mp hi
    have qk : ∀ q ∈ qs, (∀ c ∈ q.1, c ∈ letters) ∧ (∀ c ∈ q.2.1, c ∈ letters) ∧ q.1.length ≤ 4 ∧ q.2.1.length ≤ 4 := hv_ok a b ha2 hb2
    obtain ⟨k1, k2, k3, k4⟩ := qk q hq
    exact ⟨k1, k2, k3, k4⟩
  refine ⟨wtsO [(xC, 1 + h), (oC, l)], qs.map Sum.inl, (by rw [ex3, ex1, eo1]; rfl), (show 3 ≤ 1000 by decide), iO, .inr ⟨_, rfl, gp, fun z => absurd (show 8 < 3 from z) (by decide), fun _ => ⟨fun j hj => absurd (hj.none hA) (by have := hj.lt; omega), fun qs' hq' => by
    rw [PreI.uniq hq' hA]
    refine ⟨fun j hj => ?_, fun hl => (heavy_no hh hl).elim⟩
    rw [hj.uniq hh]
    refine hRun_as (by decide +kernel) ?_
    refine ⟨by decide, ?_⟩
    exact ⟨_, _, (by repeat' first | exact .nil | refine .eq ?_ | refine .no ?_), Nat.le_refl _, rfl⟩⟩⟩⟩
theorem cHeavier (T : Tx K mg) : CalX P w K mg base CX0 11 "_law_heavier" (spP K fnHeavier) := c_heavier T fun _ F => ok_heavier F T
end
end Rg
namespace Rg
open PySem PySem.Spec PyProof.Rows L2
section
variable {P : Program} {w : World} {K : PySem.W.Frag} {mg : Str → Option Value} {base : Heap}
def Shw (n c : Nat) (x : DV) : Prop := ∃ p, toPyD x = some p ∧ SmD n c p
theorem Shw.mono {n c n' c' : Nat} {x : DV} (h : Shw n c x) (hn : n ≤ n') (hc : c ≤ c') : Shw n' c' x := let ⟨p, e, s⟩ := h; ⟨p, e, s.mono hn hc⟩
theorem shw_int {i : Int} (h : i.natAbs.log2 < 1920) : Shw 0 1921 (.int i) := ⟨_, rfl, (sm_int h).d⟩
theorem shw_bl (b : Bool) : Shw 0 1921 (.bl b) := ⟨_, rfl, (sm_bool b).d.mono (Nat.le_refl _) (by decide)⟩
theorem shw_non : Shw 0 1921 .non := ⟨_, rfl, sm_none.d.mono (Nat.le_refl _) (by decide)⟩
theorem shw_str {z : Str} (h : ∀ c ∈ z.cps.toList, c < 16 ^ 8) (hl : z.length ≤ 100) : Shw 0 1921 (.str z) := ⟨_, rfl, (sm_str h hl).d.mono (Nat.le_refl _) (by decide)⟩
theorem shwA {n c : Nat} : ∀ {xs : List DV}, (∀ x ∈ xs, Shw n c x) → ∃ ps, toPyDA xs = some ps ∧ ps.length = xs.length ∧ ∀ p ∈ ps, SmD n c p
  | [], _ => ⟨[], rfl, rfl, fun p hp => by cases hp⟩
  | x :: xs, h => by
    obtain ⟨p, e, s⟩ := h x List.mem_cons_self
    obtain ⟨ps, e2, l, s2⟩ := shwA (xs := xs) fun y hy => h y (List.mem_cons_of_mem _ hy)
    refine ⟨p :: ps, ?_, by rw [List.length_cons, List.length_cons, l], fun q hq => ?_⟩
    · rw [toPyDA, e, e2]
      rfl
    · rcases List.mem_cons.mp hq with rfl | hq
      · exact s
      · exact s2 q hq
theorem shw_lst {n c k : Nat} {xs : List DV} (h : ∀ x ∈ xs, Shw n c x) (hk : xs.length ≤ k) : Shw (n + 1) (k * (c + 2) + 3) (.lst xs) := by
  obtain ⟨ps, e, l, s⟩ := shwA h
  refine ⟨.list ps, by rw [toPyD, e]; rfl, (smD_list s).mono (Nat.le_refl _) ?_⟩
  rw [l]
  have := Nat.mul_le_mul_right (c + 2) hk
  omega
theorem shw_tup {n c k : Nat} {xs : List DV} (h : ∀ x ∈ xs, Shw n c x) (hk : xs.length ≤ k) : Shw (n + 1) (k * (c + 2) + 3) (.tup xs) := by
  obtain ⟨ps, e, l, s⟩ := shwA h
  refine ⟨.tuple ps, by rw [toPyD, e]; rfl, (smD_tup s).mono (Nat.le_refl _) ?_⟩
  rw [l]
  have := Nat.mul_le_mul_right (c + 2) hk
  omega
theorem shw_dct0 : Shw 1 1921 (.node (.dct []) []) := ⟨.dict [], rfl, Nat.le_refl _, rfl, by decide +kernel⟩
theorem shw_dct {n c k : Nat} {kvs : List (Key × DV)} (hk : ∀ p ∈ kvs, SmD n c (kyP p.1) ∧ Shw n c p.2) (hl : kvs.length ≤ k) : Shw (n + 1) (k * (2 * c + 4) + 2) (dctD kvs) := by
  obtain ⟨ps, e, l, s⟩ := shwA (xs := kvs.map (·.2)) fun x hx => by
    obtain ⟨p, hp, rfl⟩ := List.mem_map.mp hx
    exact (hk p hp).2
  refine ⟨.dict (((kvs.map (·.1)).map kyP).zip ps), by show (toPyDA (kvs.map (·.2))).map _ = _; rw [e]; rfl, (smD_dict (c := c) fun q hq => ?_).mono (Nat.le_refl _) ?_⟩
  · obtain ⟨h1, h2⟩ := List.of_mem_zip hq
    refine ⟨?_, s _ h2⟩
    obtain ⟨y, hy, e1⟩ := List.mem_map.mp h1
    obtain ⟨p, hp, rfl⟩ := List.mem_map.mp hy
    rw [← e1]
    exact (hk p hp).1
  · rw [List.length_zip, List.length_map, List.length_map]
    have h1 : min kvs.length ps.length ≤ k := Nat.le_trans (Nat.min_le_left _ _) hl
    have := Nat.mul_le_mul_right (2 * c + 4) h1
    omega
end
end Rg
namespace Rg
open PySem PySem.Spec PyProof.Rows L2
section
variable {P : Program} {w : World} {K : PySem.W.Frag} {mg : Str → Option Value} {base : Heap}
theorem valL_shw : ∀ d ∈ valL, Shw 3 6000 d := fun d hd => by
  unfold valL at hd
  simp only [List.mem_cons, List.not_mem_nil, or_false] at hd
  have i1 : ∀ i : Int, i ∈ [(0 : Int), -1, 10 ^ 40, 1] → Shw 0 1921 (.int i) := fun i hi => shw_int (by
    simp only [List.mem_cons, List.not_mem_nil, or_false] at hi
    rcases hi with rfl | rfl | rfl | rfl <;> decide +kernel)
  have s1 : ∀ z : Str, z ∈ [("" : Str), "x", "wall 9", "a"] → Shw 0 1921 (.str z) := fun z hz => by
    simp only [List.mem_cons, List.not_mem_nil, or_false] at hz
    rcases hz with rfl | rfl | rfl | rfl <;> exact shw_str (by decide +kernel) (by decide +kernel)
  rcases hd with rfl | rfl | rfl | rfl | rfl | rfl | rfl | rfl | rfl | rfl | rfl | rfl | rfl | rfl | rfl
  · exact shw_non.mono (n' := 3) (c' := 6000) (by decide) (by decide)
  · exact (shw_bl _).mono (n' := 3) (c' := 6000) (by decide) (by decide)
  · exact (shw_bl _).mono (n' := 3) (c' := 6000) (by decide) (by decide)
  · exact (i1 0 (by decide)).mono (n' := 3) (c' := 6000) (by decide) (by decide)
  · exact (i1 (-1) (by decide)).mono (n' := 3) (c' := 6000) (by decide) (by decide)
  · exact (i1 (10 ^ 40) (by decide)).mono (n' := 3) (c' := 6000) (by decide) (by decide)
  · exact (s1 "" (by decide)).mono (n' := 3) (c' := 6000) (by decide) (by decide)
  · exact (s1 "x" (by decide)).mono (n' := 3) (c' := 6000) (by decide) (by decide)
  · exact (s1 "wall 9" (by decide)).mono (n' := 3) (c' := 6000) (by decide) (by decide)
  · exact (shw_tup (n := 0) (c := 1921) (k := 0) (xs := []) (fun _ h => nomatch h) (Nat.le_refl _)).mono (n' := 3) (c' := 6000) (by decide) (by decide)
  · exact (shw_tup (n := 0) (c := 1921) (k := 2) (xs := [.str "x", .int 1]) (fun x hx => by
      simp only [List.mem_cons, List.not_mem_nil, or_false] at hx
      rcases hx with rfl | rfl
      · exact s1 "x" (by decide)
      · exact i1 1 (by decide)) (Nat.le_refl _)).mono (n' := 3) (c' := 6000) (by decide) (by decide)
  · exact (shw_lst (n := 0) (c := 1921) (k := 0) (xs := []) (fun _ h => nomatch h) (Nat.le_refl _)).mono (n' := 3) (c' := 6000) (by decide) (by decide)
  · exact (shw_lst (n := 0) (c := 1921) (k := 2) (xs := [.int 1, .str "a"]) (fun x hx => by
      simp only [List.mem_cons, List.not_mem_nil, or_false] at hx
      rcases hx with rfl | rfl
      · exact i1 1 (by decide)
      · exact s1 "a" (by decide)) (Nat.le_refl _)).mono (n' := 3) (c' := 6000) (by decide) (by decide)
  · exact shw_dct0.mono (n' := 3) (c' := 6000) (by decide) (by decide)
  · refine (shw_dct (n := 1) (c := 1926) (k := 1) (kvs := [(Sum.inr "a", .tup [.int 1])]) (fun p hp => ?_) (Nat.le_refl _)).mono (n' := 3) (c' := 6000) (by decide) (by decide)
    rw [List.mem_singleton.mp hp]
    refine ⟨?_, (shw_tup (n := 0) (c := 1921) (k := 1) (xs := [.int 1]) (fun x hx => by
      rw [List.mem_singleton.mp hx]
      exact i1 1 (by decide)) (Nat.le_refl _)).mono (n' := 1) (c' := 1926) (by decide) (by decide)⟩
    obtain ⟨p, e, s⟩ := s1 "a" (by decide)
    cases e
    exact s.mono (n' := 1) (c' := 1926) (by decide) (by decide)
theorem shw60 {n c : Nat} {d : DV} (h : Shw n c d) (hn : n ≤ 60) (hc : c ≤ 10000000) : ∃ p, toPyD d = some p ∧ SmD 60 10000000 p := let ⟨p, e, s⟩ := h; ⟨p, e, s.mono hn hc⟩
theorem shwL {ds : List DV} (h : ∀ d ∈ ds, d ∈ valL) (hl : ds.length ≤ 20) : ∃ p, toPyD (.lst ds) = some p ∧ SmD 60 10000000 p := shw60 (shw_lst (n := 3) (c := 6000) (k := 20) (fun x hx => valL_shw x (h x hx)) hl) (by decide) (by decide)
theorem shwV {d : DV} (h : d ∈ valL) : ∃ p, toPyD d = some p ∧ SmD 60 10000000 p := shw60 (valL_shw d h) (by decide) (by decide)
def nm7 : List Str := ["BadSigns", "BadRule", "BadMove", "BadMachine", "BadGame", "OtherSigns", "BadNumber"]
def nmA : List Str := ["BadRow", "BadBook", "Heavier"]
def nmR : List Str := ["NoMove", "NotWon", "NotKept"]
def fnNamed : PFn := fun _ ds n Q _ => ∃ d e : DV, ds = [d, e] ∧ d ∈ valL ∧ e ∈ valL ∧ Q (.bl true) n
theorem ok_named {f : Addr} {fd : FuncData} (F : FunD K "_law_named_right" "_law_named_right" (defArgs s_named) (defBody s_named) (defScope s_named) [] [] f fd) (T : Tx K mg) : FnG P w K mg base CX0 3 f fd ["_law_one", "_law_two"] (spP K fnNamed) := by
  refine ok_pG F sc_named (fun pn ds n Q R h => ?_) fun cdv A outer s pn D H E ds n Qd R hr hG h => ?_
  · obtain ⟨d, e, rfl, _⟩ := h
    rfl
  obtain ⟨d, e, rfl, hd, he, hq⟩ := h
  refine ⟨_, DSs.nox (s_cons (s_set (i := 2) sc_named.nd rfl (Or.inl rfl) (DF.de (f_lst (a_cons (d_makeEK (xk_BadSigns_part T) hr (by decide) (by rfl) (k_cons (d_var (pv 0)) k_nil)) (a_cons (d_makeEK (xk_BadRule_part T) hr (by decide) (by rfl) (k_cons (d_var (pv 0)) k_nil)) (a_cons (d_makeEK (xk_BadMove_part T) hr (by decide) (by rfl) (k_cons (d_var (pv 0)) k_nil)) (a_cons (d_makeEK (xk_BadMachine_part T) hr (by decide) (by rfl) (k_cons (d_var (pv 0)) k_nil)) (a_cons (d_makeEK (xk_BadGame_part T) hr (by decide) (by rfl) (k_cons (d_var (pv 0)) k_nil)) a_nil))))))))
      (s_cons (s_set (i := 2) sc_named.nd rfl (Or.inl rfl) (d_op b_add (d_var (pv 2)) (DF.de (f_lst (a_cons (d_makeEK (xk_OtherSigns_part T) hr (by decide) (by rfl) (k_cons (d_var (pv 0)) k_nil)) (a_cons (d_makeEK (xk_BadNumber_part T) hr (by decide) (by rfl) (k_cons (d_var (pv 0)) k_nil)) a_nil))))))
      (s_cons (s_set (i := 3) sc_named.nd rfl (Or.inl rfl) (d_op b_add (DF.de (f_lc (own := [("_law_error", 4)]) (by rfl) sc_named.nd (i_any (d_var (pv 2))) (blkOk_by (by kernel_rfl)) (fun _ _ _ _ _ => (g_name (pg_name (i := 4) sc_named.nd rfl (Or.inl rfl)))) (by decide) (fun _ _ _ _ _ => pts_nil) simT_yes (fun _ _ _ _ _ => (d_fldX (fldXB_ok T.xf_part) (d_var (pv 4)))))) (DF.de (f_lc (own := [("_law_error", 4)]) (by rfl) sc_named.nd (i_any (DF.de (f_lst (a_cons (d_makeEK (xk_BadRow_at T) hr (by decide) (by rfl) (k_cons (d_var (pv 0)) k_nil)) (a_cons (d_makeEK (xk_BadBook_at T) hr (by decide) (by rfl) (k_cons (d_var (pv 0)) k_nil)) (a_cons (d_makeEK (xk_Heavier_at T) hr (by decide) (by rfl) (k_cons (d_var (pv 0)) k_nil)) a_nil)))))) (blkOk_by (by kernel_rfl)) (fun _ _ _ _ _ => (g_name (pg_name (i := 4) sc_named.nd rfl (Or.inl rfl)))) (by decide) (fun _ _ _ _ _ => pts_nil) simT_yes (fun _ _ _ _ _ => (d_fldX (fldXB_ok T.xf_at) (d_var (pv 4))))))))
      (s_cons (s_set (i := 3) sc_named.nd rfl (Or.inl rfl) (d_op b_add (d_var (pv 3)) (DF.de (f_lc (own := [("_law_error", 4)]) (by rfl) sc_named.nd (i_any (DF.de (f_lst (a_cons (d_makeEK (xk_NoMove_row T) hr (by decide) (by rfl) (k_cons (d_var (pv 0)) k_nil)) (a_cons (d_makeEK (xk_NotWon_row T) hr (by decide) (by rfl) (k_cons (d_var (pv 0)) k_nil)) (a_cons (d_makeEK (xk_NotKept_row T) hr (by decide) (by rfl) (k_cons (d_var (pv 0)) k_nil)) a_nil)))))) (blkOk_by (by kernel_rfl)) (fun _ _ _ _ _ => (g_name (pg_name (i := 4) sc_named.nd rfl (Or.inl rfl)))) (by decide) (fun _ _ _ _ _ => pts_nil) simT_yes (fun _ _ _ _ _ => (d_fldX (fldXB_ok T.xf_row) (d_var (pv 4))))))))
      (s_cons (s_set (i := 3) sc_named.nd rfl (Or.inl rfl) (d_op b_add (d_var (pv 3)) (DF.de (f_lst (a_cons (d_fldX (fldXB_ok T.xf_seat) (d_makeEK (xk_BadSeat_seat T) hr (by decide) (by rfl) (k_cons (d_var (pv 0)) k_nil))) (a_cons (d_fldX (fldXB_ok T.xf_what) (d_makeEK (xk_NotThere_what T) hr (by decide) (by rfl) (k_cons (d_var (pv 0)) k_nil))) (a_cons (d_fldX (fldXB_ok T.xf_row) (d_makeEK (xk_NotRight_seat_row T) hr (by decide) (by rfl) (k_cons (d_var (pv 1)) (k_cons (d_var (pv 0)) k_nil)))) a_nil)))))))
      (s_cons (s_set (i := 3) sc_named.nd rfl (Or.inl rfl) (d_op b_add (d_var (pv 3)) (DF.de (f_lst (a_cons (d_fldX (fldXB_ok T.xf_what) (d_makeEK (xk_TooMany_most_what T) hr (by decide) (by rfl) (k_cons (d_var (pv 1)) (k_cons (d_var (pv 0)) k_nil)))) a_nil)))))
      (s_cons (s_if (t_cmp (b_ne hr.units) (d_callB (c_reprD T.sysB hG hr.units) (by rfl) T.f_repr (by decide +kernel) (a_cons (d_var (pv 3)) a_nil)) (d_callB (c_reprD T.sysB hG hr.units) (by rfl) T.f_repr (by decide +kernel) (a_cons (d_op b_mul (DF.de (f_lst (a_cons (d_var (pv 0)) a_nil))) d_int) a_nil)) (nomark _))
      (s_one (s_ret d_bl)) s_nil)
      (s_one (s_ret (d_cmp (b_eq hr.units) (d_callB (c_reprD T.sysB hG hr.units) (by rfl) T.f_repr (by decide +kernel) (a_cons (DF.de (f_lst (a_cons (d_fldX (fldXB_ok T.xf_seat) (d_makeEK (xk_NotRight_seat_row T) hr (by decide) (by rfl) (k_cons (d_var (pv 1)) (k_cons (d_var (pv 0)) k_nil)))) (a_cons (d_fldX (fldXB_ok T.xf_most) (d_makeEK (xk_TooMany_most_what T) hr (by decide) (by rfl) (k_cons (d_var (pv 1)) (k_cons (d_var (pv 0)) k_nil)))) a_nil)))) a_nil)) (d_callB (c_reprD T.sysB hG hr.units) (by rfl) T.f_repr (by decide +kernel) (a_cons (DF.de (f_lst (a_cons (d_var (pv 1)) (a_cons (d_var (pv 1)) a_nil)))) a_nil)) (nomark _))))))))))), ?_⟩
  have e0 : ∀ x : Str, (decide (x = x) ^^ true) = false := fun x => by rw [decide_eq_true rfl]; rfl
  refine ⟨rfl, rfl, rfl, rfl, rfl, rfl, rfl, rfl, rfl, rfl, (show 5 ≤ sizeLine by decide), ?_⟩
  refine ⟨rfl, rfl, rfl, rfl, (show 2 ≤ sizeLine by decide), (show 5 + 2 ≤ sizeLine by decide), ?_⟩
  refine lc_xs (vs := [4]) (sl := [some (.val d), some (.val e), some (.val (.lst (nm7.map fun C => ex1 C "part" d))), none, none]) nm7 (fun C => ex1 C "part" d) (fun _ => d) (by decide) rfl (fun C kk hC hk => ?_) ?_
  · refine ⟨by
      unfold nm7 at hC
      simp only [List.mem_cons, List.not_mem_nil, or_false] at hC
      rcases hC with rfl | rfl | rfl | rfl | rfl | rfl | rfl <;> decide, hk _ (by repeat' first | exact .nil | refine .eq ?_ | refine .no ?_)⟩
  refine ⟨rfl, rfl, rfl, rfl, rfl, rfl, (show 3 ≤ sizeLine by decide), ?_⟩
  refine lc_xs (vs := [4]) (sl := [some (.val d), some (.val e), some (.val (.lst (nm7.map fun C => ex1 C "part" d))), none, none]) nmA (fun C => ex1 C "at" d) (fun _ => d) (by decide) rfl (fun C kk hC hk => ?_) ?_
  · refine ⟨by
      unfold nmA at hC
      simp only [List.mem_cons, List.not_mem_nil, or_false] at hC
      rcases hC with rfl | rfl | rfl <;> decide, hk _ (by repeat' first | exact .nil | refine .eq ?_ | refine .no ?_)⟩
  refine ⟨(show 7 + 3 ≤ sizeLine by decide), ?_⟩
  refine ⟨rfl, rfl, rfl, rfl, rfl, rfl, (show 3 ≤ sizeLine by decide), ?_⟩
  refine lc_xs (vs := [4]) (sl := [some (.val d), some (.val e), some (.val (.lst (nm7.map fun C => ex1 C "part" d))), some (.val (.lst (nm7.map (fun _ => d) ++ nmA.map fun _ => d))), none]) nmR (fun C => ex1 C "row" d) (fun _ => d) (by decide) rfl (fun C kk hC hk => ?_) ?_
  · refine ⟨by
      unfold nmR at hC
      simp only [List.mem_cons, List.not_mem_nil, or_false] at hC
      rcases hC with rfl | rfl | rfl <;> decide, hk _ (by repeat' first | exact .nil | refine .eq ?_ | refine .no ?_)⟩
  refine ⟨(show 10 + 3 ≤ sizeLine by decide), ?_⟩
  refine ⟨rfl, rfl, by decide, rfl, rfl, by decide, rfl, rfl, by decide, (show 3 ≤ sizeLine by decide), (show 13 + 3 ≤ sizeLine by decide), ?_⟩
  refine ⟨rfl, rfl, by decide, (show 1 ≤ sizeLine by decide), (show 16 + 1 ≤ sizeLine by decide), ?_⟩
  obtain ⟨p17, t17, s17⟩ := shwL (ds := List.replicate 17 d) (fun x hx => by rw [List.eq_of_mem_replicate hx]; exact hd) (by rw [List.length_replicate]; decide)
  refine ⟨p17, t17, s17, ?_⟩
  refine ⟨(show 1 ≤ sizeLine by decide), by decide, by decide, (show 1 * 17 ≤ sizeLine by decide), p17, t17, s17, ?_⟩
  refine ite_F (e0 _) ?_
  obtain ⟨p2, t2, s2⟩ := shwL (ds := [e, e]) (fun x hx => by
    simp only [List.mem_cons, List.not_mem_nil, or_false, or_self] at hx
    rw [hx]
    exact he) (by show 2 ≤ 20; decide)
  refine ⟨rfl, rfl, by decide, rfl, rfl, by decide, (show 2 ≤ sizeLine by decide), p2, t2, s2, (show 2 ≤ sizeLine by decide), p2, t2, s2, ?_⟩
  show Qd (.bl (decide (p2.shown = p2.shown) ^^ false)) _
  rw [decide_eq_true rfl]
  exact hq
theorem cNamed (T : Tx K mg) : CalG P w K mg base CX0 3 "_law_named_right" (spP K fnNamed) := c_named T fun _ F => ok_named F T
end
end Rg
namespace Rg
open PySem PySem.Spec PyProof.Rows L2
section
variable {P : Program} {w : World} {K : PySem.W.Frag} {mg : Str → Option Value} {base : Heap}
def spLaw (K : PySem.W.Frag) : Sp := fun vs H Q _ => ∃ (a : Addr) (ns : List Int), vs = [.ref a] ∧ SqL K H a (ns.map V.int) ∧ ∀ H', Q (.bl true) H'
theorem nmP_in : ∀ q ∈ nmP, q.1 ∈ nmIn := by decide +kernel
theorem nmP_21 : ∀ q ∈ nmP, q.1 ∈ nm21 := by decide +kernel
theorem nm21_all : ∀ C ∈ nm21, C ∈ nmAll := by decide +kernel
theorem nmNo_21 : ∀ C ∈ nmNo, C ∈ nm21 := by decide +kernel
def ex2 (C f g : Str) (d e : DV) : DV := .node (.exc C [g, f]) [e, d]
theorem shown_ok2 : ∀ d ∈ valL, ∀ e ∈ valL, ((toPyD (.lst [d, e])).map fun p => PyData.strOk p.shown) = some true := by decide +kernel
theorem toPy_strs2 : ∀ xs : List Str, toPyA (xs.map DV.str) = some (xs.map PyData.str)
  | [] => by rw [List.map_nil, toPyA]; rfl
  | x :: r => by rw [List.map_cons, toPyA, toPy, toPy_strs2 r]; rfl
theorem toPy_lstS (xs : List Str) : toPy (.lst (xs.map DV.str)) = some (.list (xs.map PyData.str)) := by
  rw [toPy, toPy_strs2]
  rfl
theorem shp2 {z : Str} (h : PyData.strOk z = true) : SeqAt.shaped (.list ([z, z].map PyData.str)) = true := by
  have e : SeqAt.shaped (.list ([z, z].map PyData.str)) = (PyData.strOk z && (PyData.strOk z && true) && true) := rfl
  rw [e, h]
  rfl
theorem eqv_ss (z : Str) : PyData.eqv (.list ([z, z].map PyData.str)) (.list ([z, z].map PyData.str)) = true := by
  show PyData.eqv (.list [.str z, .str z]) (.list [.str z, .str z]) = true
  rw [PyData.eqv, PyData.eqvAll, PyData.eqvAll, PyData.eqvAll, eqv_str, decide_eq_true rfl]
  rfl
theorem ok_law {f : Addr} {fd : FuncData} (Fd : FunD K "law" "law" (defArgs s_law) (defBody s_law) (defScope s_law) [] [] f fd) (T : Tx K mg) : FnG P w K mg base CX0 15 f fd ["_law_script"] (spLaw K) := by
  refine FunD.okG Fd sc_law (fun vs H Q E h => ?_) (fun cdv A outer s H vs Q E hr hG h => ?_)
  · obtain ⟨a, ns, rfl, _⟩ := h
    rfl
  · obtain ⟨a, ns, rfl, hS, k⟩ := h
    refine ⟨_, PSs.nox (pss_cons (ps_set (i := 1) sc_law.nd rfl (Or.inl rfl) (pe_cX (cPen T) hr (by decide) (by rfl) pass0 (pa_cons (pv 0) pa_nil))) (pss_ex (ι := Addr × Hp × Hp) fun i => DSs.run (G := ⟨K, some i.1, i.2.1, i.2.2, E, []⟩) (s_cons (s_for PassesOwn.never rfl (i_range1 (by rfl) T.f_range d_int) (g_name (pg_name (i := 2) sc_law.nd rfl (Or.inl rfl)))
      (s_cons (s_par (i := 3) (j := 4) (by rfl) sc_law.nd rfl rfl (by decide) rfl rfl (a_cons (d_call (cValue T) hr (by decide) (by rfl) pass0 (a_cons (d_var (pv 1)) a_nil)) (a_cons (d_call (cValue T) hr (by decide) (by rfl) pass0 (a_cons (d_var (pv 1)) a_nil)) a_nil)) (by rfl))
      (s_cons (s_for PassesOwn.never rfl (i_any (d_call (cInputs T) hr (by decide) (by rfl) pass0 (a_cons (d_var (pv 3)) a_nil))) (g_tup (n := 2) rfl (gs_cons (g_name (pg_name (i := 5) sc_law.nd rfl (Or.inl rfl))) (gs_cons (g_name (pg_name (i := 6) sc_law.nd rfl (Or.inl rfl))) gs_nil)) (glN (glN gl0)))
      (s_cons (s_if (DW.t (w_or (t_cmp (b_ne hr.units) (d_callB (c_reprD T.sysB hG hr.units) (by rfl) T.f_repr (by decide +kernel) (a_cons (d_call (cField T) hr (by decide) (by rfl) pass0 (a_cons (d_var (pv 5)) (a_cons (d_var (pv 6)) a_nil))) a_nil)) (d_callB (c_reprD T.sysB hG hr.units) (by rfl) T.f_repr (by decide +kernel) (a_cons (d_var (pv 3)) a_nil)) (nomark _)) (w_or1 (t_not (t_tru (d_call (cGroup T) hr (by decide) (by rfl) pass0 (a_cons (d_var (pv 5)) (a_cons d_bl a_nil))))))))
      (s_one (s_ret d_bl)) s_nil)
      (s_one (s_if (t_cmp (b_ne hr.units) (d_call (cKinds T) hr (by decide) (by rfl) pass0 (a_cons (d_var (pv 5)) a_nil)) d_int (nomark _))
      (s_one (s_ret d_bl)) s_nil))))
      (s_cons (s_for PassesOwn.never rfl (i_any (DF.de (f_lst (a_cons (d_makeE (xc_Unlessened T) hr (by decide) (by rfl) (a_cons (d_var (pv 3)) (a_cons (d_var (pv 4)) a_nil))) (a_cons (d_makeEK (xk_Unlessened_old_new T) hr (by decide) (by rfl) (k_cons (d_var (pv 3)) (k_cons (d_var (pv 4)) k_nil))) a_nil))))) (g_name (pg_name (i := 5) sc_law.nd rfl (Or.inl rfl)))
      (s_cons (s_if (DW.t (w_or (t_cmp (b_ne hr.units) (d_callB (c_reprD T.sysB hG hr.units) (by rfl) T.f_repr (by decide +kernel) (a_cons (DF.de (f_lst (a_cons (d_fldX (fldXB_ok T.xf_old) (d_var (pv 5))) (a_cons (d_fldX (fldXB_ok T.xf_new) (d_var (pv 5))) a_nil)))) a_nil)) (d_callB (c_reprD T.sysB hG hr.units) (by rfl) T.f_repr (by decide +kernel) (a_cons (DF.de (f_lst (a_cons (d_var (pv 3)) (a_cons (d_var (pv 4)) a_nil)))) a_nil)) (nomark _)) (w_or1 (t_not (t_tru (d_call (cGroup T) hr (by decide) (by rfl) pass0 (a_cons (d_var (pv 5)) (a_cons d_bl a_nil))))))))
      (s_one (s_ret d_bl)) s_nil)
      (s_one (s_if (t_cmp (b_ne hr.units) (d_call (cKinds T) hr (by decide) (by rfl) pass0 (a_cons (d_var (pv 5)) a_nil)) d_int (nomark _))
      (s_one (s_ret d_bl)) s_nil))))
      (s_cons (s_if (t_not (t_tru (d_callG (cNamed T) hG hr (by decide) (by rfl) pass0 (a_cons (d_var (pv 3)) (a_cons (d_var (pv 4)) a_nil)))))
      (s_one (s_ret d_bl)) s_nil)
      (s_cons (s_set (i := 7) sc_law.nd rfl (Or.inl rfl) (DF.de (f_lst (a_cons (d_makeE (xc_BadText T) hr (by decide) (by rfl) (a_cons (d_var (pv 3)) (a_cons (d_var (pv 4)) a_nil))) (a_cons (d_makeEK (xk_BadText_line_word T) hr (by decide) (by rfl) (k_cons (d_var (pv 3)) (k_cons (d_var (pv 4)) k_nil))) a_nil)))))
      (s_cons (s_if (t_cmp (b_ne hr.units) (DF.de (f_lc (own := [("_law_error", 5)]) (by rfl) sc_law.nd (i_any (d_var (pv 7))) (blkOk_by (by kernel_rfl)) (fun _ _ _ _ _ => (g_name (pg_name (i := 5) sc_law.nd rfl (Or.inl rfl)))) (by decide) (fun _ _ _ _ _ => pts_nil) simT_yes (fun _ _ _ _ _ => (d_callB (c_reprD T.sysB hG hr.units) (by rfl) T.f_repr (by decide +kernel) (a_cons (DF.de (f_lst (a_cons (d_fldX (fldXB_ok T.xf_line) (d_var (pv 5))) (a_cons (d_fldX (fldXB_ok T.xf_word) (d_var (pv 5))) a_nil)))) a_nil))))) (d_op b_mul (DF.de (f_lst (a_cons (d_callB (c_reprD T.sysB hG hr.units) (by rfl) T.f_repr (by decide +kernel) (a_cons (DF.de (f_lst (a_cons (d_var (pv 3)) (a_cons (d_var (pv 4)) a_nil)))) a_nil)) a_nil))) d_int) (nomark _))
      (s_one (s_ret d_bl)) s_nil)
      (s_cons (s_if (DW.t (w_or (t_cmp (b_ne hr.units) (d_callB (c_reprD T.sysB hG hr.units) (by rfl) T.f_repr (by decide +kernel) (a_cons (d_fldX (fldXB_ok T.xf_word) (d_makeE (xc_BadLine T) hr (by decide) (by rfl) (a_cons (d_var (pv 3)) a_nil))) a_nil)) (d_callB (c_reprD T.sysB hG hr.units) (by rfl) T.f_repr (by decide +kernel) (a_cons (d_var (pv 3)) a_nil)) (nomark _)) (w_or1 (t_cmp (b_ne hr.units) (d_call (cKinds T) hr (by decide) (by rfl) pass0 (a_cons (d_makeEK (xk_BadLine_word T) hr (by decide) (by rfl) (k_cons (d_var (pv 4)) k_nil)) a_nil)) d_int (nomark _)))))
      (s_one (s_ret d_bl)) s_nil)
      (s_cons (s_if (DW.t (w_or (t_cmp (b_ne hr.units) (d_call (cKinds T) hr (by decide) (by rfl) pass0 (a_cons (d_ixV (pv 7) d_int) a_nil)) d_int (nomark _)) (w_or (t_not (t_tru (d_call (cGroup T) hr (by decide) (by rfl) pass0 (a_cons (d_ixV (pv 7) d_int) (a_cons d_bl a_nil))))) (w_or1 (t_not (t_tru (d_call (cGroup T) hr (by decide) (by rfl) pass0 (a_cons (d_makeE (xc_BadLine T) hr (by decide) (by rfl) (a_cons (d_var (pv 3)) a_nil)) (a_cons d_bl a_nil)))))))))
      (s_one (s_ret d_bl)) s_nil)
      (s_cons (s_for PassesOwn.never rfl (i_any (DF.de (f_lst (a_cons (d_makeE (xc_TooMany T) hr (by decide) (by rfl) (a_cons (d_var (pv 3)) (a_cons (d_var (pv 4)) a_nil))) (a_cons (d_makeE (xc_NoMove T) hr (by decide) (by rfl) (a_cons (d_var (pv 3)) a_nil)) (a_cons (d_makeE (xc_NotWon T) hr (by decide) (by rfl) (a_cons (d_var (pv 3)) a_nil)) (a_cons (d_makeE (xc_NotRight T) hr (by decide) (by rfl) (a_cons (d_var (pv 3)) (a_cons (d_var (pv 4)) a_nil))) (a_cons (d_makeE (xc_NotKept T) hr (by decide) (by rfl) (a_cons (d_var (pv 3)) a_nil)) (a_cons (d_makeE (xc_NotThere T) hr (by decide) (by rfl) (a_cons (d_var (pv 3)) a_nil)) a_nil))))))))) (g_name (pg_name (i := 5) sc_law.nd rfl (Or.inl rfl)))
      (s_one (s_if (DW.t (w_or (t_not (t_tru (d_call (cGroup T) hr (by decide) (by rfl) pass0 (a_cons (d_var (pv 5)) (a_cons d_bl a_nil))))) (w_or1 (t_cmp (b_ne hr.units) (d_call (cKinds T) hr (by decide) (by rfl) pass0 (a_cons (d_var (pv 5)) a_nil)) d_int (nomark _)))))
      (s_one (s_ret d_bl)) s_nil)))
      (s_cons (s_if (t_cmp (b_ne hr.units) (d_callB (c_reprD T.sysB hG hr.units) (by rfl) T.f_repr (by decide +kernel) (a_cons (DF.de (f_lst (a_cons (d_fldX (fldXB_ok T.xf_what) (d_makeE (xc_TooMany T) hr (by decide) (by rfl) (a_cons (d_var (pv 3)) (a_cons (d_var (pv 4)) a_nil)))) (a_cons (d_fldX (fldXB_ok T.xf_most) (d_makeE (xc_TooMany T) hr (by decide) (by rfl) (a_cons (d_var (pv 3)) (a_cons (d_var (pv 4)) a_nil)))) (a_cons (d_fldX (fldXB_ok T.xf_row) (d_makeE (xc_NoMove T) hr (by decide) (by rfl) (a_cons (d_var (pv 3)) a_nil))) a_nil))))) a_nil)) (d_callB (c_reprD T.sysB hG hr.units) (by rfl) T.f_repr (by decide +kernel) (a_cons (DF.de (f_lst (a_cons (d_var (pv 3)) (a_cons (d_var (pv 4)) (a_cons (d_var (pv 3)) a_nil))))) a_nil)) (nomark _))
      (s_one (s_ret d_bl)) s_nil)
      (s_cons (s_if (t_cmp (b_ne hr.units) (d_callB (c_reprD T.sysB hG hr.units) (by rfl) T.f_repr (by decide +kernel) (a_cons (DF.de (f_lst (a_cons (d_fldX (fldXB_ok T.xf_row) (d_makeE (xc_NotRight T) hr (by decide) (by rfl) (a_cons (d_var (pv 3)) (a_cons (d_var (pv 4)) a_nil)))) (a_cons (d_fldX (fldXB_ok T.xf_seat) (d_makeE (xc_NotRight T) hr (by decide) (by rfl) (a_cons (d_var (pv 3)) (a_cons (d_var (pv 4)) a_nil)))) (a_cons (d_fldX (fldXB_ok T.xf_row) (d_makeE (xc_NotKept T) hr (by decide) (by rfl) (a_cons (d_var (pv 3)) a_nil))) a_nil))))) a_nil)) (d_callB (c_reprD T.sysB hG hr.units) (by rfl) T.f_repr (by decide +kernel) (a_cons (DF.de (f_lst (a_cons (d_var (pv 3)) (a_cons (d_var (pv 4)) (a_cons (d_var (pv 3)) a_nil))))) a_nil)) (nomark _))
      (s_one (s_ret d_bl)) s_nil)
      (s_cons (s_if (DW.t (w_or (t_cmp (b_ne hr.units) (d_callB (c_reprD T.sysB hG hr.units) (by rfl) T.f_repr (by decide +kernel) (a_cons (d_fldX (fldXB_ok T.xf_row) (d_makeE (xc_NotWon T) hr (by decide) (by rfl) (a_cons (d_var (pv 3)) a_nil))) a_nil)) (d_callB (c_reprD T.sysB hG hr.units) (by rfl) T.f_repr (by decide +kernel) (a_cons (d_var (pv 3)) a_nil)) (nomark _)) (w_or1 (t_cmp (b_ne hr.units) (d_callB (c_reprD T.sysB hG hr.units) (by rfl) T.f_repr (by decide +kernel) (a_cons (d_fldX (fldXB_ok T.xf_what) (d_makeE (xc_NotThere T) hr (by decide) (by rfl) (a_cons (d_var (pv 3)) a_nil))) a_nil)) (d_callB (c_reprD T.sysB hG hr.units) (by rfl) T.f_repr (by decide +kernel) (a_cons (d_var (pv 3)) a_nil)) (nomark _)))))
      (s_one (s_ret d_bl)) s_nil)
      (s_one (s_if (DW.t (w_or (t_not (t_tru (d_callE0 (C := "NothingPlayed") F.excBase_ValueError (cGroupE T) hr (by decide) (by rfl) pass0 T.xq_NothingPlayed T.g_NothingPlayed T.xk_NothingPlayed (by rfl) (a_cons d_bl a_nil)))) (w_or (t_cmp (b_ne hr.units) (d_callE0 (C := "NothingPlayed") F.excBase_ValueError (cKindsE T) hr (by decide) (by rfl) pass0 T.xq_NothingPlayed T.g_NothingPlayed T.xk_NothingPlayed (by rfl) a_nil) d_int (nomark _)) (w_or1 (t_cmp (b_ne hr.units) (d_callE0 (C := "GameError") F.excBase_ValueError (cKindsE T) hr (by decide) (by rfl) pass0 T.xq_GameError T.g_GameError T.xk_GameError (by rfl) a_nil) d_int (nomark _))))))
      (s_one (s_ret d_bl)) s_nil)))))))))))))))
      (s_one (s_ret (d_call (cHeavier T) hr (by decide) (by rfl) pass0 (a_cons (d_var (pv 1)) a_nil))))))), ?_⟩
    refine ⟨_, rfl, a, ns, rfl, hS, fun D1 H1 p st1 pen1 => ?_⟩
    refine ⟨(p, D1, H1), ?_⟩
    refine ⟨D1, ⟨[some (.val (.raw (.ref a))), some (.val (.raw (.ref p))), none, none, none, none, none, none], 900000⟩, ends (fun d _ => d = .bl true) (fun _ _ => False), ⟨StepT.refl st1.dh, ⟨[], ?_⟩, fun q hq => by simp at hq, fun q e => by cases e; exact pen1, fun q e => by cases e; exact pen1.there, fun q hq => by simp at hq⟩, ?_, ⟨fun D' σ' H' ρ' _ rel q => (nomatch (show DV.non = DV.bl true from q)), fun D' H' v d n' s pk rv q => ?_, fun _ _ _ _ _ _ z => (show False from z).elim, fun _ _ _ _ _ _ z => (show False from z).elim⟩, ex_never⟩
    · exact .val (.raw _) (.val (.raw _) (.no (.no (.no (.no (.no (.no .nil)))))))
    · refine ⟨by decide, by decide, ?_⟩
      have e0 : ∀ x : Str, (decide (x = x) ^^ true) = false := fun x => by rw [decide_eq_true rfl]; rfl
      refine ⟨fun i ρ => ρ = ⟨[some (.val (.raw (.ref a))), some (.val (.raw (.ref p))), none, none, none, none, none, none], 900000 - 2 * i⟩, rfl, ?_, ?_⟩
      · rintro i z ρ hz rfl
        have hi : i < 4 := by
          have := (List.getElem?_eq_some_iff.mp hz).1
          rw [rangeD_len] at this
          exact this
        refine ⟨p, rfl, rfl, (show 1 ≤ 900000 - 2 * i by omega), fun d hd => ?_⟩
        refine ⟨p, rfl, rfl, (show 1 ≤ 900000 - 2 * i - 1 by omega), fun e he => ?_⟩
        obtain ⟨pd, td, sd⟩ := shwV hd
        obtain ⟨pe, te, se⟩ := shwV he
        refine ⟨d, rfl, ?_⟩
        refine ⟨fun j ρ => ρ = ⟨[some (.val (.raw (.ref a))), some (.val (.raw (.ref p))), some (.val z), some (.val d), some (.val e), none, none, none], 900000 - 2 * i - 1 - 1⟩, rfl, ?_, ?_⟩
        · rintro j y ρ hy rfl
          obtain ⟨q, hq, rfl⟩ := mapD_at hy
          have hq := List.mem_of_getElem? hq
          refine ⟨q, d, rfl, hq, pd, td, sd, pd, td, sd, ?_⟩
          refine ite_F (e0 _) ?_
          refine ⟨q.1, [q.2], [d], true, rfl, .inl (nmP_in q hq), ?_⟩
          rw [show decide (decide (q.1 ∈ nmIn) = true) = true from by rw [decide_eq_true (nmP_in q hq)]; rfl]
          refine ite_F rfl ?_
          refine ⟨q.1, [q.2], [d], rfl, nm21_all _ (nmP_21 q hq), ?_⟩
          rw [kinds_one _ (nmP_21 q hq)]
          exact ⟨_, _, (by repeat' first | exact .nil | refine .eq ?_ | refine .no ?_), Nat.le_refl _, rfl⟩
        rintro ρ rfl
        refine ⟨rfl, rfl, rfl, (show 2 ≤ sizeLine by decide), ?_⟩
        obtain ⟨p2, t2, s2⟩ := shwL (ds := [d, e]) (fun x hx => by
          simp only [List.mem_cons, List.not_mem_nil, or_false] at hx
          rcases hx with rfl | rfl
          · exact hd
          · exact he) (by show 2 ≤ 20; decide)
        have k2 : PyData.strOk p2.shown = true := by
          have := shown_ok2 d hd e he
          rw [t2] at this
          exact Option.some.inj this
        refine ⟨fun j ρ => ρ = ⟨[some (.val (.raw (.ref a))), some (.val (.raw (.ref p))), some (.val z), some (.val d), some (.val e), none, none, none], 900000 - 2 * i - 1 - 1⟩, rfl, ?_, ?_⟩
        · rintro j y ρ hy rfl
          have hy2 : y = ex2 "Unlessened" "old" "new" d e := by
            match j, hy with
            | 0, hy => cases hy; rfl
            | 1, hy => cases hy; rfl
            | _ + 2, hy => cases hy
          subst hy2
          refine ⟨by decide, by decide, (show 2 ≤ sizeLine by decide), p2, t2, s2, (show 2 ≤ sizeLine by decide), p2, t2, s2, ?_⟩
          refine ite_F (e0 _) ?_
          refine ⟨"Unlessened", _, _, true, rfl, .inl (by decide +kernel), ?_⟩
          refine ite_F rfl ?_
          refine ⟨"Unlessened", _, _, rfl, by decide +kernel, ?_⟩
          exact ⟨_, _, (by repeat' first | exact .nil | refine .eq ?_ | refine .no ?_), Nat.le_refl _, rfl⟩
        rintro ρ rfl
        refine ⟨d, e, rfl, hd, he, ?_⟩
        refine ite_F rfl ?_
        refine ⟨rfl, rfl, rfl, (show 2 ≤ sizeLine by decide), ?_⟩
        show LcIn _ _ _ _ _ [ex2 "BadText" "line" "word" d e, ex2 "BadText" "line" "word" d e] _
        refine lc_xs (vs := [5]) (sl := [some (.val (.raw (.ref a))), some (.val (.raw (.ref p))), some (.val z), some (.val d), some (.val e), none, none, some (.val (.lst [ex2 "BadText" "line" "word" d e, ex2 "BadText" "line" "word" d e]))]) [0, 1] (fun _ : Nat => ex2 "BadText" "line" "word" d e) (fun _ => DV.str p2.shown) (by decide) rfl (fun C kk hC hk => ?_) ?_
        · exact ⟨by decide, by decide, (show 2 ≤ sizeLine by decide), p2, t2, s2, hk _ (by repeat' first | exact .nil | refine .eq ?_ | refine .no ?_)⟩
        refine ⟨(show 2 ≤ sizeLine by decide), p2, t2, s2, (show 1 ≤ sizeLine by decide), by decide, by decide, (show 1 * 2 ≤ sizeLine by decide), ?_⟩
        refine ⟨_, _, toPy_lstS [p2.shown, p2.shown], toPy_lstS [p2.shown, p2.shown], shp2 k2, shp2 k2, ?_⟩
        rw [eqv_ss]
        refine ite_F rfl ?_
        refine ⟨rfl, by decide, pd, td, sd, pd, td, sd, ?_⟩
        refine ite_F (e0 _) ?_
        refine ⟨rfl, rfl, "BadLine", _, _, rfl, by decide +kernel, ?_⟩
        refine ⟨"BadText", _, _, rfl, by decide +kernel, ?_⟩
        refine ⟨"BadText", _, _, true, rfl, .inl (by decide +kernel), ?_⟩
        refine ite_F rfl ?_
        refine ⟨rfl, "BadLine", _, _, true, rfl, .inl (by decide +kernel), ?_⟩
        refine ite_F rfl ?_
        refine ⟨rfl, rfl, rfl, rfl, rfl, rfl, (show 6 ≤ sizeLine by decide), ?_⟩
        refine ⟨fun j ρ => ρ = ⟨[some (.val (.raw (.ref a))), some (.val (.raw (.ref p))), some (.val z), some (.val d), some (.val e), none, none, some (.val (.lst [ex2 "BadText" "line" "word" d e, ex2 "BadText" "line" "word" d e]))], 900000 - 2 * i - 1 - 1⟩, rfl, ?_, ?_⟩
        · rintro j y ρ hy rfl
          obtain ⟨C, fs, zs, rfl, hC⟩ : ∃ C fs zs, y = DV.node (.exc C fs) zs ∧ C ∈ nmNo := by
            match j, hy with
            | 0, hy => cases hy; exact ⟨_, _, _, rfl, by decide +kernel⟩
            | 1, hy => cases hy; exact ⟨_, _, _, rfl, by decide +kernel⟩
            | 2, hy => cases hy; exact ⟨_, _, _, rfl, by decide +kernel⟩
            | 3, hy => cases hy; exact ⟨_, _, _, rfl, by decide +kernel⟩
            | 4, hy => cases hy; exact ⟨_, _, _, rfl, by decide +kernel⟩
            | 5, hy => cases hy; exact ⟨_, _, _, rfl, by decide +kernel⟩
            | _ + 6, hy => cases hy
          refine ⟨C, fs, zs, false, rfl, .inr hC, ?_⟩
          rw [show decide (decide (C ∈ nmIn) = false) = true from by
            have : ∀ C ∈ nmNo, C ∉ nmIn := by decide +kernel
            rw [decide_eq_false (this C hC)]
            rfl]
          refine ite_F rfl ?_
          refine ⟨C, fs, zs, rfl, nm21_all _ (nmNo_21 C hC), ?_⟩
          rw [kinds_one _ (nmNo_21 C hC)]
          exact ⟨_, _, (by repeat' first | exact .nil | refine .eq ?_ | refine .no ?_), Nat.le_refl _, rfl⟩
        rintro ρ rfl
        obtain ⟨p3, t3, s3⟩ := shwL (ds := [d, e, d]) (fun x hx => by
          simp only [List.mem_cons, List.not_mem_nil, or_false] at hx
          rcases hx with rfl | rfl | rfl
          · exact hd
          · exact he
          · exact hd) (by show 3 ≤ 20; decide)
        refine ⟨rfl, by decide, rfl, by decide, rfl, by decide, (show 3 ≤ sizeLine by decide), p3, t3, s3, (show 3 ≤ sizeLine by decide), p3, t3, s3, ?_⟩
        refine ite_F (e0 _) ?_
        refine ⟨rfl, by decide, rfl, by decide, rfl, by decide, (show 3 ≤ sizeLine by decide), p3, t3, s3, (show 3 ≤ sizeLine by decide), p3, t3, s3, ?_⟩
        refine ite_F (e0 _) ?_
        refine ⟨rfl, by decide, pd, td, sd, pd, td, sd, ?_⟩
        refine ite_F (e0 _) ?_
        refine ⟨rfl, by decide, pd, td, sd, pd, td, sd, ?_⟩
        refine ite_F (e0 _) ?_
        intro ax
        refine ⟨false, rfl, .inr (by decide +kernel), ?_⟩
        refine ite_F rfl ?_
        intro ax2
        refine ⟨rfl, by decide +kernel, ?_⟩
        intro ax3
        refine ⟨rfl, by decide +kernel, ?_⟩
        exact ⟨_, 900000 - 2 * (i + 1), (by repeat' first | exact .nil | refine .eq ?_ | refine .no ?_), (show 900000 - 2 * (i + 1) ≤ 900000 - 2 * i - 1 - 1 by omega), rfl⟩
      · rintro ρ rfl
        exact ⟨p, rfl, rfl, (show 4 ≤ 900000 - 2 * 4 by decide), rfl⟩
    · have e : d = .bl true := q
      subst e
      rw [rv_bl rv]
      exact k H'
end
end Rg
namespace Rg
open PySem PySem.Spec PyProof.Rows L2
theorem hsays {w : World} {K : PySem.W.Frag} {h : Heap} {mg : Str → Option Value} (X : K.In h) (G : h.Ns mainGlobals mg) (c : He.SaysX hfacts hdefs [] [] hmore w h K) (cc : He.SaysC hcms K) : Tx K mg where
  f_len := He.free_ok X G (c.t.d.fact 0 (f := .free "len") rfl)
  f_int := He.free_ok X G (c.t.d.fact 1 (f := .free "int") rfl)
  f_abs := He.free_ok X G (c.t.d.fact 2 (f := .free "abs") rfl)
  f_isinstance := He.free_ok X G (c.t.d.fact 3 (f := .free "isinstance") rfl)
  f_str := He.free_ok X G (c.t.d.fact 4 (f := .free "str") rfl)
  f_bool := He.free_ok X G (c.t.d.fact 5 (f := .free "bool") rfl)
  f_list := He.free_ok X G (c.t.d.fact 6 (f := .free "list") rfl)
  f_tuple := He.free_ok X G (c.t.d.fact 7 (f := .free "tuple") rfl)
  f_all := He.free_ok X G (c.t.d.fact 8 (f := .free "all") rfl)
  f_any := He.free_ok X G (c.t.d.fact 9 (f := .free "any") rfl)
  f_range := He.free_ok X G (c.t.d.fact 10 (f := .free "range") rfl)
  f_repr := He.free_ok X G (c.t.d.fact 11 (f := .free "repr") rfl)
  f_enumerate := He.free_ok X G (c.t.d.fact 12 (f := .free "enumerate") rfl)
  f_dict := He.free_ok X G (c.t.d.fact 13 (f := .free "dict") rfl)
  f_sum := He.free_ok X G (c.t.d.fact 14 (f := .free "sum") rfl)
  f_set := He.free_ok X G (c.t.d.fact 15 (f := .free "set") rfl)
  f_ValueError := He.free_ok X G (c.t.d.fact 16 (f := .free "ValueError") rfl)
  g_LETTERS := let ⟨t, e⟩ := He.str_ok X G (c.t.d.fact 17 (f := .str "LETTERS" "abcdefghijklmnopqrstuvwxyz") rfl); ⟨_, e, t, rfl⟩
  g_MOST_SIGNS := let ⟨t, e⟩ := He.int_ok X G (c.t.d.fact 18 (f := .int "MOST_SIGNS" 4) rfl); ⟨_, e, t, rfl⟩
  g_MOST_WEIGHT := let ⟨t, e⟩ := He.int_ok X G (c.t.d.fact 19 (f := .int "MOST_WEIGHT" 9) rfl); ⟨_, e, t, rfl⟩
  g_MOST_STRETCH := let ⟨t, e⟩ := He.int_ok X G (c.t.d.fact 20 (f := .int "MOST_STRETCH" 4) rfl); ⟨_, e, t, rfl⟩
  g_MOST_RULES := let ⟨t, e⟩ := He.int_ok X G (c.t.d.fact 21 (f := .int "MOST_RULES" 8) rfl); ⟨_, e, t, rfl⟩
  g_Weights := He.glo_ok X G (c.t.d.fact 22 (f := .glo "Weights") rfl)
  cl_Weights := He.cls_ok (c.t.d.fact 23 (f := .cls "Weights") rfl)
  mk_Weights := He.mkr_ok (c.t.d.fact 24 (f := .mkr "Weights") rfl)
  n_Weights_weight_by := He.noat_ok (c.t.d.fact 25 (f := .noat "Weights" "weight_by") rfl)
  n_Weights_pairs := He.noat_ok (c.t.d.fact 26 (f := .noat "Weights" "pairs") rfl)
  n_Weights_signs := He.noat_ok (c.t.d.fact 27 (f := .noat "Weights" "signs") rfl)
  g_Rule := He.glo_ok X G (c.t.d.fact 28 (f := .glo "Rule") rfl)
  cl_Rule := He.cls_ok (c.t.d.fact 29 (f := .cls "Rule") rfl)
  mk_Rule := He.mkr_ok (c.t.d.fact 30 (f := .mkr "Rule") rfl)
  n_Rule_old := He.noat_ok (c.t.d.fact 31 (f := .noat "Rule" "old") rfl)
  n_Rule_new := He.noat_ok (c.t.d.fact 32 (f := .noat "Rule" "new") rfl)
  n_Rule_left := He.noat_ok (c.t.d.fact 33 (f := .noat "Rule" "left") rfl)
  n_Rule_right := He.noat_ok (c.t.d.fact 34 (f := .noat "Rule" "right") rfl)
  g_Book := He.glo_ok X G (c.t.d.fact 35 (f := .glo "Book") rfl)
  cl_Book := He.cls_ok (c.t.d.fact 36 (f := .cls "Book") rfl)
  mk_Book := He.mkr_ok (c.t.d.fact 37 (f := .mkr "Book") rfl)
  n_Book_weights := He.noat_ok (c.t.d.fact 38 (f := .noat "Book" "weights") rfl)
  n_Book_rules := He.noat_ok (c.t.d.fact 39 (f := .noat "Book" "rules") rfl)
  g_GameError := He.glo_ok X G (c.t.d.fact 40 (f := .glo "GameError") rfl)
  g_BadInput := He.glo_ok X G (c.t.d.fact 41 (f := .glo "BadInput") rfl)
  g_NoAnswer := He.glo_ok X G (c.t.d.fact 42 (f := .glo "NoAnswer") rfl)
  g_BadSigns := He.glo_ok X G (c.t.d.fact 43 (f := .glo "BadSigns") rfl)
  g_BadRow := He.glo_ok X G (c.t.d.fact 44 (f := .glo "BadRow") rfl)
  g_BadRule := He.glo_ok X G (c.t.d.fact 45 (f := .glo "BadRule") rfl)
  g_BadBook := He.glo_ok X G (c.t.d.fact 46 (f := .glo "BadBook") rfl)
  g_Heavier := He.glo_ok X G (c.t.d.fact 47 (f := .glo "Heavier") rfl)
  g_Unlessened := He.glo_ok X G (c.t.d.fact 48 (f := .glo "Unlessened") rfl)
  g_BadMove := He.glo_ok X G (c.t.d.fact 49 (f := .glo "BadMove") rfl)
  g_BadMachine := He.glo_ok X G (c.t.d.fact 50 (f := .glo "BadMachine") rfl)
  g_BadGame := He.glo_ok X G (c.t.d.fact 51 (f := .glo "BadGame") rfl)
  g_BadSeat := He.glo_ok X G (c.t.d.fact 52 (f := .glo "BadSeat") rfl)
  g_OtherSigns := He.glo_ok X G (c.t.d.fact 53 (f := .glo "OtherSigns") rfl)
  g_BadNumber := He.glo_ok X G (c.t.d.fact 54 (f := .glo "BadNumber") rfl)
  g_BadText := He.glo_ok X G (c.t.d.fact 55 (f := .glo "BadText") rfl)
  g_BadLine := He.glo_ok X G (c.t.d.fact 56 (f := .glo "BadLine") rfl)
  g_TooMany := He.glo_ok X G (c.t.d.fact 57 (f := .glo "TooMany") rfl)
  g_NoMove := He.glo_ok X G (c.t.d.fact 58 (f := .glo "NoMove") rfl)
  g_NotWon := He.glo_ok X G (c.t.d.fact 59 (f := .glo "NotWon") rfl)
  g_NotRight := He.glo_ok X G (c.t.d.fact 60 (f := .glo "NotRight") rfl)
  g_NotKept := He.glo_ok X G (c.t.d.fact 61 (f := .glo "NotKept") rfl)
  g_NotThere := He.glo_ok X G (c.t.d.fact 62 (f := .glo "NotThere") rfl)
  g_NothingPlayed := He.glo_ok X G (c.t.d.fact 63 (f := .glo "NothingPlayed") rfl)
  g_draw := He.glo_ok X G (c.t.d.fact 64 (f := .glo "_law_draw") rfl)
  d_draw := c.t.d.def_ 0 (d := hd_draw) rfl
  g_pen := He.glo_ok X G (c.t.d.fact 65 (f := .glo "_law_pen") rfl)
  d_pen := c.t.d.def_ 1 (d := hd_pen) rfl
  g_pick := He.glo_ok X G (c.t.d.fact 66 (f := .glo "_law_pick") rfl)
  d_pick := c.t.d.def_ 2 (d := hd_pick) rfl
  g_isInt := He.glo_ok X G (c.t.d.fact 67 (f := .glo "is_integer") rfl)
  d_isInt := c.t.d.def_ 3 (d := hd_isInt) rfl
  g_isLetter := He.glo_ok X G (c.t.d.fact 68 (f := .glo "is_letter") rfl)
  d_isLetter := c.t.d.def_ 4 (d := hd_isLetter) rfl
  g_isRow := He.glo_ok X G (c.t.d.fact 69 (f := .glo "is_row") rfl)
  d_isRow := c.t.d.def_ 5 (d := hd_isRow) rfl
  g_needRow := He.glo_ok X G (c.t.d.fact 70 (f := .glo "need_row") rfl)
  d_needRow := c.t.d.def_ 6 (d := hd_needRow) rfl
  g_weightOf := He.glo_ok X G (c.t.d.fact 71 (f := .glo "weight_of") rfl)
  d_weightOf := c.t.d.def_ 7 (d := hd_weightOf) rfl
  g_isStretch := He.glo_ok X G (c.t.d.fact 72 (f := .glo "is_stretch") rfl)
  d_isStretch := c.t.d.def_ 8 (d := hd_isStretch) rfl
  d_winit := c.t.d.def_ 9 (d := hd_winit) rfl
  m_wlen := He.meth_ok (c.t.d.fact 73 (f := .meth "Weights" "__len__") rfl)
  d_wlen := c.t.d.def_ 10 (d := hd_wlen) rfl
  m_wget := He.meth_ok (c.t.d.fact 74 (f := .meth "Weights" "__getitem__") rfl)
  d_wget := c.t.d.def_ 11 (d := hd_wget) rfl
  m_weq := He.meth_ok (c.t.d.fact 75 (f := .meth "Weights" "__eq__") rfl)
  d_weq := c.t.d.def_ 12 (d := hd_weq) rfl
  m_wcall := He.meth_ok (c.t.d.fact 76 (f := .meth "Weights" "__call__") rfl)
  d_wcall := c.t.d.def_ 13 (d := hd_wcall) rfl
  d_rinit := c.t.d.def_ 14 (d := hd_rinit) rfl
  m_req := He.meth_ok (c.t.d.fact 77 (f := .meth "Rule" "__eq__") rfl)
  d_req := c.t.d.def_ 15 (d := hd_req) rfl
  g_lighter := He.glo_ok X G (c.t.d.fact 78 (f := .glo "need_lighter") rfl)
  d_lighter := c.t.d.def_ 16 (d := hd_lighter) rfl
  d_binit := c.t.d.def_ 17 (d := hd_binit) rfl
  m_blen := He.meth_ok (c.t.d.fact 79 (f := .meth "Book" "__len__") rfl)
  d_blen := c.t.d.def_ 18 (d := hd_blen) rfl
  m_bget := He.meth_ok (c.t.d.fact 80 (f := .meth "Book" "__getitem__") rfl)
  d_bget := c.t.d.def_ 19 (d := hd_bget) rfl
  g_value := He.glo_ok X G (c.t.d.fact 81 (f := .glo "_law_value") rfl)
  d_value := c.t.d.def_ 20 (d := hd_value) rfl
  g_inputs := He.glo_ok X G (c.t.d.fact 82 (f := .glo "_law_inputs") rfl)
  d_inputs := c.t.d.def_ 21 (d := hd_inputs) rfl
  g_field := He.glo_ok X G (c.t.d.fact 83 (f := .glo "_law_field") rfl)
  d_field := c.t.d.def_ 22 (d := hd_field) rfl
  g_group := He.glo_ok X G (c.t.d.fact 84 (f := .glo "_law_group") rfl)
  d_group := c.t.d.def_ 23 (d := hd_group) rfl
  g_kinds := He.glo_ok X G (c.t.d.fact 85 (f := .glo "_law_kinds") rfl)
  d_kinds := c.t.d.def_ 24 (d := hd_kinds) rfl
  g_named := He.glo_ok X G (c.t.d.fact 86 (f := .glo "_law_named_right") rfl)
  d_named := c.t.d.def_ 25 (d := hd_named) rfl
  g_heavier := He.glo_ok X G (c.t.d.fact 87 (f := .glo "_law_heavier") rfl)
  d_heavier := c.t.d.def_ 26 (d := hd_heavier) rfl
  g_law := He.glo_ok X G (c.t.d.fact 88 (f := .glo "law") rfl)
  d_law := c.t.d.def_ 27 (d := hd_law) rfl
  d_xBadSigns := c.t.d.def_ 28 (d := hd_xBadSigns) rfl
  d_xBadRow := c.t.d.def_ 29 (d := hd_xBadRow) rfl
  d_xBadRule := c.t.d.def_ 30 (d := hd_xBadRule) rfl
  d_xBadBook := c.t.d.def_ 31 (d := hd_xBadBook) rfl
  d_xHeavier := c.t.d.def_ 32 (d := hd_xHeavier) rfl
  d_xUnlessened := c.t.d.def_ 33 (d := hd_xUnlessened) rfl
  d_xBadMove := c.t.d.def_ 34 (d := hd_xBadMove) rfl
  d_xBadMachine := c.t.d.def_ 35 (d := hd_xBadMachine) rfl
  d_xBadGame := c.t.d.def_ 36 (d := hd_xBadGame) rfl
  d_xBadSeat := c.t.d.def_ 37 (d := hd_xBadSeat) rfl
  d_xOtherSigns := c.t.d.def_ 38 (d := hd_xOtherSigns) rfl
  d_xBadNumber := c.t.d.def_ 39 (d := hd_xBadNumber) rfl
  d_xBadText := c.t.d.def_ 40 (d := hd_xBadText) rfl
  d_xBadLine := c.t.d.def_ 41 (d := hd_xBadLine) rfl
  d_xTooMany := c.t.d.def_ 42 (d := hd_xTooMany) rfl
  d_xNoMove := c.t.d.def_ 43 (d := hd_xNoMove) rfl
  d_xNotWon := c.t.d.def_ 44 (d := hd_xNotWon) rfl
  d_xNotRight := c.t.d.def_ 45 (d := hd_xNotRight) rfl
  d_xNotKept := c.t.d.def_ 46 (d := hd_xNotKept) rfl
  d_xNotThere := c.t.d.def_ 47 (d := hd_xNotThere) rfl
  getIn_Weights := (Bool.and_eq_true_iff.mp c.more).1
  getIn_Book := (Bool.and_eq_true_iff.mp (Bool.and_eq_true_iff.mp c.more).2).1
  sysB := (Bool.and_eq_true_iff.mp (Bool.and_eq_true_iff.mp (Bool.and_eq_true_iff.mp c.more).2).2).1
  clO_Weights := (Bool.and_eq_true_iff.mp (Bool.and_eq_true_iff.mp (Bool.and_eq_true_iff.mp (Bool.and_eq_true_iff.mp c.more).2).2).2).1
  xV := (Bool.and_eq_true_iff.mp (Bool.and_eq_true_iff.mp (Bool.and_eq_true_iff.mp (Bool.and_eq_true_iff.mp (Bool.and_eq_true_iff.mp c.more).2).2).2).2).1
  cnB := (Bool.and_eq_true_iff.mp (Bool.and_eq_true_iff.mp (Bool.and_eq_true_iff.mp (Bool.and_eq_true_iff.mp (Bool.and_eq_true_iff.mp (Bool.and_eq_true_iff.mp c.more).2).2).2).2).2).1
  ctB := (Bool.and_eq_true_iff.mp (Bool.and_eq_true_iff.mp (Bool.and_eq_true_iff.mp (Bool.and_eq_true_iff.mp (Bool.and_eq_true_iff.mp (Bool.and_eq_true_iff.mp (Bool.and_eq_true_iff.mp c.more).2).2).2).2).2).2).1
  xq_NothingPlayed := (Bool.and_eq_true_iff.mp (Bool.and_eq_true_iff.mp (Bool.and_eq_true_iff.mp (Bool.and_eq_true_iff.mp (Bool.and_eq_true_iff.mp (Bool.and_eq_true_iff.mp (Bool.and_eq_true_iff.mp (Bool.and_eq_true_iff.mp c.more).2).2).2).2).2).2).2).1
  xk_NothingPlayed := (Bool.and_eq_true_iff.mp (Bool.and_eq_true_iff.mp (Bool.and_eq_true_iff.mp (Bool.and_eq_true_iff.mp (Bool.and_eq_true_iff.mp (Bool.and_eq_true_iff.mp (Bool.and_eq_true_iff.mp (Bool.and_eq_true_iff.mp (Bool.and_eq_true_iff.mp c.more).2).2).2).2).2).2).2).2).1
  xq_GameError := (Bool.and_eq_true_iff.mp (Bool.and_eq_true_iff.mp (Bool.and_eq_true_iff.mp (Bool.and_eq_true_iff.mp (Bool.and_eq_true_iff.mp (Bool.and_eq_true_iff.mp (Bool.and_eq_true_iff.mp (Bool.and_eq_true_iff.mp (Bool.and_eq_true_iff.mp (Bool.and_eq_true_iff.mp c.more).2).2).2).2).2).2).2).2).2).1
  xk_GameError := (Bool.and_eq_true_iff.mp (Bool.and_eq_true_iff.mp (Bool.and_eq_true_iff.mp (Bool.and_eq_true_iff.mp (Bool.and_eq_true_iff.mp (Bool.and_eq_true_iff.mp (Bool.and_eq_true_iff.mp (Bool.and_eq_true_iff.mp (Bool.and_eq_true_iff.mp (Bool.and_eq_true_iff.mp (Bool.and_eq_true_iff.mp c.more).2).2).2).2).2).2).2).2).2).2).1
  ob_Weights := (Bool.and_eq_true_iff.mp (Bool.and_eq_true_iff.mp (Bool.and_eq_true_iff.mp (Bool.and_eq_true_iff.mp (Bool.and_eq_true_iff.mp (Bool.and_eq_true_iff.mp (Bool.and_eq_true_iff.mp (Bool.and_eq_true_iff.mp (Bool.and_eq_true_iff.mp (Bool.and_eq_true_iff.mp (Bool.and_eq_true_iff.mp (Bool.and_eq_true_iff.mp c.more).2).2).2).2).2).2).2).2).2).2).2).1
  ca_Weights := (Bool.and_eq_true_iff.mp (Bool.and_eq_true_iff.mp (Bool.and_eq_true_iff.mp (Bool.and_eq_true_iff.mp (Bool.and_eq_true_iff.mp (Bool.and_eq_true_iff.mp (Bool.and_eq_true_iff.mp (Bool.and_eq_true_iff.mp (Bool.and_eq_true_iff.mp (Bool.and_eq_true_iff.mp (Bool.and_eq_true_iff.mp (Bool.and_eq_true_iff.mp (Bool.and_eq_true_iff.mp c.more).2).2).2).2).2).2).2).2).2).2).2).2).1
  ki_Weights := (Bool.and_eq_true_iff.mp (Bool.and_eq_true_iff.mp (Bool.and_eq_true_iff.mp (Bool.and_eq_true_iff.mp (Bool.and_eq_true_iff.mp (Bool.and_eq_true_iff.mp (Bool.and_eq_true_iff.mp (Bool.and_eq_true_iff.mp (Bool.and_eq_true_iff.mp (Bool.and_eq_true_iff.mp (Bool.and_eq_true_iff.mp (Bool.and_eq_true_iff.mp (Bool.and_eq_true_iff.mp (Bool.and_eq_true_iff.mp c.more).2).2).2).2).2).2).2).2).2).2).2).2).2).1
  kn_Weights := (Bool.and_eq_true_iff.mp (Bool.and_eq_true_iff.mp (Bool.and_eq_true_iff.mp (Bool.and_eq_true_iff.mp (Bool.and_eq_true_iff.mp (Bool.and_eq_true_iff.mp (Bool.and_eq_true_iff.mp (Bool.and_eq_true_iff.mp (Bool.and_eq_true_iff.mp (Bool.and_eq_true_iff.mp (Bool.and_eq_true_iff.mp (Bool.and_eq_true_iff.mp (Bool.and_eq_true_iff.mp (Bool.and_eq_true_iff.mp (Bool.and_eq_true_iff.mp c.more).2).2).2).2).2).2).2).2).2).2).2).2).2).2).1
  nf_Weights := (Bool.and_eq_true_iff.mp (Bool.and_eq_true_iff.mp (Bool.and_eq_true_iff.mp (Bool.and_eq_true_iff.mp (Bool.and_eq_true_iff.mp (Bool.and_eq_true_iff.mp (Bool.and_eq_true_iff.mp (Bool.and_eq_true_iff.mp (Bool.and_eq_true_iff.mp (Bool.and_eq_true_iff.mp (Bool.and_eq_true_iff.mp (Bool.and_eq_true_iff.mp (Bool.and_eq_true_iff.mp (Bool.and_eq_true_iff.mp (Bool.and_eq_true_iff.mp (Bool.and_eq_true_iff.mp c.more).2).2).2).2).2).2).2).2).2).2).2).2).2).2).2).1
  nn_Weights := (Bool.and_eq_true_iff.mp (Bool.and_eq_true_iff.mp (Bool.and_eq_true_iff.mp (Bool.and_eq_true_iff.mp (Bool.and_eq_true_iff.mp (Bool.and_eq_true_iff.mp (Bool.and_eq_true_iff.mp (Bool.and_eq_true_iff.mp (Bool.and_eq_true_iff.mp (Bool.and_eq_true_iff.mp (Bool.and_eq_true_iff.mp (Bool.and_eq_true_iff.mp (Bool.and_eq_true_iff.mp (Bool.and_eq_true_iff.mp (Bool.and_eq_true_iff.mp (Bool.and_eq_true_iff.mp (Bool.and_eq_true_iff.mp c.more).2).2).2).2).2).2).2).2).2).2).2).2).2).2).2).2).1
  ob_Rule := (Bool.and_eq_true_iff.mp (Bool.and_eq_true_iff.mp (Bool.and_eq_true_iff.mp (Bool.and_eq_true_iff.mp (Bool.and_eq_true_iff.mp (Bool.and_eq_true_iff.mp (Bool.and_eq_true_iff.mp (Bool.and_eq_true_iff.mp (Bool.and_eq_true_iff.mp (Bool.and_eq_true_iff.mp (Bool.and_eq_true_iff.mp (Bool.and_eq_true_iff.mp (Bool.and_eq_true_iff.mp (Bool.and_eq_true_iff.mp (Bool.and_eq_true_iff.mp (Bool.and_eq_true_iff.mp (Bool.and_eq_true_iff.mp (Bool.and_eq_true_iff.mp c.more).2).2).2).2).2).2).2).2).2).2).2).2).2).2).2).2).2).1
  ca_Rule := (Bool.and_eq_true_iff.mp (Bool.and_eq_true_iff.mp (Bool.and_eq_true_iff.mp (Bool.and_eq_true_iff.mp (Bool.and_eq_true_iff.mp (Bool.and_eq_true_iff.mp (Bool.and_eq_true_iff.mp (Bool.and_eq_true_iff.mp (Bool.and_eq_true_iff.mp (Bool.and_eq_true_iff.mp (Bool.and_eq_true_iff.mp (Bool.and_eq_true_iff.mp (Bool.and_eq_true_iff.mp (Bool.and_eq_true_iff.mp (Bool.and_eq_true_iff.mp (Bool.and_eq_true_iff.mp (Bool.and_eq_true_iff.mp (Bool.and_eq_true_iff.mp (Bool.and_eq_true_iff.mp c.more).2).2).2).2).2).2).2).2).2).2).2).2).2).2).2).2).2).2).1
  ki_Rule := (Bool.and_eq_true_iff.mp (Bool.and_eq_true_iff.mp (Bool.and_eq_true_iff.mp (Bool.and_eq_true_iff.mp (Bool.and_eq_true_iff.mp (Bool.and_eq_true_iff.mp (Bool.and_eq_true_iff.mp (Bool.and_eq_true_iff.mp (Bool.and_eq_true_iff.mp (Bool.and_eq_true_iff.mp (Bool.and_eq_true_iff.mp (Bool.and_eq_true_iff.mp (Bool.and_eq_true_iff.mp (Bool.and_eq_true_iff.mp (Bool.and_eq_true_iff.mp (Bool.and_eq_true_iff.mp (Bool.and_eq_true_iff.mp (Bool.and_eq_true_iff.mp (Bool.and_eq_true_iff.mp (Bool.and_eq_true_iff.mp c.more).2).2).2).2).2).2).2).2).2).2).2).2).2).2).2).2).2).2).2).1
  kn_Rule := (Bool.and_eq_true_iff.mp (Bool.and_eq_true_iff.mp (Bool.and_eq_true_iff.mp (Bool.and_eq_true_iff.mp (Bool.and_eq_true_iff.mp (Bool.and_eq_true_iff.mp (Bool.and_eq_true_iff.mp (Bool.and_eq_true_iff.mp (Bool.and_eq_true_iff.mp (Bool.and_eq_true_iff.mp (Bool.and_eq_true_iff.mp (Bool.and_eq_true_iff.mp (Bool.and_eq_true_iff.mp (Bool.and_eq_true_iff.mp (Bool.and_eq_true_iff.mp (Bool.and_eq_true_iff.mp (Bool.and_eq_true_iff.mp (Bool.and_eq_true_iff.mp (Bool.and_eq_true_iff.mp (Bool.and_eq_true_iff.mp (Bool.and_eq_true_iff.mp c.more).2).2).2).2).2).2).2).2).2).2).2).2).2).2).2).2).2).2).2).2).1
  nf_Rule := (Bool.and_eq_true_iff.mp (Bool.and_eq_true_iff.mp (Bool.and_eq_true_iff.mp (Bool.and_eq_true_iff.mp (Bool.and_eq_true_iff.mp (Bool.and_eq_true_iff.mp (Bool.and_eq_true_iff.mp (Bool.and_eq_true_iff.mp (Bool.and_eq_true_iff.mp (Bool.and_eq_true_iff.mp (Bool.and_eq_true_iff.mp (Bool.and_eq_true_iff.mp (Bool.and_eq_true_iff.mp (Bool.and_eq_true_iff.mp (Bool.and_eq_true_iff.mp (Bool.and_eq_true_iff.mp (Bool.and_eq_true_iff.mp (Bool.and_eq_true_iff.mp (Bool.and_eq_true_iff.mp (Bool.and_eq_true_iff.mp (Bool.and_eq_true_iff.mp (Bool.and_eq_true_iff.mp c.more).2).2).2).2).2).2).2).2).2).2).2).2).2).2).2).2).2).2).2).2).2).1
  nn_Rule := (Bool.and_eq_true_iff.mp (Bool.and_eq_true_iff.mp (Bool.and_eq_true_iff.mp (Bool.and_eq_true_iff.mp (Bool.and_eq_true_iff.mp (Bool.and_eq_true_iff.mp (Bool.and_eq_true_iff.mp (Bool.and_eq_true_iff.mp (Bool.and_eq_true_iff.mp (Bool.and_eq_true_iff.mp (Bool.and_eq_true_iff.mp (Bool.and_eq_true_iff.mp (Bool.and_eq_true_iff.mp (Bool.and_eq_true_iff.mp (Bool.and_eq_true_iff.mp (Bool.and_eq_true_iff.mp (Bool.and_eq_true_iff.mp (Bool.and_eq_true_iff.mp (Bool.and_eq_true_iff.mp (Bool.and_eq_true_iff.mp (Bool.and_eq_true_iff.mp (Bool.and_eq_true_iff.mp (Bool.and_eq_true_iff.mp c.more).2).2).2).2).2).2).2).2).2).2).2).2).2).2).2).2).2).2).2).2).2).2).1
  ob_Book := (Bool.and_eq_true_iff.mp (Bool.and_eq_true_iff.mp (Bool.and_eq_true_iff.mp (Bool.and_eq_true_iff.mp (Bool.and_eq_true_iff.mp (Bool.and_eq_true_iff.mp (Bool.and_eq_true_iff.mp (Bool.and_eq_true_iff.mp (Bool.and_eq_true_iff.mp (Bool.and_eq_true_iff.mp (Bool.and_eq_true_iff.mp (Bool.and_eq_true_iff.mp (Bool.and_eq_true_iff.mp (Bool.and_eq_true_iff.mp (Bool.and_eq_true_iff.mp (Bool.and_eq_true_iff.mp (Bool.and_eq_true_iff.mp (Bool.and_eq_true_iff.mp (Bool.and_eq_true_iff.mp (Bool.and_eq_true_iff.mp (Bool.and_eq_true_iff.mp (Bool.and_eq_true_iff.mp (Bool.and_eq_true_iff.mp (Bool.and_eq_true_iff.mp c.more).2).2).2).2).2).2).2).2).2).2).2).2).2).2).2).2).2).2).2).2).2).2).2).1
  ca_Book := (Bool.and_eq_true_iff.mp (Bool.and_eq_true_iff.mp (Bool.and_eq_true_iff.mp (Bool.and_eq_true_iff.mp (Bool.and_eq_true_iff.mp (Bool.and_eq_true_iff.mp (Bool.and_eq_true_iff.mp (Bool.and_eq_true_iff.mp (Bool.and_eq_true_iff.mp (Bool.and_eq_true_iff.mp (Bool.and_eq_true_iff.mp (Bool.and_eq_true_iff.mp (Bool.and_eq_true_iff.mp (Bool.and_eq_true_iff.mp (Bool.and_eq_true_iff.mp (Bool.and_eq_true_iff.mp (Bool.and_eq_true_iff.mp (Bool.and_eq_true_iff.mp (Bool.and_eq_true_iff.mp (Bool.and_eq_true_iff.mp (Bool.and_eq_true_iff.mp (Bool.and_eq_true_iff.mp (Bool.and_eq_true_iff.mp (Bool.and_eq_true_iff.mp (Bool.and_eq_true_iff.mp c.more).2).2).2).2).2).2).2).2).2).2).2).2).2).2).2).2).2).2).2).2).2).2).2).2).1
  ki_Book := (Bool.and_eq_true_iff.mp (Bool.and_eq_true_iff.mp (Bool.and_eq_true_iff.mp (Bool.and_eq_true_iff.mp (Bool.and_eq_true_iff.mp (Bool.and_eq_true_iff.mp (Bool.and_eq_true_iff.mp (Bool.and_eq_true_iff.mp (Bool.and_eq_true_iff.mp (Bool.and_eq_true_iff.mp (Bool.and_eq_true_iff.mp (Bool.and_eq_true_iff.mp (Bool.and_eq_true_iff.mp (Bool.and_eq_true_iff.mp (Bool.and_eq_true_iff.mp (Bool.and_eq_true_iff.mp (Bool.and_eq_true_iff.mp (Bool.and_eq_true_iff.mp (Bool.and_eq_true_iff.mp (Bool.and_eq_true_iff.mp (Bool.and_eq_true_iff.mp (Bool.and_eq_true_iff.mp (Bool.and_eq_true_iff.mp (Bool.and_eq_true_iff.mp (Bool.and_eq_true_iff.mp (Bool.and_eq_true_iff.mp c.more).2).2).2).2).2).2).2).2).2).2).2).2).2).2).2).2).2).2).2).2).2).2).2).2).2).1
  kn_Book := (Bool.and_eq_true_iff.mp (Bool.and_eq_true_iff.mp (Bool.and_eq_true_iff.mp (Bool.and_eq_true_iff.mp (Bool.and_eq_true_iff.mp (Bool.and_eq_true_iff.mp (Bool.and_eq_true_iff.mp (Bool.and_eq_true_iff.mp (Bool.and_eq_true_iff.mp (Bool.and_eq_true_iff.mp (Bool.and_eq_true_iff.mp (Bool.and_eq_true_iff.mp (Bool.and_eq_true_iff.mp (Bool.and_eq_true_iff.mp (Bool.and_eq_true_iff.mp (Bool.and_eq_true_iff.mp (Bool.and_eq_true_iff.mp (Bool.and_eq_true_iff.mp (Bool.and_eq_true_iff.mp (Bool.and_eq_true_iff.mp (Bool.and_eq_true_iff.mp (Bool.and_eq_true_iff.mp (Bool.and_eq_true_iff.mp (Bool.and_eq_true_iff.mp (Bool.and_eq_true_iff.mp (Bool.and_eq_true_iff.mp (Bool.and_eq_true_iff.mp c.more).2).2).2).2).2).2).2).2).2).2).2).2).2).2).2).2).2).2).2).2).2).2).2).2).2).2).1
  nf_Book := (Bool.and_eq_true_iff.mp (Bool.and_eq_true_iff.mp (Bool.and_eq_true_iff.mp (Bool.and_eq_true_iff.mp (Bool.and_eq_true_iff.mp (Bool.and_eq_true_iff.mp (Bool.and_eq_true_iff.mp (Bool.and_eq_true_iff.mp (Bool.and_eq_true_iff.mp (Bool.and_eq_true_iff.mp (Bool.and_eq_true_iff.mp (Bool.and_eq_true_iff.mp (Bool.and_eq_true_iff.mp (Bool.and_eq_true_iff.mp (Bool.and_eq_true_iff.mp (Bool.and_eq_true_iff.mp (Bool.and_eq_true_iff.mp (Bool.and_eq_true_iff.mp (Bool.and_eq_true_iff.mp (Bool.and_eq_true_iff.mp (Bool.and_eq_true_iff.mp (Bool.and_eq_true_iff.mp (Bool.and_eq_true_iff.mp (Bool.and_eq_true_iff.mp (Bool.and_eq_true_iff.mp (Bool.and_eq_true_iff.mp (Bool.and_eq_true_iff.mp (Bool.and_eq_true_iff.mp c.more).2).2).2).2).2).2).2).2).2).2).2).2).2).2).2).2).2).2).2).2).2).2).2).2).2).2).2).1
  nn_Book := (Bool.and_eq_true_iff.mp (Bool.and_eq_true_iff.mp (Bool.and_eq_true_iff.mp (Bool.and_eq_true_iff.mp (Bool.and_eq_true_iff.mp (Bool.and_eq_true_iff.mp (Bool.and_eq_true_iff.mp (Bool.and_eq_true_iff.mp (Bool.and_eq_true_iff.mp (Bool.and_eq_true_iff.mp (Bool.and_eq_true_iff.mp (Bool.and_eq_true_iff.mp (Bool.and_eq_true_iff.mp (Bool.and_eq_true_iff.mp (Bool.and_eq_true_iff.mp (Bool.and_eq_true_iff.mp (Bool.and_eq_true_iff.mp (Bool.and_eq_true_iff.mp (Bool.and_eq_true_iff.mp (Bool.and_eq_true_iff.mp (Bool.and_eq_true_iff.mp (Bool.and_eq_true_iff.mp (Bool.and_eq_true_iff.mp (Bool.and_eq_true_iff.mp (Bool.and_eq_true_iff.mp (Bool.and_eq_true_iff.mp (Bool.and_eq_true_iff.mp (Bool.and_eq_true_iff.mp (Bool.and_eq_true_iff.mp c.more).2).2).2).2).2).2).2).2).2).2).2).2).2).2).2).2).2).2).2).2).2).2).2).2).2).2).2).2).1
  xM := (Bool.and_eq_true_iff.mp (Bool.and_eq_true_iff.mp (Bool.and_eq_true_iff.mp (Bool.and_eq_true_iff.mp (Bool.and_eq_true_iff.mp (Bool.and_eq_true_iff.mp (Bool.and_eq_true_iff.mp (Bool.and_eq_true_iff.mp (Bool.and_eq_true_iff.mp (Bool.and_eq_true_iff.mp (Bool.and_eq_true_iff.mp (Bool.and_eq_true_iff.mp (Bool.and_eq_true_iff.mp (Bool.and_eq_true_iff.mp (Bool.and_eq_true_iff.mp (Bool.and_eq_true_iff.mp (Bool.and_eq_true_iff.mp (Bool.and_eq_true_iff.mp (Bool.and_eq_true_iff.mp (Bool.and_eq_true_iff.mp (Bool.and_eq_true_iff.mp (Bool.and_eq_true_iff.mp (Bool.and_eq_true_iff.mp (Bool.and_eq_true_iff.mp (Bool.and_eq_true_iff.mp (Bool.and_eq_true_iff.mp (Bool.and_eq_true_iff.mp (Bool.and_eq_true_iff.mp (Bool.and_eq_true_iff.mp (Bool.and_eq_true_iff.mp c.more).2).2).2).2).2).2).2).2).2).2).2).2).2).2).2).2).2).2).2).2).2).2).2).2).2).2).2).2).2).1
  xK := (Bool.and_eq_true_iff.mp (Bool.and_eq_true_iff.mp (Bool.and_eq_true_iff.mp (Bool.and_eq_true_iff.mp (Bool.and_eq_true_iff.mp (Bool.and_eq_true_iff.mp (Bool.and_eq_true_iff.mp (Bool.and_eq_true_iff.mp (Bool.and_eq_true_iff.mp (Bool.and_eq_true_iff.mp (Bool.and_eq_true_iff.mp (Bool.and_eq_true_iff.mp (Bool.and_eq_true_iff.mp (Bool.and_eq_true_iff.mp (Bool.and_eq_true_iff.mp (Bool.and_eq_true_iff.mp (Bool.and_eq_true_iff.mp (Bool.and_eq_true_iff.mp (Bool.and_eq_true_iff.mp (Bool.and_eq_true_iff.mp (Bool.and_eq_true_iff.mp (Bool.and_eq_true_iff.mp (Bool.and_eq_true_iff.mp (Bool.and_eq_true_iff.mp (Bool.and_eq_true_iff.mp (Bool.and_eq_true_iff.mp (Bool.and_eq_true_iff.mp (Bool.and_eq_true_iff.mp (Bool.and_eq_true_iff.mp (Bool.and_eq_true_iff.mp (Bool.and_eq_true_iff.mp c.more).2).2).2).2).2).2).2).2).2).2).2).2).2).2).2).2).2).2).2).2).2).2).2).2).2).2).2).2).2).2).1
  xE := (Bool.and_eq_true_iff.mp (Bool.and_eq_true_iff.mp (Bool.and_eq_true_iff.mp (Bool.and_eq_true_iff.mp (Bool.and_eq_true_iff.mp (Bool.and_eq_true_iff.mp (Bool.and_eq_true_iff.mp (Bool.and_eq_true_iff.mp (Bool.and_eq_true_iff.mp (Bool.and_eq_true_iff.mp (Bool.and_eq_true_iff.mp (Bool.and_eq_true_iff.mp (Bool.and_eq_true_iff.mp (Bool.and_eq_true_iff.mp (Bool.and_eq_true_iff.mp (Bool.and_eq_true_iff.mp (Bool.and_eq_true_iff.mp (Bool.and_eq_true_iff.mp (Bool.and_eq_true_iff.mp (Bool.and_eq_true_iff.mp (Bool.and_eq_true_iff.mp (Bool.and_eq_true_iff.mp (Bool.and_eq_true_iff.mp (Bool.and_eq_true_iff.mp (Bool.and_eq_true_iff.mp (Bool.and_eq_true_iff.mp (Bool.and_eq_true_iff.mp (Bool.and_eq_true_iff.mp (Bool.and_eq_true_iff.mp (Bool.and_eq_true_iff.mp (Bool.and_eq_true_iff.mp (Bool.and_eq_true_iff.mp c.more).2).2).2).2).2).2).2).2).2).2).2).2).2).2).2).2).2).2).2).2).2).2).2).2).2).2).2).2).2).2).2).1
  xo_BadSigns := (Bool.and_eq_true_iff.mp (Bool.and_eq_true_iff.mp (Bool.and_eq_true_iff.mp (Bool.and_eq_true_iff.mp (Bool.and_eq_true_iff.mp (Bool.and_eq_true_iff.mp (Bool.and_eq_true_iff.mp (Bool.and_eq_true_iff.mp (Bool.and_eq_true_iff.mp (Bool.and_eq_true_iff.mp (Bool.and_eq_true_iff.mp (Bool.and_eq_true_iff.mp (Bool.and_eq_true_iff.mp (Bool.and_eq_true_iff.mp (Bool.and_eq_true_iff.mp (Bool.and_eq_true_iff.mp (Bool.and_eq_true_iff.mp (Bool.and_eq_true_iff.mp (Bool.and_eq_true_iff.mp (Bool.and_eq_true_iff.mp (Bool.and_eq_true_iff.mp (Bool.and_eq_true_iff.mp (Bool.and_eq_true_iff.mp (Bool.and_eq_true_iff.mp (Bool.and_eq_true_iff.mp (Bool.and_eq_true_iff.mp (Bool.and_eq_true_iff.mp (Bool.and_eq_true_iff.mp (Bool.and_eq_true_iff.mp (Bool.and_eq_true_iff.mp (Bool.and_eq_true_iff.mp (Bool.and_eq_true_iff.mp (Bool.and_eq_true_iff.mp c.more).2).2).2).2).2).2).2).2).2).2).2).2).2).2).2).2).2).2).2).2).2).2).2).2).2).2).2).2).2).2).2).2).1
  xi_BadSigns := (Bool.and_eq_true_iff.mp (Bool.and_eq_true_iff.mp (Bool.and_eq_true_iff.mp (Bool.and_eq_true_iff.mp (Bool.and_eq_true_iff.mp (Bool.and_eq_true_iff.mp (Bool.and_eq_true_iff.mp (Bool.and_eq_true_iff.mp (Bool.and_eq_true_iff.mp (Bool.and_eq_true_iff.mp (Bool.and_eq_true_iff.mp (Bool.and_eq_true_iff.mp (Bool.and_eq_true_iff.mp (Bool.and_eq_true_iff.mp (Bool.and_eq_true_iff.mp (Bool.and_eq_true_iff.mp (Bool.and_eq_true_iff.mp (Bool.and_eq_true_iff.mp (Bool.and_eq_true_iff.mp (Bool.and_eq_true_iff.mp (Bool.and_eq_true_iff.mp (Bool.and_eq_true_iff.mp (Bool.and_eq_true_iff.mp (Bool.and_eq_true_iff.mp (Bool.and_eq_true_iff.mp (Bool.and_eq_true_iff.mp (Bool.and_eq_true_iff.mp (Bool.and_eq_true_iff.mp (Bool.and_eq_true_iff.mp (Bool.and_eq_true_iff.mp (Bool.and_eq_true_iff.mp (Bool.and_eq_true_iff.mp (Bool.and_eq_true_iff.mp (Bool.and_eq_true_iff.mp c.more).2).2).2).2).2).2).2).2).2).2).2).2).2).2).2).2).2).2).2).2).2).2).2).2).2).2).2).2).2).2).2).2).2).1
  xo_BadRow := (Bool.and_eq_true_iff.mp (Bool.and_eq_true_iff.mp (Bool.and_eq_true_iff.mp (Bool.and_eq_true_iff.mp (Bool.and_eq_true_iff.mp (Bool.and_eq_true_iff.mp (Bool.and_eq_true_iff.mp (Bool.and_eq_true_iff.mp (Bool.and_eq_true_iff.mp (Bool.and_eq_true_iff.mp (Bool.and_eq_true_iff.mp (Bool.and_eq_true_iff.mp (Bool.and_eq_true_iff.mp (Bool.and_eq_true_iff.mp (Bool.and_eq_true_iff.mp (Bool.and_eq_true_iff.mp (Bool.and_eq_true_iff.mp (Bool.and_eq_true_iff.mp (Bool.and_eq_true_iff.mp (Bool.and_eq_true_iff.mp (Bool.and_eq_true_iff.mp (Bool.and_eq_true_iff.mp (Bool.and_eq_true_iff.mp (Bool.and_eq_true_iff.mp (Bool.and_eq_true_iff.mp (Bool.and_eq_true_iff.mp (Bool.and_eq_true_iff.mp (Bool.and_eq_true_iff.mp (Bool.and_eq_true_iff.mp (Bool.and_eq_true_iff.mp (Bool.and_eq_true_iff.mp (Bool.and_eq_true_iff.mp (Bool.and_eq_true_iff.mp (Bool.and_eq_true_iff.mp (Bool.and_eq_true_iff.mp c.more).2).2).2).2).2).2).2).2).2).2).2).2).2).2).2).2).2).2).2).2).2).2).2).2).2).2).2).2).2).2).2).2).2).2).1
  xi_BadRow := (Bool.and_eq_true_iff.mp (Bool.and_eq_true_iff.mp (Bool.and_eq_true_iff.mp (Bool.and_eq_true_iff.mp (Bool.and_eq_true_iff.mp (Bool.and_eq_true_iff.mp (Bool.and_eq_true_iff.mp (Bool.and_eq_true_iff.mp (Bool.and_eq_true_iff.mp (Bool.and_eq_true_iff.mp (Bool.and_eq_true_iff.mp (Bool.and_eq_true_iff.mp (Bool.and_eq_true_iff.mp (Bool.and_eq_true_iff.mp (Bool.and_eq_true_iff.mp (Bool.and_eq_true_iff.mp (Bool.and_eq_true_iff.mp (Bool.and_eq_true_iff.mp (Bool.and_eq_true_iff.mp (Bool.and_eq_true_iff.mp (Bool.and_eq_true_iff.mp (Bool.and_eq_true_iff.mp (Bool.and_eq_true_iff.mp (Bool.and_eq_true_iff.mp (Bool.and_eq_true_iff.mp (Bool.and_eq_true_iff.mp (Bool.and_eq_true_iff.mp (Bool.and_eq_true_iff.mp (Bool.and_eq_true_iff.mp (Bool.and_eq_true_iff.mp (Bool.and_eq_true_iff.mp (Bool.and_eq_true_iff.mp (Bool.and_eq_true_iff.mp (Bool.and_eq_true_iff.mp (Bool.and_eq_true_iff.mp (Bool.and_eq_true_iff.mp c.more).2).2).2).2).2).2).2).2).2).2).2).2).2).2).2).2).2).2).2).2).2).2).2).2).2).2).2).2).2).2).2).2).2).2).2).1
  xo_BadRule := (Bool.and_eq_true_iff.mp (Bool.and_eq_true_iff.mp (Bool.and_eq_true_iff.mp (Bool.and_eq_true_iff.mp (Bool.and_eq_true_iff.mp (Bool.and_eq_true_iff.mp (Bool.and_eq_true_iff.mp (Bool.and_eq_true_iff.mp (Bool.and_eq_true_iff.mp (Bool.and_eq_true_iff.mp (Bool.and_eq_true_iff.mp (Bool.and_eq_true_iff.mp (Bool.and_eq_true_iff.mp (Bool.and_eq_true_iff.mp (Bool.and_eq_true_iff.mp (Bool.and_eq_true_iff.mp (Bool.and_eq_true_iff.mp (Bool.and_eq_true_iff.mp (Bool.and_eq_true_iff.mp (Bool.and_eq_true_iff.mp (Bool.and_eq_true_iff.mp (Bool.and_eq_true_iff.mp (Bool.and_eq_true_iff.mp (Bool.and_eq_true_iff.mp (Bool.and_eq_true_iff.mp (Bool.and_eq_true_iff.mp (Bool.and_eq_true_iff.mp (Bool.and_eq_true_iff.mp (Bool.and_eq_true_iff.mp (Bool.and_eq_true_iff.mp (Bool.and_eq_true_iff.mp (Bool.and_eq_true_iff.mp (Bool.and_eq_true_iff.mp (Bool.and_eq_true_iff.mp (Bool.and_eq_true_iff.mp (Bool.and_eq_true_iff.mp (Bool.and_eq_true_iff.mp c.more).2).2).2).2).2).2).2).2).2).2).2).2).2).2).2).2).2).2).2).2).2).2).2).2).2).2).2).2).2).2).2).2).2).2).2).2).1
  xi_BadRule := (Bool.and_eq_true_iff.mp (Bool.and_eq_true_iff.mp (Bool.and_eq_true_iff.mp (Bool.and_eq_true_iff.mp (Bool.and_eq_true_iff.mp (Bool.and_eq_true_iff.mp (Bool.and_eq_true_iff.mp (Bool.and_eq_true_iff.mp (Bool.and_eq_true_iff.mp (Bool.and_eq_true_iff.mp (Bool.and_eq_true_iff.mp (Bool.and_eq_true_iff.mp (Bool.and_eq_true_iff.mp (Bool.and_eq_true_iff.mp (Bool.and_eq_true_iff.mp (Bool.and_eq_true_iff.mp (Bool.and_eq_true_iff.mp (Bool.and_eq_true_iff.mp (Bool.and_eq_true_iff.mp (Bool.and_eq_true_iff.mp (Bool.and_eq_true_iff.mp (Bool.and_eq_true_iff.mp (Bool.and_eq_true_iff.mp (Bool.and_eq_true_iff.mp (Bool.and_eq_true_iff.mp (Bool.and_eq_true_iff.mp (Bool.and_eq_true_iff.mp (Bool.and_eq_true_iff.mp (Bool.and_eq_true_iff.mp (Bool.and_eq_true_iff.mp (Bool.and_eq_true_iff.mp (Bool.and_eq_true_iff.mp (Bool.and_eq_true_iff.mp (Bool.and_eq_true_iff.mp (Bool.and_eq_true_iff.mp (Bool.and_eq_true_iff.mp (Bool.and_eq_true_iff.mp (Bool.and_eq_true_iff.mp c.more).2).2).2).2).2).2).2).2).2).2).2).2).2).2).2).2).2).2).2).2).2).2).2).2).2).2).2).2).2).2).2).2).2).2).2).2).2).1
  xo_BadBook := (Bool.and_eq_true_iff.mp (Bool.and_eq_true_iff.mp (Bool.and_eq_true_iff.mp (Bool.and_eq_true_iff.mp (Bool.and_eq_true_iff.mp (Bool.and_eq_true_iff.mp (Bool.and_eq_true_iff.mp (Bool.and_eq_true_iff.mp (Bool.and_eq_true_iff.mp (Bool.and_eq_true_iff.mp (Bool.and_eq_true_iff.mp (Bool.and_eq_true_iff.mp (Bool.and_eq_true_iff.mp (Bool.and_eq_true_iff.mp (Bool.and_eq_true_iff.mp (Bool.and_eq_true_iff.mp (Bool.and_eq_true_iff.mp (Bool.and_eq_true_iff.mp (Bool.and_eq_true_iff.mp (Bool.and_eq_true_iff.mp (Bool.and_eq_true_iff.mp (Bool.and_eq_true_iff.mp (Bool.and_eq_true_iff.mp (Bool.and_eq_true_iff.mp (Bool.and_eq_true_iff.mp (Bool.and_eq_true_iff.mp (Bool.and_eq_true_iff.mp (Bool.and_eq_true_iff.mp (Bool.and_eq_true_iff.mp (Bool.and_eq_true_iff.mp (Bool.and_eq_true_iff.mp (Bool.and_eq_true_iff.mp (Bool.and_eq_true_iff.mp (Bool.and_eq_true_iff.mp (Bool.and_eq_true_iff.mp (Bool.and_eq_true_iff.mp (Bool.and_eq_true_iff.mp (Bool.and_eq_true_iff.mp (Bool.and_eq_true_iff.mp c.more).2).2).2).2).2).2).2).2).2).2).2).2).2).2).2).2).2).2).2).2).2).2).2).2).2).2).2).2).2).2).2).2).2).2).2).2).2).2).1
  xi_BadBook := (Bool.and_eq_true_iff.mp (Bool.and_eq_true_iff.mp (Bool.and_eq_true_iff.mp (Bool.and_eq_true_iff.mp (Bool.and_eq_true_iff.mp (Bool.and_eq_true_iff.mp (Bool.and_eq_true_iff.mp (Bool.and_eq_true_iff.mp (Bool.and_eq_true_iff.mp (Bool.and_eq_true_iff.mp (Bool.and_eq_true_iff.mp (Bool.and_eq_true_iff.mp (Bool.and_eq_true_iff.mp (Bool.and_eq_true_iff.mp (Bool.and_eq_true_iff.mp (Bool.and_eq_true_iff.mp (Bool.and_eq_true_iff.mp (Bool.and_eq_true_iff.mp (Bool.and_eq_true_iff.mp (Bool.and_eq_true_iff.mp (Bool.and_eq_true_iff.mp (Bool.and_eq_true_iff.mp (Bool.and_eq_true_iff.mp (Bool.and_eq_true_iff.mp (Bool.and_eq_true_iff.mp (Bool.and_eq_true_iff.mp (Bool.and_eq_true_iff.mp (Bool.and_eq_true_iff.mp (Bool.and_eq_true_iff.mp (Bool.and_eq_true_iff.mp (Bool.and_eq_true_iff.mp (Bool.and_eq_true_iff.mp (Bool.and_eq_true_iff.mp (Bool.and_eq_true_iff.mp (Bool.and_eq_true_iff.mp (Bool.and_eq_true_iff.mp (Bool.and_eq_true_iff.mp (Bool.and_eq_true_iff.mp (Bool.and_eq_true_iff.mp (Bool.and_eq_true_iff.mp c.more).2).2).2).2).2).2).2).2).2).2).2).2).2).2).2).2).2).2).2).2).2).2).2).2).2).2).2).2).2).2).2).2).2).2).2).2).2).2).2).1
  xo_Heavier := (Bool.and_eq_true_iff.mp (Bool.and_eq_true_iff.mp (Bool.and_eq_true_iff.mp (Bool.and_eq_true_iff.mp (Bool.and_eq_true_iff.mp (Bool.and_eq_true_iff.mp (Bool.and_eq_true_iff.mp (Bool.and_eq_true_iff.mp (Bool.and_eq_true_iff.mp (Bool.and_eq_true_iff.mp (Bool.and_eq_true_iff.mp (Bool.and_eq_true_iff.mp (Bool.and_eq_true_iff.mp (Bool.and_eq_true_iff.mp (Bool.and_eq_true_iff.mp (Bool.and_eq_true_iff.mp (Bool.and_eq_true_iff.mp (Bool.and_eq_true_iff.mp (Bool.and_eq_true_iff.mp (Bool.and_eq_true_iff.mp (Bool.and_eq_true_iff.mp (Bool.and_eq_true_iff.mp (Bool.and_eq_true_iff.mp (Bool.and_eq_true_iff.mp (Bool.and_eq_true_iff.mp (Bool.and_eq_true_iff.mp (Bool.and_eq_true_iff.mp (Bool.and_eq_true_iff.mp (Bool.and_eq_true_iff.mp (Bool.and_eq_true_iff.mp (Bool.and_eq_true_iff.mp (Bool.and_eq_true_iff.mp (Bool.and_eq_true_iff.mp (Bool.and_eq_true_iff.mp (Bool.and_eq_true_iff.mp (Bool.and_eq_true_iff.mp (Bool.and_eq_true_iff.mp (Bool.and_eq_true_iff.mp (Bool.and_eq_true_iff.mp (Bool.and_eq_true_iff.mp (Bool.and_eq_true_iff.mp c.more).2).2).2).2).2).2).2).2).2).2).2).2).2).2).2).2).2).2).2).2).2).2).2).2).2).2).2).2).2).2).2).2).2).2).2).2).2).2).2).2).1
  xi_Heavier := (Bool.and_eq_true_iff.mp (Bool.and_eq_true_iff.mp (Bool.and_eq_true_iff.mp (Bool.and_eq_true_iff.mp (Bool.and_eq_true_iff.mp (Bool.and_eq_true_iff.mp (Bool.and_eq_true_iff.mp (Bool.and_eq_true_iff.mp (Bool.and_eq_true_iff.mp (Bool.and_eq_true_iff.mp (Bool.and_eq_true_iff.mp (Bool.and_eq_true_iff.mp (Bool.and_eq_true_iff.mp (Bool.and_eq_true_iff.mp (Bool.and_eq_true_iff.mp (Bool.and_eq_true_iff.mp (Bool.and_eq_true_iff.mp (Bool.and_eq_true_iff.mp (Bool.and_eq_true_iff.mp (Bool.and_eq_true_iff.mp (Bool.and_eq_true_iff.mp (Bool.and_eq_true_iff.mp (Bool.and_eq_true_iff.mp (Bool.and_eq_true_iff.mp (Bool.and_eq_true_iff.mp (Bool.and_eq_true_iff.mp (Bool.and_eq_true_iff.mp (Bool.and_eq_true_iff.mp (Bool.and_eq_true_iff.mp (Bool.and_eq_true_iff.mp (Bool.and_eq_true_iff.mp (Bool.and_eq_true_iff.mp (Bool.and_eq_true_iff.mp (Bool.and_eq_true_iff.mp (Bool.and_eq_true_iff.mp (Bool.and_eq_true_iff.mp (Bool.and_eq_true_iff.mp (Bool.and_eq_true_iff.mp (Bool.and_eq_true_iff.mp (Bool.and_eq_true_iff.mp (Bool.and_eq_true_iff.mp (Bool.and_eq_true_iff.mp c.more).2).2).2).2).2).2).2).2).2).2).2).2).2).2).2).2).2).2).2).2).2).2).2).2).2).2).2).2).2).2).2).2).2).2).2).2).2).2).2).2).2).1
  xo_Unlessened := (Bool.and_eq_true_iff.mp (Bool.and_eq_true_iff.mp (Bool.and_eq_true_iff.mp (Bool.and_eq_true_iff.mp (Bool.and_eq_true_iff.mp (Bool.and_eq_true_iff.mp (Bool.and_eq_true_iff.mp (Bool.and_eq_true_iff.mp (Bool.and_eq_true_iff.mp (Bool.and_eq_true_iff.mp (Bool.and_eq_true_iff.mp (Bool.and_eq_true_iff.mp (Bool.and_eq_true_iff.mp (Bool.and_eq_true_iff.mp (Bool.and_eq_true_iff.mp (Bool.and_eq_true_iff.mp (Bool.and_eq_true_iff.mp (Bool.and_eq_true_iff.mp (Bool.and_eq_true_iff.mp (Bool.and_eq_true_iff.mp (Bool.and_eq_true_iff.mp (Bool.and_eq_true_iff.mp (Bool.and_eq_true_iff.mp (Bool.and_eq_true_iff.mp (Bool.and_eq_true_iff.mp (Bool.and_eq_true_iff.mp (Bool.and_eq_true_iff.mp (Bool.and_eq_true_iff.mp (Bool.and_eq_true_iff.mp (Bool.and_eq_true_iff.mp (Bool.and_eq_true_iff.mp (Bool.and_eq_true_iff.mp (Bool.and_eq_true_iff.mp (Bool.and_eq_true_iff.mp (Bool.and_eq_true_iff.mp (Bool.and_eq_true_iff.mp (Bool.and_eq_true_iff.mp (Bool.and_eq_true_iff.mp (Bool.and_eq_true_iff.mp (Bool.and_eq_true_iff.mp (Bool.and_eq_true_iff.mp (Bool.and_eq_true_iff.mp (Bool.and_eq_true_iff.mp c.more).2).2).2).2).2).2).2).2).2).2).2).2).2).2).2).2).2).2).2).2).2).2).2).2).2).2).2).2).2).2).2).2).2).2).2).2).2).2).2).2).2).2).1
  xi_Unlessened := (Bool.and_eq_true_iff.mp (Bool.and_eq_true_iff.mp (Bool.and_eq_true_iff.mp (Bool.and_eq_true_iff.mp (Bool.and_eq_true_iff.mp (Bool.and_eq_true_iff.mp (Bool.and_eq_true_iff.mp (Bool.and_eq_true_iff.mp (Bool.and_eq_true_iff.mp (Bool.and_eq_true_iff.mp (Bool.and_eq_true_iff.mp (Bool.and_eq_true_iff.mp (Bool.and_eq_true_iff.mp (Bool.and_eq_true_iff.mp (Bool.and_eq_true_iff.mp (Bool.and_eq_true_iff.mp (Bool.and_eq_true_iff.mp (Bool.and_eq_true_iff.mp (Bool.and_eq_true_iff.mp (Bool.and_eq_true_iff.mp (Bool.and_eq_true_iff.mp (Bool.and_eq_true_iff.mp (Bool.and_eq_true_iff.mp (Bool.and_eq_true_iff.mp (Bool.and_eq_true_iff.mp (Bool.and_eq_true_iff.mp (Bool.and_eq_true_iff.mp (Bool.and_eq_true_iff.mp (Bool.and_eq_true_iff.mp (Bool.and_eq_true_iff.mp (Bool.and_eq_true_iff.mp (Bool.and_eq_true_iff.mp (Bool.and_eq_true_iff.mp (Bool.and_eq_true_iff.mp (Bool.and_eq_true_iff.mp (Bool.and_eq_true_iff.mp (Bool.and_eq_true_iff.mp (Bool.and_eq_true_iff.mp (Bool.and_eq_true_iff.mp (Bool.and_eq_true_iff.mp (Bool.and_eq_true_iff.mp (Bool.and_eq_true_iff.mp (Bool.and_eq_true_iff.mp (Bool.and_eq_true_iff.mp c.more).2).2).2).2).2).2).2).2).2).2).2).2).2).2).2).2).2).2).2).2).2).2).2).2).2).2).2).2).2).2).2).2).2).2).2).2).2).2).2).2).2).2).2).1
  xo_BadMove := (Bool.and_eq_true_iff.mp (Bool.and_eq_true_iff.mp (Bool.and_eq_true_iff.mp (Bool.and_eq_true_iff.mp (Bool.and_eq_true_iff.mp (Bool.and_eq_true_iff.mp (Bool.and_eq_true_iff.mp (Bool.and_eq_true_iff.mp (Bool.and_eq_true_iff.mp (Bool.and_eq_true_iff.mp (Bool.and_eq_true_iff.mp (Bool.and_eq_true_iff.mp (Bool.and_eq_true_iff.mp (Bool.and_eq_true_iff.mp (Bool.and_eq_true_iff.mp (Bool.and_eq_true_iff.mp (Bool.and_eq_true_iff.mp (Bool.and_eq_true_iff.mp (Bool.and_eq_true_iff.mp (Bool.and_eq_true_iff.mp (Bool.and_eq_true_iff.mp (Bool.and_eq_true_iff.mp (Bool.and_eq_true_iff.mp (Bool.and_eq_true_iff.mp (Bool.and_eq_true_iff.mp (Bool.and_eq_true_iff.mp (Bool.and_eq_true_iff.mp (Bool.and_eq_true_iff.mp (Bool.and_eq_true_iff.mp (Bool.and_eq_true_iff.mp (Bool.and_eq_true_iff.mp (Bool.and_eq_true_iff.mp (Bool.and_eq_true_iff.mp (Bool.and_eq_true_iff.mp (Bool.and_eq_true_iff.mp (Bool.and_eq_true_iff.mp (Bool.and_eq_true_iff.mp (Bool.and_eq_true_iff.mp (Bool.and_eq_true_iff.mp (Bool.and_eq_true_iff.mp (Bool.and_eq_true_iff.mp (Bool.and_eq_true_iff.mp (Bool.and_eq_true_iff.mp (Bool.and_eq_true_iff.mp (Bool.and_eq_true_iff.mp c.more).2).2).2).2).2).2).2).2).2).2).2).2).2).2).2).2).2).2).2).2).2).2).2).2).2).2).2).2).2).2).2).2).2).2).2).2).2).2).2).2).2).2).2).2).1
  xi_BadMove := (Bool.and_eq_true_iff.mp (Bool.and_eq_true_iff.mp (Bool.and_eq_true_iff.mp (Bool.and_eq_true_iff.mp (Bool.and_eq_true_iff.mp (Bool.and_eq_true_iff.mp (Bool.and_eq_true_iff.mp (Bool.and_eq_true_iff.mp (Bool.and_eq_true_iff.mp (Bool.and_eq_true_iff.mp (Bool.and_eq_true_iff.mp (Bool.and_eq_true_iff.mp (Bool.and_eq_true_iff.mp (Bool.and_eq_true_iff.mp (Bool.and_eq_true_iff.mp (Bool.and_eq_true_iff.mp (Bool.and_eq_true_iff.mp (Bool.and_eq_true_iff.mp (Bool.and_eq_true_iff.mp (Bool.and_eq_true_iff.mp (Bool.and_eq_true_iff.mp (Bool.and_eq_true_iff.mp (Bool.and_eq_true_iff.mp (Bool.and_eq_true_iff.mp (Bool.and_eq_true_iff.mp (Bool.and_eq_true_iff.mp (Bool.and_eq_true_iff.mp (Bool.and_eq_true_iff.mp (Bool.and_eq_true_iff.mp (Bool.and_eq_true_iff.mp (Bool.and_eq_true_iff.mp (Bool.and_eq_true_iff.mp (Bool.and_eq_true_iff.mp (Bool.and_eq_true_iff.mp (Bool.and_eq_true_iff.mp (Bool.and_eq_true_iff.mp (Bool.and_eq_true_iff.mp (Bool.and_eq_true_iff.mp (Bool.and_eq_true_iff.mp (Bool.and_eq_true_iff.mp (Bool.and_eq_true_iff.mp (Bool.and_eq_true_iff.mp (Bool.and_eq_true_iff.mp (Bool.and_eq_true_iff.mp (Bool.and_eq_true_iff.mp (Bool.and_eq_true_iff.mp c.more).2).2).2).2).2).2).2).2).2).2).2).2).2).2).2).2).2).2).2).2).2).2).2).2).2).2).2).2).2).2).2).2).2).2).2).2).2).2).2).2).2).2).2).2).2).1
  xo_BadMachine := (Bool.and_eq_true_iff.mp (Bool.and_eq_true_iff.mp (Bool.and_eq_true_iff.mp (Bool.and_eq_true_iff.mp (Bool.and_eq_true_iff.mp (Bool.and_eq_true_iff.mp (Bool.and_eq_true_iff.mp (Bool.and_eq_true_iff.mp (Bool.and_eq_true_iff.mp (Bool.and_eq_true_iff.mp (Bool.and_eq_true_iff.mp (Bool.and_eq_true_iff.mp (Bool.and_eq_true_iff.mp (Bool.and_eq_true_iff.mp (Bool.and_eq_true_iff.mp (Bool.and_eq_true_iff.mp (Bool.and_eq_true_iff.mp (Bool.and_eq_true_iff.mp (Bool.and_eq_true_iff.mp (Bool.and_eq_true_iff.mp (Bool.and_eq_true_iff.mp (Bool.and_eq_true_iff.mp (Bool.and_eq_true_iff.mp (Bool.and_eq_true_iff.mp (Bool.and_eq_true_iff.mp (Bool.and_eq_true_iff.mp (Bool.and_eq_true_iff.mp (Bool.and_eq_true_iff.mp (Bool.and_eq_true_iff.mp (Bool.and_eq_true_iff.mp (Bool.and_eq_true_iff.mp (Bool.and_eq_true_iff.mp (Bool.and_eq_true_iff.mp (Bool.and_eq_true_iff.mp (Bool.and_eq_true_iff.mp (Bool.and_eq_true_iff.mp (Bool.and_eq_true_iff.mp (Bool.and_eq_true_iff.mp (Bool.and_eq_true_iff.mp (Bool.and_eq_true_iff.mp (Bool.and_eq_true_iff.mp (Bool.and_eq_true_iff.mp (Bool.and_eq_true_iff.mp (Bool.and_eq_true_iff.mp (Bool.and_eq_true_iff.mp (Bool.and_eq_true_iff.mp (Bool.and_eq_true_iff.mp c.more).2).2).2).2).2).2).2).2).2).2).2).2).2).2).2).2).2).2).2).2).2).2).2).2).2).2).2).2).2).2).2).2).2).2).2).2).2).2).2).2).2).2).2).2).2).2).1
  xi_BadMachine := (Bool.and_eq_true_iff.mp (Bool.and_eq_true_iff.mp (Bool.and_eq_true_iff.mp (Bool.and_eq_true_iff.mp (Bool.and_eq_true_iff.mp (Bool.and_eq_true_iff.mp (Bool.and_eq_true_iff.mp (Bool.and_eq_true_iff.mp (Bool.and_eq_true_iff.mp (Bool.and_eq_true_iff.mp (Bool.and_eq_true_iff.mp (Bool.and_eq_true_iff.mp (Bool.and_eq_true_iff.mp (Bool.and_eq_true_iff.mp (Bool.and_eq_true_iff.mp (Bool.and_eq_true_iff.mp (Bool.and_eq_true_iff.mp (Bool.and_eq_true_iff.mp (Bool.and_eq_true_iff.mp (Bool.and_eq_true_iff.mp (Bool.and_eq_true_iff.mp (Bool.and_eq_true_iff.mp (Bool.and_eq_true_iff.mp (Bool.and_eq_true_iff.mp (Bool.and_eq_true_iff.mp (Bool.and_eq_true_iff.mp (Bool.and_eq_true_iff.mp (Bool.and_eq_true_iff.mp (Bool.and_eq_true_iff.mp (Bool.and_eq_true_iff.mp (Bool.and_eq_true_iff.mp (Bool.and_eq_true_iff.mp (Bool.and_eq_true_iff.mp (Bool.and_eq_true_iff.mp (Bool.and_eq_true_iff.mp (Bool.and_eq_true_iff.mp (Bool.and_eq_true_iff.mp (Bool.and_eq_true_iff.mp (Bool.and_eq_true_iff.mp (Bool.and_eq_true_iff.mp (Bool.and_eq_true_iff.mp (Bool.and_eq_true_iff.mp (Bool.and_eq_true_iff.mp (Bool.and_eq_true_iff.mp (Bool.and_eq_true_iff.mp (Bool.and_eq_true_iff.mp (Bool.and_eq_true_iff.mp (Bool.and_eq_true_iff.mp c.more).2).2).2).2).2).2).2).2).2).2).2).2).2).2).2).2).2).2).2).2).2).2).2).2).2).2).2).2).2).2).2).2).2).2).2).2).2).2).2).2).2).2).2).2).2).2).2).1
  xo_BadGame := (Bool.and_eq_true_iff.mp (Bool.and_eq_true_iff.mp (Bool.and_eq_true_iff.mp (Bool.and_eq_true_iff.mp (Bool.and_eq_true_iff.mp (Bool.and_eq_true_iff.mp (Bool.and_eq_true_iff.mp (Bool.and_eq_true_iff.mp (Bool.and_eq_true_iff.mp (Bool.and_eq_true_iff.mp (Bool.and_eq_true_iff.mp (Bool.and_eq_true_iff.mp (Bool.and_eq_true_iff.mp (Bool.and_eq_true_iff.mp (Bool.and_eq_true_iff.mp (Bool.and_eq_true_iff.mp (Bool.and_eq_true_iff.mp (Bool.and_eq_true_iff.mp (Bool.and_eq_true_iff.mp (Bool.and_eq_true_iff.mp (Bool.and_eq_true_iff.mp (Bool.and_eq_true_iff.mp (Bool.and_eq_true_iff.mp (Bool.and_eq_true_iff.mp (Bool.and_eq_true_iff.mp (Bool.and_eq_true_iff.mp (Bool.and_eq_true_iff.mp (Bool.and_eq_true_iff.mp (Bool.and_eq_true_iff.mp (Bool.and_eq_true_iff.mp (Bool.and_eq_true_iff.mp (Bool.and_eq_true_iff.mp (Bool.and_eq_true_iff.mp (Bool.and_eq_true_iff.mp (Bool.and_eq_true_iff.mp (Bool.and_eq_true_iff.mp (Bool.and_eq_true_iff.mp (Bool.and_eq_true_iff.mp (Bool.and_eq_true_iff.mp (Bool.and_eq_true_iff.mp (Bool.and_eq_true_iff.mp (Bool.and_eq_true_iff.mp (Bool.and_eq_true_iff.mp (Bool.and_eq_true_iff.mp (Bool.and_eq_true_iff.mp (Bool.and_eq_true_iff.mp (Bool.and_eq_true_iff.mp (Bool.and_eq_true_iff.mp (Bool.and_eq_true_iff.mp c.more).2).2).2).2).2).2).2).2).2).2).2).2).2).2).2).2).2).2).2).2).2).2).2).2).2).2).2).2).2).2).2).2).2).2).2).2).2).2).2).2).2).2).2).2).2).2).2).2).1
  xi_BadGame := (Bool.and_eq_true_iff.mp (Bool.and_eq_true_iff.mp (Bool.and_eq_true_iff.mp (Bool.and_eq_true_iff.mp (Bool.and_eq_true_iff.mp (Bool.and_eq_true_iff.mp (Bool.and_eq_true_iff.mp (Bool.and_eq_true_iff.mp (Bool.and_eq_true_iff.mp (Bool.and_eq_true_iff.mp (Bool.and_eq_true_iff.mp (Bool.and_eq_true_iff.mp (Bool.and_eq_true_iff.mp (Bool.and_eq_true_iff.mp (Bool.and_eq_true_iff.mp (Bool.and_eq_true_iff.mp (Bool.and_eq_true_iff.mp (Bool.and_eq_true_iff.mp (Bool.and_eq_true_iff.mp (Bool.and_eq_true_iff.mp (Bool.and_eq_true_iff.mp (Bool.and_eq_true_iff.mp (Bool.and_eq_true_iff.mp (Bool.and_eq_true_iff.mp (Bool.and_eq_true_iff.mp (Bool.and_eq_true_iff.mp (Bool.and_eq_true_iff.mp (Bool.and_eq_true_iff.mp (Bool.and_eq_true_iff.mp (Bool.and_eq_true_iff.mp (Bool.and_eq_true_iff.mp (Bool.and_eq_true_iff.mp (Bool.and_eq_true_iff.mp (Bool.and_eq_true_iff.mp (Bool.and_eq_true_iff.mp (Bool.and_eq_true_iff.mp (Bool.and_eq_true_iff.mp (Bool.and_eq_true_iff.mp (Bool.and_eq_true_iff.mp (Bool.and_eq_true_iff.mp (Bool.and_eq_true_iff.mp (Bool.and_eq_true_iff.mp (Bool.and_eq_true_iff.mp (Bool.and_eq_true_iff.mp (Bool.and_eq_true_iff.mp (Bool.and_eq_true_iff.mp (Bool.and_eq_true_iff.mp (Bool.and_eq_true_iff.mp (Bool.and_eq_true_iff.mp (Bool.and_eq_true_iff.mp c.more).2).2).2).2).2).2).2).2).2).2).2).2).2).2).2).2).2).2).2).2).2).2).2).2).2).2).2).2).2).2).2).2).2).2).2).2).2).2).2).2).2).2).2).2).2).2).2).2).2).1
  xo_BadSeat := (Bool.and_eq_true_iff.mp (Bool.and_eq_true_iff.mp (Bool.and_eq_true_iff.mp (Bool.and_eq_true_iff.mp (Bool.and_eq_true_iff.mp (Bool.and_eq_true_iff.mp (Bool.and_eq_true_iff.mp (Bool.and_eq_true_iff.mp (Bool.and_eq_true_iff.mp (Bool.and_eq_true_iff.mp (Bool.and_eq_true_iff.mp (Bool.and_eq_true_iff.mp (Bool.and_eq_true_iff.mp (Bool.and_eq_true_iff.mp (Bool.and_eq_true_iff.mp (Bool.and_eq_true_iff.mp (Bool.and_eq_true_iff.mp (Bool.and_eq_true_iff.mp (Bool.and_eq_true_iff.mp (Bool.and_eq_true_iff.mp (Bool.and_eq_true_iff.mp (Bool.and_eq_true_iff.mp (Bool.and_eq_true_iff.mp (Bool.and_eq_true_iff.mp (Bool.and_eq_true_iff.mp (Bool.and_eq_true_iff.mp (Bool.and_eq_true_iff.mp (Bool.and_eq_true_iff.mp (Bool.and_eq_true_iff.mp (Bool.and_eq_true_iff.mp (Bool.and_eq_true_iff.mp (Bool.and_eq_true_iff.mp (Bool.and_eq_true_iff.mp (Bool.and_eq_true_iff.mp (Bool.and_eq_true_iff.mp (Bool.and_eq_true_iff.mp (Bool.and_eq_true_iff.mp (Bool.and_eq_true_iff.mp (Bool.and_eq_true_iff.mp (Bool.and_eq_true_iff.mp (Bool.and_eq_true_iff.mp (Bool.and_eq_true_iff.mp (Bool.and_eq_true_iff.mp (Bool.and_eq_true_iff.mp (Bool.and_eq_true_iff.mp (Bool.and_eq_true_iff.mp (Bool.and_eq_true_iff.mp (Bool.and_eq_true_iff.mp (Bool.and_eq_true_iff.mp (Bool.and_eq_true_iff.mp (Bool.and_eq_true_iff.mp c.more).2).2).2).2).2).2).2).2).2).2).2).2).2).2).2).2).2).2).2).2).2).2).2).2).2).2).2).2).2).2).2).2).2).2).2).2).2).2).2).2).2).2).2).2).2).2).2).2).2).2).1
  xi_BadSeat := (Bool.and_eq_true_iff.mp (Bool.and_eq_true_iff.mp (Bool.and_eq_true_iff.mp (Bool.and_eq_true_iff.mp (Bool.and_eq_true_iff.mp (Bool.and_eq_true_iff.mp (Bool.and_eq_true_iff.mp (Bool.and_eq_true_iff.mp (Bool.and_eq_true_iff.mp (Bool.and_eq_true_iff.mp (Bool.and_eq_true_iff.mp (Bool.and_eq_true_iff.mp (Bool.and_eq_true_iff.mp (Bool.and_eq_true_iff.mp (Bool.and_eq_true_iff.mp (Bool.and_eq_true_iff.mp (Bool.and_eq_true_iff.mp (Bool.and_eq_true_iff.mp (Bool.and_eq_true_iff.mp (Bool.and_eq_true_iff.mp (Bool.and_eq_true_iff.mp (Bool.and_eq_true_iff.mp (Bool.and_eq_true_iff.mp (Bool.and_eq_true_iff.mp (Bool.and_eq_true_iff.mp (Bool.and_eq_true_iff.mp (Bool.and_eq_true_iff.mp (Bool.and_eq_true_iff.mp (Bool.and_eq_true_iff.mp (Bool.and_eq_true_iff.mp (Bool.and_eq_true_iff.mp (Bool.and_eq_true_iff.mp (Bool.and_eq_true_iff.mp (Bool.and_eq_true_iff.mp (Bool.and_eq_true_iff.mp (Bool.and_eq_true_iff.mp (Bool.and_eq_true_iff.mp (Bool.and_eq_true_iff.mp (Bool.and_eq_true_iff.mp (Bool.and_eq_true_iff.mp (Bool.and_eq_true_iff.mp (Bool.and_eq_true_iff.mp (Bool.and_eq_true_iff.mp (Bool.and_eq_true_iff.mp (Bool.and_eq_true_iff.mp (Bool.and_eq_true_iff.mp (Bool.and_eq_true_iff.mp (Bool.and_eq_true_iff.mp (Bool.and_eq_true_iff.mp (Bool.and_eq_true_iff.mp (Bool.and_eq_true_iff.mp (Bool.and_eq_true_iff.mp c.more).2).2).2).2).2).2).2).2).2).2).2).2).2).2).2).2).2).2).2).2).2).2).2).2).2).2).2).2).2).2).2).2).2).2).2).2).2).2).2).2).2).2).2).2).2).2).2).2).2).2).2).1
  xo_OtherSigns := (Bool.and_eq_true_iff.mp (Bool.and_eq_true_iff.mp (Bool.and_eq_true_iff.mp (Bool.and_eq_true_iff.mp (Bool.and_eq_true_iff.mp (Bool.and_eq_true_iff.mp (Bool.and_eq_true_iff.mp (Bool.and_eq_true_iff.mp (Bool.and_eq_true_iff.mp (Bool.and_eq_true_iff.mp (Bool.and_eq_true_iff.mp (Bool.and_eq_true_iff.mp (Bool.and_eq_true_iff.mp (Bool.and_eq_true_iff.mp (Bool.and_eq_true_iff.mp (Bool.and_eq_true_iff.mp (Bool.and_eq_true_iff.mp (Bool.and_eq_true_iff.mp (Bool.and_eq_true_iff.mp (Bool.and_eq_true_iff.mp (Bool.and_eq_true_iff.mp (Bool.and_eq_true_iff.mp (Bool.and_eq_true_iff.mp (Bool.and_eq_true_iff.mp (Bool.and_eq_true_iff.mp (Bool.and_eq_true_iff.mp (Bool.and_eq_true_iff.mp (Bool.and_eq_true_iff.mp (Bool.and_eq_true_iff.mp (Bool.and_eq_true_iff.mp (Bool.and_eq_true_iff.mp (Bool.and_eq_true_iff.mp (Bool.and_eq_true_iff.mp (Bool.and_eq_true_iff.mp (Bool.and_eq_true_iff.mp (Bool.and_eq_true_iff.mp (Bool.and_eq_true_iff.mp (Bool.and_eq_true_iff.mp (Bool.and_eq_true_iff.mp (Bool.and_eq_true_iff.mp (Bool.and_eq_true_iff.mp (Bool.and_eq_true_iff.mp (Bool.and_eq_true_iff.mp (Bool.and_eq_true_iff.mp (Bool.and_eq_true_iff.mp (Bool.and_eq_true_iff.mp (Bool.and_eq_true_iff.mp (Bool.and_eq_true_iff.mp (Bool.and_eq_true_iff.mp (Bool.and_eq_true_iff.mp (Bool.and_eq_true_iff.mp (Bool.and_eq_true_iff.mp (Bool.and_eq_true_iff.mp c.more).2).2).2).2).2).2).2).2).2).2).2).2).2).2).2).2).2).2).2).2).2).2).2).2).2).2).2).2).2).2).2).2).2).2).2).2).2).2).2).2).2).2).2).2).2).2).2).2).2).2).2).2).1
  xi_OtherSigns := (Bool.and_eq_true_iff.mp (Bool.and_eq_true_iff.mp (Bool.and_eq_true_iff.mp (Bool.and_eq_true_iff.mp (Bool.and_eq_true_iff.mp (Bool.and_eq_true_iff.mp (Bool.and_eq_true_iff.mp (Bool.and_eq_true_iff.mp (Bool.and_eq_true_iff.mp (Bool.and_eq_true_iff.mp (Bool.and_eq_true_iff.mp (Bool.and_eq_true_iff.mp (Bool.and_eq_true_iff.mp (Bool.and_eq_true_iff.mp (Bool.and_eq_true_iff.mp (Bool.and_eq_true_iff.mp (Bool.and_eq_true_iff.mp (Bool.and_eq_true_iff.mp (Bool.and_eq_true_iff.mp (Bool.and_eq_true_iff.mp (Bool.and_eq_true_iff.mp (Bool.and_eq_true_iff.mp (Bool.and_eq_true_iff.mp (Bool.and_eq_true_iff.mp (Bool.and_eq_true_iff.mp (Bool.and_eq_true_iff.mp (Bool.and_eq_true_iff.mp (Bool.and_eq_true_iff.mp (Bool.and_eq_true_iff.mp (Bool.and_eq_true_iff.mp (Bool.and_eq_true_iff.mp (Bool.and_eq_true_iff.mp (Bool.and_eq_true_iff.mp (Bool.and_eq_true_iff.mp (Bool.and_eq_true_iff.mp (Bool.and_eq_true_iff.mp (Bool.and_eq_true_iff.mp (Bool.and_eq_true_iff.mp (Bool.and_eq_true_iff.mp (Bool.and_eq_true_iff.mp (Bool.and_eq_true_iff.mp (Bool.and_eq_true_iff.mp (Bool.and_eq_true_iff.mp (Bool.and_eq_true_iff.mp (Bool.and_eq_true_iff.mp (Bool.and_eq_true_iff.mp (Bool.and_eq_true_iff.mp (Bool.and_eq_true_iff.mp (Bool.and_eq_true_iff.mp (Bool.and_eq_true_iff.mp (Bool.and_eq_true_iff.mp (Bool.and_eq_true_iff.mp (Bool.and_eq_true_iff.mp (Bool.and_eq_true_iff.mp c.more).2).2).2).2).2).2).2).2).2).2).2).2).2).2).2).2).2).2).2).2).2).2).2).2).2).2).2).2).2).2).2).2).2).2).2).2).2).2).2).2).2).2).2).2).2).2).2).2).2).2).2).2).2).1
  xo_BadNumber := (Bool.and_eq_true_iff.mp (Bool.and_eq_true_iff.mp (Bool.and_eq_true_iff.mp (Bool.and_eq_true_iff.mp (Bool.and_eq_true_iff.mp (Bool.and_eq_true_iff.mp (Bool.and_eq_true_iff.mp (Bool.and_eq_true_iff.mp (Bool.and_eq_true_iff.mp (Bool.and_eq_true_iff.mp (Bool.and_eq_true_iff.mp (Bool.and_eq_true_iff.mp (Bool.and_eq_true_iff.mp (Bool.and_eq_true_iff.mp (Bool.and_eq_true_iff.mp (Bool.and_eq_true_iff.mp (Bool.and_eq_true_iff.mp (Bool.and_eq_true_iff.mp (Bool.and_eq_true_iff.mp (Bool.and_eq_true_iff.mp (Bool.and_eq_true_iff.mp (Bool.and_eq_true_iff.mp (Bool.and_eq_true_iff.mp (Bool.and_eq_true_iff.mp (Bool.and_eq_true_iff.mp (Bool.and_eq_true_iff.mp (Bool.and_eq_true_iff.mp (Bool.and_eq_true_iff.mp (Bool.and_eq_true_iff.mp (Bool.and_eq_true_iff.mp (Bool.and_eq_true_iff.mp (Bool.and_eq_true_iff.mp (Bool.and_eq_true_iff.mp (Bool.and_eq_true_iff.mp (Bool.and_eq_true_iff.mp (Bool.and_eq_true_iff.mp (Bool.and_eq_true_iff.mp (Bool.and_eq_true_iff.mp (Bool.and_eq_true_iff.mp (Bool.and_eq_true_iff.mp (Bool.and_eq_true_iff.mp (Bool.and_eq_true_iff.mp (Bool.and_eq_true_iff.mp (Bool.and_eq_true_iff.mp (Bool.and_eq_true_iff.mp (Bool.and_eq_true_iff.mp (Bool.and_eq_true_iff.mp (Bool.and_eq_true_iff.mp (Bool.and_eq_true_iff.mp (Bool.and_eq_true_iff.mp (Bool.and_eq_true_iff.mp (Bool.and_eq_true_iff.mp (Bool.and_eq_true_iff.mp (Bool.and_eq_true_iff.mp (Bool.and_eq_true_iff.mp c.more).2).2).2).2).2).2).2).2).2).2).2).2).2).2).2).2).2).2).2).2).2).2).2).2).2).2).2).2).2).2).2).2).2).2).2).2).2).2).2).2).2).2).2).2).2).2).2).2).2).2).2).2).2).2).1
  xi_BadNumber := (Bool.and_eq_true_iff.mp (Bool.and_eq_true_iff.mp (Bool.and_eq_true_iff.mp (Bool.and_eq_true_iff.mp (Bool.and_eq_true_iff.mp (Bool.and_eq_true_iff.mp (Bool.and_eq_true_iff.mp (Bool.and_eq_true_iff.mp (Bool.and_eq_true_iff.mp (Bool.and_eq_true_iff.mp (Bool.and_eq_true_iff.mp (Bool.and_eq_true_iff.mp (Bool.and_eq_true_iff.mp (Bool.and_eq_true_iff.mp (Bool.and_eq_true_iff.mp (Bool.and_eq_true_iff.mp (Bool.and_eq_true_iff.mp (Bool.and_eq_true_iff.mp (Bool.and_eq_true_iff.mp (Bool.and_eq_true_iff.mp (Bool.and_eq_true_iff.mp (Bool.and_eq_true_iff.mp (Bool.and_eq_true_iff.mp (Bool.and_eq_true_iff.mp (Bool.and_eq_true_iff.mp (Bool.and_eq_true_iff.mp (Bool.and_eq_true_iff.mp (Bool.and_eq_true_iff.mp (Bool.and_eq_true_iff.mp (Bool.and_eq_true_iff.mp (Bool.and_eq_true_iff.mp (Bool.and_eq_true_iff.mp (Bool.and_eq_true_iff.mp (Bool.and_eq_true_iff.mp (Bool.and_eq_true_iff.mp (Bool.and_eq_true_iff.mp (Bool.and_eq_true_iff.mp (Bool.and_eq_true_iff.mp (Bool.and_eq_true_iff.mp (Bool.and_eq_true_iff.mp (Bool.and_eq_true_iff.mp (Bool.and_eq_true_iff.mp (Bool.and_eq_true_iff.mp (Bool.and_eq_true_iff.mp (Bool.and_eq_true_iff.mp (Bool.and_eq_true_iff.mp (Bool.and_eq_true_iff.mp (Bool.and_eq_true_iff.mp (Bool.and_eq_true_iff.mp (Bool.and_eq_true_iff.mp (Bool.and_eq_true_iff.mp (Bool.and_eq_true_iff.mp (Bool.and_eq_true_iff.mp (Bool.and_eq_true_iff.mp (Bool.and_eq_true_iff.mp (Bool.and_eq_true_iff.mp c.more).2).2).2).2).2).2).2).2).2).2).2).2).2).2).2).2).2).2).2).2).2).2).2).2).2).2).2).2).2).2).2).2).2).2).2).2).2).2).2).2).2).2).2).2).2).2).2).2).2).2).2).2).2).2).2).1
  xo_BadText := (Bool.and_eq_true_iff.mp (Bool.and_eq_true_iff.mp (Bool.and_eq_true_iff.mp (Bool.and_eq_true_iff.mp (Bool.and_eq_true_iff.mp (Bool.and_eq_true_iff.mp (Bool.and_eq_true_iff.mp (Bool.and_eq_true_iff.mp (Bool.and_eq_true_iff.mp (Bool.and_eq_true_iff.mp (Bool.and_eq_true_iff.mp (Bool.and_eq_true_iff.mp (Bool.and_eq_true_iff.mp (Bool.and_eq_true_iff.mp (Bool.and_eq_true_iff.mp (Bool.and_eq_true_iff.mp (Bool.and_eq_true_iff.mp (Bool.and_eq_true_iff.mp (Bool.and_eq_true_iff.mp (Bool.and_eq_true_iff.mp (Bool.and_eq_true_iff.mp (Bool.and_eq_true_iff.mp (Bool.and_eq_true_iff.mp (Bool.and_eq_true_iff.mp (Bool.and_eq_true_iff.mp (Bool.and_eq_true_iff.mp (Bool.and_eq_true_iff.mp (Bool.and_eq_true_iff.mp (Bool.and_eq_true_iff.mp (Bool.and_eq_true_iff.mp (Bool.and_eq_true_iff.mp (Bool.and_eq_true_iff.mp (Bool.and_eq_true_iff.mp (Bool.and_eq_true_iff.mp (Bool.and_eq_true_iff.mp (Bool.and_eq_true_iff.mp (Bool.and_eq_true_iff.mp (Bool.and_eq_true_iff.mp (Bool.and_eq_true_iff.mp (Bool.and_eq_true_iff.mp (Bool.and_eq_true_iff.mp (Bool.and_eq_true_iff.mp (Bool.and_eq_true_iff.mp (Bool.and_eq_true_iff.mp (Bool.and_eq_true_iff.mp (Bool.and_eq_true_iff.mp (Bool.and_eq_true_iff.mp (Bool.and_eq_true_iff.mp (Bool.and_eq_true_iff.mp (Bool.and_eq_true_iff.mp (Bool.and_eq_true_iff.mp (Bool.and_eq_true_iff.mp (Bool.and_eq_true_iff.mp (Bool.and_eq_true_iff.mp (Bool.and_eq_true_iff.mp (Bool.and_eq_true_iff.mp (Bool.and_eq_true_iff.mp c.more).2).2).2).2).2).2).2).2).2).2).2).2).2).2).2).2).2).2).2).2).2).2).2).2).2).2).2).2).2).2).2).2).2).2).2).2).2).2).2).2).2).2).2).2).2).2).2).2).2).2).2).2).2).2).2).2).1
  xi_BadText := (Bool.and_eq_true_iff.mp (Bool.and_eq_true_iff.mp (Bool.and_eq_true_iff.mp (Bool.and_eq_true_iff.mp (Bool.and_eq_true_iff.mp (Bool.and_eq_true_iff.mp (Bool.and_eq_true_iff.mp (Bool.and_eq_true_iff.mp (Bool.and_eq_true_iff.mp (Bool.and_eq_true_iff.mp (Bool.and_eq_true_iff.mp (Bool.and_eq_true_iff.mp (Bool.and_eq_true_iff.mp (Bool.and_eq_true_iff.mp (Bool.and_eq_true_iff.mp (Bool.and_eq_true_iff.mp (Bool.and_eq_true_iff.mp (Bool.and_eq_true_iff.mp (Bool.and_eq_true_iff.mp (Bool.and_eq_true_iff.mp (Bool.and_eq_true_iff.mp (Bool.and_eq_true_iff.mp (Bool.and_eq_true_iff.mp (Bool.and_eq_true_iff.mp (Bool.and_eq_true_iff.mp (Bool.and_eq_true_iff.mp (Bool.and_eq_true_iff.mp (Bool.and_eq_true_iff.mp (Bool.and_eq_true_iff.mp (Bool.and_eq_true_iff.mp (Bool.and_eq_true_iff.mp (Bool.and_eq_true_iff.mp (Bool.and_eq_true_iff.mp (Bool.and_eq_true_iff.mp (Bool.and_eq_true_iff.mp (Bool.and_eq_true_iff.mp (Bool.and_eq_true_iff.mp (Bool.and_eq_true_iff.mp (Bool.and_eq_true_iff.mp (Bool.and_eq_true_iff.mp (Bool.and_eq_true_iff.mp (Bool.and_eq_true_iff.mp (Bool.and_eq_true_iff.mp (Bool.and_eq_true_iff.mp (Bool.and_eq_true_iff.mp (Bool.and_eq_true_iff.mp (Bool.and_eq_true_iff.mp (Bool.and_eq_true_iff.mp (Bool.and_eq_true_iff.mp (Bool.and_eq_true_iff.mp (Bool.and_eq_true_iff.mp (Bool.and_eq_true_iff.mp (Bool.and_eq_true_iff.mp (Bool.and_eq_true_iff.mp (Bool.and_eq_true_iff.mp (Bool.and_eq_true_iff.mp (Bool.and_eq_true_iff.mp (Bool.and_eq_true_iff.mp c.more).2).2).2).2).2).2).2).2).2).2).2).2).2).2).2).2).2).2).2).2).2).2).2).2).2).2).2).2).2).2).2).2).2).2).2).2).2).2).2).2).2).2).2).2).2).2).2).2).2).2).2).2).2).2).2).2).2).1
  xo_BadLine := (Bool.and_eq_true_iff.mp (Bool.and_eq_true_iff.mp (Bool.and_eq_true_iff.mp (Bool.and_eq_true_iff.mp (Bool.and_eq_true_iff.mp (Bool.and_eq_true_iff.mp (Bool.and_eq_true_iff.mp (Bool.and_eq_true_iff.mp (Bool.and_eq_true_iff.mp (Bool.and_eq_true_iff.mp (Bool.and_eq_true_iff.mp (Bool.and_eq_true_iff.mp (Bool.and_eq_true_iff.mp (Bool.and_eq_true_iff.mp (Bool.and_eq_true_iff.mp (Bool.and_eq_true_iff.mp (Bool.and_eq_true_iff.mp (Bool.and_eq_true_iff.mp (Bool.and_eq_true_iff.mp (Bool.and_eq_true_iff.mp (Bool.and_eq_true_iff.mp (Bool.and_eq_true_iff.mp (Bool.and_eq_true_iff.mp (Bool.and_eq_true_iff.mp (Bool.and_eq_true_iff.mp (Bool.and_eq_true_iff.mp (Bool.and_eq_true_iff.mp (Bool.and_eq_true_iff.mp (Bool.and_eq_true_iff.mp (Bool.and_eq_true_iff.mp (Bool.and_eq_true_iff.mp (Bool.and_eq_true_iff.mp (Bool.and_eq_true_iff.mp (Bool.and_eq_true_iff.mp (Bool.and_eq_true_iff.mp (Bool.and_eq_true_iff.mp (Bool.and_eq_true_iff.mp (Bool.and_eq_true_iff.mp (Bool.and_eq_true_iff.mp (Bool.and_eq_true_iff.mp (Bool.and_eq_true_iff.mp (Bool.and_eq_true_iff.mp (Bool.and_eq_true_iff.mp (Bool.and_eq_true_iff.mp (Bool.and_eq_true_iff.mp (Bool.and_eq_true_iff.mp (Bool.and_eq_true_iff.mp (Bool.and_eq_true_iff.mp (Bool.and_eq_true_iff.mp (Bool.and_eq_true_iff.mp (Bool.and_eq_true_iff.mp (Bool.and_eq_true_iff.mp (Bool.and_eq_true_iff.mp (Bool.and_eq_true_iff.mp (Bool.and_eq_true_iff.mp (Bool.and_eq_true_iff.mp (Bool.and_eq_true_iff.mp (Bool.and_eq_true_iff.mp (Bool.and_eq_true_iff.mp c.more).2).2).2).2).2).2).2).2).2).2).2).2).2).2).2).2).2).2).2).2).2).2).2).2).2).2).2).2).2).2).2).2).2).2).2).2).2).2).2).2).2).2).2).2).2).2).2).2).2).2).2).2).2).2).2).2).2).2).1
  xi_BadLine := (Bool.and_eq_true_iff.mp (Bool.and_eq_true_iff.mp (Bool.and_eq_true_iff.mp (Bool.and_eq_true_iff.mp (Bool.and_eq_true_iff.mp (Bool.and_eq_true_iff.mp (Bool.and_eq_true_iff.mp (Bool.and_eq_true_iff.mp (Bool.and_eq_true_iff.mp (Bool.and_eq_true_iff.mp (Bool.and_eq_true_iff.mp (Bool.and_eq_true_iff.mp (Bool.and_eq_true_iff.mp (Bool.and_eq_true_iff.mp (Bool.and_eq_true_iff.mp (Bool.and_eq_true_iff.mp (Bool.and_eq_true_iff.mp (Bool.and_eq_true_iff.mp (Bool.and_eq_true_iff.mp (Bool.and_eq_true_iff.mp (Bool.and_eq_true_iff.mp (Bool.and_eq_true_iff.mp (Bool.and_eq_true_iff.mp (Bool.and_eq_true_iff.mp (Bool.and_eq_true_iff.mp (Bool.and_eq_true_iff.mp (Bool.and_eq_true_iff.mp (Bool.and_eq_true_iff.mp (Bool.and_eq_true_iff.mp (Bool.and_eq_true_iff.mp (Bool.and_eq_true_iff.mp (Bool.and_eq_true_iff.mp (Bool.and_eq_true_iff.mp (Bool.and_eq_true_iff.mp (Bool.and_eq_true_iff.mp (Bool.and_eq_true_iff.mp (Bool.and_eq_true_iff.mp (Bool.and_eq_true_iff.mp (Bool.and_eq_true_iff.mp (Bool.and_eq_true_iff.mp (Bool.and_eq_true_iff.mp (Bool.and_eq_true_iff.mp (Bool.and_eq_true_iff.mp (Bool.and_eq_true_iff.mp (Bool.and_eq_true_iff.mp (Bool.and_eq_true_iff.mp (Bool.and_eq_true_iff.mp (Bool.and_eq_true_iff.mp (Bool.and_eq_true_iff.mp (Bool.and_eq_true_iff.mp (Bool.and_eq_true_iff.mp (Bool.and_eq_true_iff.mp (Bool.and_eq_true_iff.mp (Bool.and_eq_true_iff.mp (Bool.and_eq_true_iff.mp (Bool.and_eq_true_iff.mp (Bool.and_eq_true_iff.mp (Bool.and_eq_true_iff.mp (Bool.and_eq_true_iff.mp (Bool.and_eq_true_iff.mp c.more).2).2).2).2).2).2).2).2).2).2).2).2).2).2).2).2).2).2).2).2).2).2).2).2).2).2).2).2).2).2).2).2).2).2).2).2).2).2).2).2).2).2).2).2).2).2).2).2).2).2).2).2).2).2).2).2).2).2).2).1
  xo_TooMany := (Bool.and_eq_true_iff.mp (Bool.and_eq_true_iff.mp (Bool.and_eq_true_iff.mp (Bool.and_eq_true_iff.mp (Bool.and_eq_true_iff.mp (Bool.and_eq_true_iff.mp (Bool.and_eq_true_iff.mp (Bool.and_eq_true_iff.mp (Bool.and_eq_true_iff.mp (Bool.and_eq_true_iff.mp (Bool.and_eq_true_iff.mp (Bool.and_eq_true_iff.mp (Bool.and_eq_true_iff.mp (Bool.and_eq_true_iff.mp (Bool.and_eq_true_iff.mp (Bool.and_eq_true_iff.mp (Bool.and_eq_true_iff.mp (Bool.and_eq_true_iff.mp (Bool.and_eq_true_iff.mp (Bool.and_eq_true_iff.mp (Bool.and_eq_true_iff.mp (Bool.and_eq_true_iff.mp (Bool.and_eq_true_iff.mp (Bool.and_eq_true_iff.mp (Bool.and_eq_true_iff.mp (Bool.and_eq_true_iff.mp (Bool.and_eq_true_iff.mp (Bool.and_eq_true_iff.mp (Bool.and_eq_true_iff.mp (Bool.and_eq_true_iff.mp (Bool.and_eq_true_iff.mp (Bool.and_eq_true_iff.mp (Bool.and_eq_true_iff.mp (Bool.and_eq_true_iff.mp (Bool.and_eq_true_iff.mp (Bool.and_eq_true_iff.mp (Bool.and_eq_true_iff.mp (Bool.and_eq_true_iff.mp (Bool.and_eq_true_iff.mp (Bool.and_eq_true_iff.mp (Bool.and_eq_true_iff.mp (Bool.and_eq_true_iff.mp (Bool.and_eq_true_iff.mp (Bool.and_eq_true_iff.mp (Bool.and_eq_true_iff.mp (Bool.and_eq_true_iff.mp (Bool.and_eq_true_iff.mp (Bool.and_eq_true_iff.mp (Bool.and_eq_true_iff.mp (Bool.and_eq_true_iff.mp (Bool.and_eq_true_iff.mp (Bool.and_eq_true_iff.mp (Bool.and_eq_true_iff.mp (Bool.and_eq_true_iff.mp (Bool.and_eq_true_iff.mp (Bool.and_eq_true_iff.mp (Bool.and_eq_true_iff.mp (Bool.and_eq_true_iff.mp (Bool.and_eq_true_iff.mp (Bool.and_eq_true_iff.mp (Bool.and_eq_true_iff.mp c.more).2).2).2).2).2).2).2).2).2).2).2).2).2).2).2).2).2).2).2).2).2).2).2).2).2).2).2).2).2).2).2).2).2).2).2).2).2).2).2).2).2).2).2).2).2).2).2).2).2).2).2).2).2).2).2).2).2).2).2).2).1
  xi_TooMany := (Bool.and_eq_true_iff.mp (Bool.and_eq_true_iff.mp (Bool.and_eq_true_iff.mp (Bool.and_eq_true_iff.mp (Bool.and_eq_true_iff.mp (Bool.and_eq_true_iff.mp (Bool.and_eq_true_iff.mp (Bool.and_eq_true_iff.mp (Bool.and_eq_true_iff.mp (Bool.and_eq_true_iff.mp (Bool.and_eq_true_iff.mp (Bool.and_eq_true_iff.mp (Bool.and_eq_true_iff.mp (Bool.and_eq_true_iff.mp (Bool.and_eq_true_iff.mp (Bool.and_eq_true_iff.mp (Bool.and_eq_true_iff.mp (Bool.and_eq_true_iff.mp (Bool.and_eq_true_iff.mp (Bool.and_eq_true_iff.mp (Bool.and_eq_true_iff.mp (Bool.and_eq_true_iff.mp (Bool.and_eq_true_iff.mp (Bool.and_eq_true_iff.mp (Bool.and_eq_true_iff.mp (Bool.and_eq_true_iff.mp (Bool.and_eq_true_iff.mp (Bool.and_eq_true_iff.mp (Bool.and_eq_true_iff.mp (Bool.and_eq_true_iff.mp (Bool.and_eq_true_iff.mp (Bool.and_eq_true_iff.mp (Bool.and_eq_true_iff.mp (Bool.and_eq_true_iff.mp (Bool.and_eq_true_iff.mp (Bool.and_eq_true_iff.mp (Bool.and_eq_true_iff.mp (Bool.and_eq_true_iff.mp (Bool.and_eq_true_iff.mp (Bool.and_eq_true_iff.mp (Bool.and_eq_true_iff.mp (Bool.and_eq_true_iff.mp (Bool.and_eq_true_iff.mp (Bool.and_eq_true_iff.mp (Bool.and_eq_true_iff.mp (Bool.and_eq_true_iff.mp (Bool.and_eq_true_iff.mp (Bool.and_eq_true_iff.mp (Bool.and_eq_true_iff.mp (Bool.and_eq_true_iff.mp (Bool.and_eq_true_iff.mp (Bool.and_eq_true_iff.mp (Bool.and_eq_true_iff.mp (Bool.and_eq_true_iff.mp (Bool.and_eq_true_iff.mp (Bool.and_eq_true_iff.mp (Bool.and_eq_true_iff.mp (Bool.and_eq_true_iff.mp (Bool.and_eq_true_iff.mp (Bool.and_eq_true_iff.mp (Bool.and_eq_true_iff.mp (Bool.and_eq_true_iff.mp c.more).2).2).2).2).2).2).2).2).2).2).2).2).2).2).2).2).2).2).2).2).2).2).2).2).2).2).2).2).2).2).2).2).2).2).2).2).2).2).2).2).2).2).2).2).2).2).2).2).2).2).2).2).2).2).2).2).2).2).2).2).2).1
  xo_NoMove := (Bool.and_eq_true_iff.mp (Bool.and_eq_true_iff.mp (Bool.and_eq_true_iff.mp (Bool.and_eq_true_iff.mp (Bool.and_eq_true_iff.mp (Bool.and_eq_true_iff.mp (Bool.and_eq_true_iff.mp (Bool.and_eq_true_iff.mp (Bool.and_eq_true_iff.mp (Bool.and_eq_true_iff.mp (Bool.and_eq_true_iff.mp (Bool.and_eq_true_iff.mp (Bool.and_eq_true_iff.mp (Bool.and_eq_true_iff.mp (Bool.and_eq_true_iff.mp (Bool.and_eq_true_iff.mp (Bool.and_eq_true_iff.mp (Bool.and_eq_true_iff.mp (Bool.and_eq_true_iff.mp (Bool.and_eq_true_iff.mp (Bool.and_eq_true_iff.mp (Bool.and_eq_true_iff.mp (Bool.and_eq_true_iff.mp (Bool.and_eq_true_iff.mp (Bool.and_eq_true_iff.mp (Bool.and_eq_true_iff.mp (Bool.and_eq_true_iff.mp (Bool.and_eq_true_iff.mp (Bool.and_eq_true_iff.mp (Bool.and_eq_true_iff.mp (Bool.and_eq_true_iff.mp (Bool.and_eq_true_iff.mp (Bool.and_eq_true_iff.mp (Bool.and_eq_true_iff.mp (Bool.and_eq_true_iff.mp (Bool.and_eq_true_iff.mp (Bool.and_eq_true_iff.mp (Bool.and_eq_true_iff.mp (Bool.and_eq_true_iff.mp (Bool.and_eq_true_iff.mp (Bool.and_eq_true_iff.mp (Bool.and_eq_true_iff.mp (Bool.and_eq_true_iff.mp (Bool.and_eq_true_iff.mp (Bool.and_eq_true_iff.mp (Bool.and_eq_true_iff.mp (Bool.and_eq_true_iff.mp (Bool.and_eq_true_iff.mp (Bool.and_eq_true_iff.mp (Bool.and_eq_true_iff.mp (Bool.and_eq_true_iff.mp (Bool.and_eq_true_iff.mp (Bool.and_eq_true_iff.mp (Bool.and_eq_true_iff.mp (Bool.and_eq_true_iff.mp (Bool.and_eq_true_iff.mp (Bool.and_eq_true_iff.mp (Bool.and_eq_true_iff.mp (Bool.and_eq_true_iff.mp (Bool.and_eq_true_iff.mp (Bool.and_eq_true_iff.mp (Bool.and_eq_true_iff.mp (Bool.and_eq_true_iff.mp c.more).2).2).2).2).2).2).2).2).2).2).2).2).2).2).2).2).2).2).2).2).2).2).2).2).2).2).2).2).2).2).2).2).2).2).2).2).2).2).2).2).2).2).2).2).2).2).2).2).2).2).2).2).2).2).2).2).2).2).2).2).2).2).1
  xi_NoMove := (Bool.and_eq_true_iff.mp (Bool.and_eq_true_iff.mp (Bool.and_eq_true_iff.mp (Bool.and_eq_true_iff.mp (Bool.and_eq_true_iff.mp (Bool.and_eq_true_iff.mp (Bool.and_eq_true_iff.mp (Bool.and_eq_true_iff.mp (Bool.and_eq_true_iff.mp (Bool.and_eq_true_iff.mp (Bool.and_eq_true_iff.mp (Bool.and_eq_true_iff.mp (Bool.and_eq_true_iff.mp (Bool.and_eq_true_iff.mp (Bool.and_eq_true_iff.mp (Bool.and_eq_true_iff.mp (Bool.and_eq_true_iff.mp (Bool.and_eq_true_iff.mp (Bool.and_eq_true_iff.mp (Bool.and_eq_true_iff.mp (Bool.and_eq_true_iff.mp (Bool.and_eq_true_iff.mp (Bool.and_eq_true_iff.mp (Bool.and_eq_true_iff.mp (Bool.and_eq_true_iff.mp (Bool.and_eq_true_iff.mp (Bool.and_eq_true_iff.mp (Bool.and_eq_true_iff.mp (Bool.and_eq_true_iff.mp (Bool.and_eq_true_iff.mp (Bool.and_eq_true_iff.mp (Bool.and_eq_true_iff.mp (Bool.and_eq_true_iff.mp (Bool.and_eq_true_iff.mp (Bool.and_eq_true_iff.mp (Bool.and_eq_true_iff.mp (Bool.and_eq_true_iff.mp (Bool.and_eq_true_iff.mp (Bool.and_eq_true_iff.mp (Bool.and_eq_true_iff.mp (Bool.and_eq_true_iff.mp (Bool.and_eq_true_iff.mp (Bool.and_eq_true_iff.mp (Bool.and_eq_true_iff.mp (Bool.and_eq_true_iff.mp (Bool.and_eq_true_iff.mp (Bool.and_eq_true_iff.mp (Bool.and_eq_true_iff.mp (Bool.and_eq_true_iff.mp (Bool.and_eq_true_iff.mp (Bool.and_eq_true_iff.mp (Bool.and_eq_true_iff.mp (Bool.and_eq_true_iff.mp (Bool.and_eq_true_iff.mp (Bool.and_eq_true_iff.mp (Bool.and_eq_true_iff.mp (Bool.and_eq_true_iff.mp (Bool.and_eq_true_iff.mp (Bool.and_eq_true_iff.mp (Bool.and_eq_true_iff.mp (Bool.and_eq_true_iff.mp (Bool.and_eq_true_iff.mp (Bool.and_eq_true_iff.mp (Bool.and_eq_true_iff.mp c.more).2).2).2).2).2).2).2).2).2).2).2).2).2).2).2).2).2).2).2).2).2).2).2).2).2).2).2).2).2).2).2).2).2).2).2).2).2).2).2).2).2).2).2).2).2).2).2).2).2).2).2).2).2).2).2).2).2).2).2).2).2).2).2).1
  xo_NotWon := (Bool.and_eq_true_iff.mp (Bool.and_eq_true_iff.mp (Bool.and_eq_true_iff.mp (Bool.and_eq_true_iff.mp (Bool.and_eq_true_iff.mp (Bool.and_eq_true_iff.mp (Bool.and_eq_true_iff.mp (Bool.and_eq_true_iff.mp (Bool.and_eq_true_iff.mp (Bool.and_eq_true_iff.mp (Bool.and_eq_true_iff.mp (Bool.and_eq_true_iff.mp (Bool.and_eq_true_iff.mp (Bool.and_eq_true_iff.mp (Bool.and_eq_true_iff.mp (Bool.and_eq_true_iff.mp (Bool.and_eq_true_iff.mp (Bool.and_eq_true_iff.mp (Bool.and_eq_true_iff.mp (Bool.and_eq_true_iff.mp (Bool.and_eq_true_iff.mp (Bool.and_eq_true_iff.mp (Bool.and_eq_true_iff.mp (Bool.and_eq_true_iff.mp (Bool.and_eq_true_iff.mp (Bool.and_eq_true_iff.mp (Bool.and_eq_true_iff.mp (Bool.and_eq_true_iff.mp (Bool.and_eq_true_iff.mp (Bool.and_eq_true_iff.mp (Bool.and_eq_true_iff.mp (Bool.and_eq_true_iff.mp (Bool.and_eq_true_iff.mp (Bool.and_eq_true_iff.mp (Bool.and_eq_true_iff.mp (Bool.and_eq_true_iff.mp (Bool.and_eq_true_iff.mp (Bool.and_eq_true_iff.mp (Bool.and_eq_true_iff.mp (Bool.and_eq_true_iff.mp (Bool.and_eq_true_iff.mp (Bool.and_eq_true_iff.mp (Bool.and_eq_true_iff.mp (Bool.and_eq_true_iff.mp (Bool.and_eq_true_iff.mp (Bool.and_eq_true_iff.mp (Bool.and_eq_true_iff.mp (Bool.and_eq_true_iff.mp (Bool.and_eq_true_iff.mp (Bool.and_eq_true_iff.mp (Bool.and_eq_true_iff.mp (Bool.and_eq_true_iff.mp (Bool.and_eq_true_iff.mp (Bool.and_eq_true_iff.mp (Bool.and_eq_true_iff.mp (Bool.and_eq_true_iff.mp (Bool.and_eq_true_iff.mp (Bool.and_eq_true_iff.mp (Bool.and_eq_true_iff.mp (Bool.and_eq_true_iff.mp (Bool.and_eq_true_iff.mp (Bool.and_eq_true_iff.mp (Bool.and_eq_true_iff.mp (Bool.and_eq_true_iff.mp (Bool.and_eq_true_iff.mp c.more).2).2).2).2).2).2).2).2).2).2).2).2).2).2).2).2).2).2).2).2).2).2).2).2).2).2).2).2).2).2).2).2).2).2).2).2).2).2).2).2).2).2).2).2).2).2).2).2).2).2).2).2).2).2).2).2).2).2).2).2).2).2).2).2).1
  xi_NotWon := (Bool.and_eq_true_iff.mp (Bool.and_eq_true_iff.mp (Bool.and_eq_true_iff.mp (Bool.and_eq_true_iff.mp (Bool.and_eq_true_iff.mp (Bool.and_eq_true_iff.mp (Bool.and_eq_true_iff.mp (Bool.and_eq_true_iff.mp (Bool.and_eq_true_iff.mp (Bool.and_eq_true_iff.mp (Bool.and_eq_true_iff.mp (Bool.and_eq_true_iff.mp (Bool.and_eq_true_iff.mp (Bool.and_eq_true_iff.mp (Bool.and_eq_true_iff.mp (Bool.and_eq_true_iff.mp (Bool.and_eq_true_iff.mp (Bool.and_eq_true_iff.mp (Bool.and_eq_true_iff.mp (Bool.and_eq_true_iff.mp (Bool.and_eq_true_iff.mp (Bool.and_eq_true_iff.mp (Bool.and_eq_true_iff.mp (Bool.and_eq_true_iff.mp (Bool.and_eq_true_iff.mp (Bool.and_eq_true_iff.mp (Bool.and_eq_true_iff.mp (Bool.and_eq_true_iff.mp (Bool.and_eq_true_iff.mp (Bool.and_eq_true_iff.mp (Bool.and_eq_true_iff.mp (Bool.and_eq_true_iff.mp (Bool.and_eq_true_iff.mp (Bool.and_eq_true_iff.mp (Bool.and_eq_true_iff.mp (Bool.and_eq_true_iff.mp (Bool.and_eq_true_iff.mp (Bool.and_eq_true_iff.mp (Bool.and_eq_true_iff.mp (Bool.and_eq_true_iff.mp (Bool.and_eq_true_iff.mp (Bool.and_eq_true_iff.mp (Bool.and_eq_true_iff.mp (Bool.and_eq_true_iff.mp (Bool.and_eq_true_iff.mp (Bool.and_eq_true_iff.mp (Bool.and_eq_true_iff.mp (Bool.and_eq_true_iff.mp (Bool.and_eq_true_iff.mp (Bool.and_eq_true_iff.mp (Bool.and_eq_true_iff.mp (Bool.and_eq_true_iff.mp (Bool.and_eq_true_iff.mp (Bool.and_eq_true_iff.mp (Bool.and_eq_true_iff.mp (Bool.and_eq_true_iff.mp (Bool.and_eq_true_iff.mp (Bool.and_eq_true_iff.mp (Bool.and_eq_true_iff.mp (Bool.and_eq_true_iff.mp (Bool.and_eq_true_iff.mp (Bool.and_eq_true_iff.mp (Bool.and_eq_true_iff.mp (Bool.and_eq_true_iff.mp (Bool.and_eq_true_iff.mp (Bool.and_eq_true_iff.mp c.more).2).2).2).2).2).2).2).2).2).2).2).2).2).2).2).2).2).2).2).2).2).2).2).2).2).2).2).2).2).2).2).2).2).2).2).2).2).2).2).2).2).2).2).2).2).2).2).2).2).2).2).2).2).2).2).2).2).2).2).2).2).2).2).2).2).1
  xo_NotRight := (Bool.and_eq_true_iff.mp (Bool.and_eq_true_iff.mp (Bool.and_eq_true_iff.mp (Bool.and_eq_true_iff.mp (Bool.and_eq_true_iff.mp (Bool.and_eq_true_iff.mp (Bool.and_eq_true_iff.mp (Bool.and_eq_true_iff.mp (Bool.and_eq_true_iff.mp (Bool.and_eq_true_iff.mp (Bool.and_eq_true_iff.mp (Bool.and_eq_true_iff.mp (Bool.and_eq_true_iff.mp (Bool.and_eq_true_iff.mp (Bool.and_eq_true_iff.mp (Bool.and_eq_true_iff.mp (Bool.and_eq_true_iff.mp (Bool.and_eq_true_iff.mp (Bool.and_eq_true_iff.mp (Bool.and_eq_true_iff.mp (Bool.and_eq_true_iff.mp (Bool.and_eq_true_iff.mp (Bool.and_eq_true_iff.mp (Bool.and_eq_true_iff.mp (Bool.and_eq_true_iff.mp (Bool.and_eq_true_iff.mp (Bool.and_eq_true_iff.mp (Bool.and_eq_true_iff.mp (Bool.and_eq_true_iff.mp (Bool.and_eq_true_iff.mp (Bool.and_eq_true_iff.mp (Bool.and_eq_true_iff.mp (Bool.and_eq_true_iff.mp (Bool.and_eq_true_iff.mp (Bool.and_eq_true_iff.mp (Bool.and_eq_true_iff.mp (Bool.and_eq_true_iff.mp (Bool.and_eq_true_iff.mp (Bool.and_eq_true_iff.mp (Bool.and_eq_true_iff.mp (Bool.and_eq_true_iff.mp (Bool.and_eq_true_iff.mp (Bool.and_eq_true_iff.mp (Bool.and_eq_true_iff.mp (Bool.and_eq_true_iff.mp (Bool.and_eq_true_iff.mp (Bool.and_eq_true_iff.mp (Bool.and_eq_true_iff.mp (Bool.and_eq_true_iff.mp (Bool.and_eq_true_iff.mp (Bool.and_eq_true_iff.mp (Bool.and_eq_true_iff.mp (Bool.and_eq_true_iff.mp (Bool.and_eq_true_iff.mp (Bool.and_eq_true_iff.mp (Bool.and_eq_true_iff.mp (Bool.and_eq_true_iff.mp (Bool.and_eq_true_iff.mp (Bool.and_eq_true_iff.mp (Bool.and_eq_true_iff.mp (Bool.and_eq_true_iff.mp (Bool.and_eq_true_iff.mp (Bool.and_eq_true_iff.mp (Bool.and_eq_true_iff.mp (Bool.and_eq_true_iff.mp (Bool.and_eq_true_iff.mp (Bool.and_eq_true_iff.mp c.more).2).2).2).2).2).2).2).2).2).2).2).2).2).2).2).2).2).2).2).2).2).2).2).2).2).2).2).2).2).2).2).2).2).2).2).2).2).2).2).2).2).2).2).2).2).2).2).2).2).2).2).2).2).2).2).2).2).2).2).2).2).2).2).2).2).2).1
  xi_NotRight := (Bool.and_eq_true_iff.mp (Bool.and_eq_true_iff.mp (Bool.and_eq_true_iff.mp (Bool.and_eq_true_iff.mp (Bool.and_eq_true_iff.mp (Bool.and_eq_true_iff.mp (Bool.and_eq_true_iff.mp (Bool.and_eq_true_iff.mp (Bool.and_eq_true_iff.mp (Bool.and_eq_true_iff.mp (Bool.and_eq_true_iff.mp (Bool.and_eq_true_iff.mp (Bool.and_eq_true_iff.mp (Bool.and_eq_true_iff.mp (Bool.and_eq_true_iff.mp (Bool.and_eq_true_iff.mp (Bool.and_eq_true_iff.mp (Bool.and_eq_true_iff.mp (Bool.and_eq_true_iff.mp (Bool.and_eq_true_iff.mp (Bool.and_eq_true_iff.mp (Bool.and_eq_true_iff.mp (Bool.and_eq_true_iff.mp (Bool.and_eq_true_iff.mp (Bool.and_eq_true_iff.mp (Bool.and_eq_true_iff.mp (Bool.and_eq_true_iff.mp (Bool.and_eq_true_iff.mp (Bool.and_eq_true_iff.mp (Bool.and_eq_true_iff.mp (Bool.and_eq_true_iff.mp (Bool.and_eq_true_iff.mp (Bool.and_eq_true_iff.mp (Bool.and_eq_true_iff.mp (Bool.and_eq_true_iff.mp (Bool.and_eq_true_iff.mp (Bool.and_eq_true_iff.mp (Bool.and_eq_true_iff.mp (Bool.and_eq_true_iff.mp (Bool.and_eq_true_iff.mp (Bool.and_eq_true_iff.mp (Bool.and_eq_true_iff.mp (Bool.and_eq_true_iff.mp (Bool.and_eq_true_iff.mp (Bool.and_eq_true_iff.mp (Bool.and_eq_true_iff.mp (Bool.and_eq_true_iff.mp (Bool.and_eq_true_iff.mp (Bool.and_eq_true_iff.mp (Bool.and_eq_true_iff.mp (Bool.and_eq_true_iff.mp (Bool.and_eq_true_iff.mp (Bool.and_eq_true_iff.mp (Bool.and_eq_true_iff.mp (Bool.and_eq_true_iff.mp (Bool.and_eq_true_iff.mp (Bool.and_eq_true_iff.mp (Bool.and_eq_true_iff.mp (Bool.and_eq_true_iff.mp (Bool.and_eq_true_iff.mp (Bool.and_eq_true_iff.mp (Bool.and_eq_true_iff.mp (Bool.and_eq_true_iff.mp (Bool.and_eq_true_iff.mp (Bool.and_eq_true_iff.mp (Bool.and_eq_true_iff.mp (Bool.and_eq_true_iff.mp (Bool.and_eq_true_iff.mp c.more).2).2).2).2).2).2).2).2).2).2).2).2).2).2).2).2).2).2).2).2).2).2).2).2).2).2).2).2).2).2).2).2).2).2).2).2).2).2).2).2).2).2).2).2).2).2).2).2).2).2).2).2).2).2).2).2).2).2).2).2).2).2).2).2).2).2).2).1
  xo_NotKept := (Bool.and_eq_true_iff.mp (Bool.and_eq_true_iff.mp (Bool.and_eq_true_iff.mp (Bool.and_eq_true_iff.mp (Bool.and_eq_true_iff.mp (Bool.and_eq_true_iff.mp (Bool.and_eq_true_iff.mp (Bool.and_eq_true_iff.mp (Bool.and_eq_true_iff.mp (Bool.and_eq_true_iff.mp (Bool.and_eq_true_iff.mp (Bool.and_eq_true_iff.mp (Bool.and_eq_true_iff.mp (Bool.and_eq_true_iff.mp (Bool.and_eq_true_iff.mp (Bool.and_eq_true_iff.mp (Bool.and_eq_true_iff.mp (Bool.and_eq_true_iff.mp (Bool.and_eq_true_iff.mp (Bool.and_eq_true_iff.mp (Bool.and_eq_true_iff.mp (Bool.and_eq_true_iff.mp (Bool.and_eq_true_iff.mp (Bool.and_eq_true_iff.mp (Bool.and_eq_true_iff.mp (Bool.and_eq_true_iff.mp (Bool.and_eq_true_iff.mp (Bool.and_eq_true_iff.mp (Bool.and_eq_true_iff.mp (Bool.and_eq_true_iff.mp (Bool.and_eq_true_iff.mp (Bool.and_eq_true_iff.mp (Bool.and_eq_true_iff.mp (Bool.and_eq_true_iff.mp (Bool.and_eq_true_iff.mp (Bool.and_eq_true_iff.mp (Bool.and_eq_true_iff.mp (Bool.and_eq_true_iff.mp (Bool.and_eq_true_iff.mp (Bool.and_eq_true_iff.mp (Bool.and_eq_true_iff.mp (Bool.and_eq_true_iff.mp (Bool.and_eq_true_iff.mp (Bool.and_eq_true_iff.mp (Bool.and_eq_true_iff.mp (Bool.and_eq_true_iff.mp (Bool.and_eq_true_iff.mp (Bool.and_eq_true_iff.mp (Bool.and_eq_true_iff.mp (Bool.and_eq_true_iff.mp (Bool.and_eq_true_iff.mp (Bool.and_eq_true_iff.mp (Bool.and_eq_true_iff.mp (Bool.and_eq_true_iff.mp (Bool.and_eq_true_iff.mp (Bool.and_eq_true_iff.mp (Bool.and_eq_true_iff.mp (Bool.and_eq_true_iff.mp (Bool.and_eq_true_iff.mp (Bool.and_eq_true_iff.mp (Bool.and_eq_true_iff.mp (Bool.and_eq_true_iff.mp (Bool.and_eq_true_iff.mp (Bool.and_eq_true_iff.mp (Bool.and_eq_true_iff.mp (Bool.and_eq_true_iff.mp (Bool.and_eq_true_iff.mp (Bool.and_eq_true_iff.mp (Bool.and_eq_true_iff.mp c.more).2).2).2).2).2).2).2).2).2).2).2).2).2).2).2).2).2).2).2).2).2).2).2).2).2).2).2).2).2).2).2).2).2).2).2).2).2).2).2).2).2).2).2).2).2).2).2).2).2).2).2).2).2).2).2).2).2).2).2).2).2).2).2).2).2).2).2).2).1
  xi_NotKept := (Bool.and_eq_true_iff.mp (Bool.and_eq_true_iff.mp (Bool.and_eq_true_iff.mp (Bool.and_eq_true_iff.mp (Bool.and_eq_true_iff.mp (Bool.and_eq_true_iff.mp (Bool.and_eq_true_iff.mp (Bool.and_eq_true_iff.mp (Bool.and_eq_true_iff.mp (Bool.and_eq_true_iff.mp (Bool.and_eq_true_iff.mp (Bool.and_eq_true_iff.mp (Bool.and_eq_true_iff.mp (Bool.and_eq_true_iff.mp (Bool.and_eq_true_iff.mp (Bool.and_eq_true_iff.mp (Bool.and_eq_true_iff.mp (Bool.and_eq_true_iff.mp (Bool.and_eq_true_iff.mp (Bool.and_eq_true_iff.mp (Bool.and_eq_true_iff.mp (Bool.and_eq_true_iff.mp (Bool.and_eq_true_iff.mp (Bool.and_eq_true_iff.mp (Bool.and_eq_true_iff.mp (Bool.and_eq_true_iff.mp (Bool.and_eq_true_iff.mp (Bool.and_eq_true_iff.mp (Bool.and_eq_true_iff.mp (Bool.and_eq_true_iff.mp (Bool.and_eq_true_iff.mp (Bool.and_eq_true_iff.mp (Bool.and_eq_true_iff.mp (Bool.and_eq_true_iff.mp (Bool.and_eq_true_iff.mp (Bool.and_eq_true_iff.mp (Bool.and_eq_true_iff.mp (Bool.and_eq_true_iff.mp (Bool.and_eq_true_iff.mp (Bool.and_eq_true_iff.mp (Bool.and_eq_true_iff.mp (Bool.and_eq_true_iff.mp (Bool.and_eq_true_iff.mp (Bool.and_eq_true_iff.mp (Bool.and_eq_true_iff.mp (Bool.and_eq_true_iff.mp (Bool.and_eq_true_iff.mp (Bool.and_eq_true_iff.mp (Bool.and_eq_true_iff.mp (Bool.and_eq_true_iff.mp (Bool.and_eq_true_iff.mp (Bool.and_eq_true_iff.mp (Bool.and_eq_true_iff.mp (Bool.and_eq_true_iff.mp (Bool.and_eq_true_iff.mp (Bool.and_eq_true_iff.mp (Bool.and_eq_true_iff.mp (Bool.and_eq_true_iff.mp (Bool.and_eq_true_iff.mp (Bool.and_eq_true_iff.mp (Bool.and_eq_true_iff.mp (Bool.and_eq_true_iff.mp (Bool.and_eq_true_iff.mp (Bool.and_eq_true_iff.mp (Bool.and_eq_true_iff.mp (Bool.and_eq_true_iff.mp (Bool.and_eq_true_iff.mp (Bool.and_eq_true_iff.mp (Bool.and_eq_true_iff.mp (Bool.and_eq_true_iff.mp c.more).2).2).2).2).2).2).2).2).2).2).2).2).2).2).2).2).2).2).2).2).2).2).2).2).2).2).2).2).2).2).2).2).2).2).2).2).2).2).2).2).2).2).2).2).2).2).2).2).2).2).2).2).2).2).2).2).2).2).2).2).2).2).2).2).2).2).2).2).2).1
  xo_NotThere := (Bool.and_eq_true_iff.mp (Bool.and_eq_true_iff.mp (Bool.and_eq_true_iff.mp (Bool.and_eq_true_iff.mp (Bool.and_eq_true_iff.mp (Bool.and_eq_true_iff.mp (Bool.and_eq_true_iff.mp (Bool.and_eq_true_iff.mp (Bool.and_eq_true_iff.mp (Bool.and_eq_true_iff.mp (Bool.and_eq_true_iff.mp (Bool.and_eq_true_iff.mp (Bool.and_eq_true_iff.mp (Bool.and_eq_true_iff.mp (Bool.and_eq_true_iff.mp (Bool.and_eq_true_iff.mp (Bool.and_eq_true_iff.mp (Bool.and_eq_true_iff.mp (Bool.and_eq_true_iff.mp (Bool.and_eq_true_iff.mp (Bool.and_eq_true_iff.mp (Bool.and_eq_true_iff.mp (Bool.and_eq_true_iff.mp (Bool.and_eq_true_iff.mp (Bool.and_eq_true_iff.mp (Bool.and_eq_true_iff.mp (Bool.and_eq_true_iff.mp (Bool.and_eq_true_iff.mp (Bool.and_eq_true_iff.mp (Bool.and_eq_true_iff.mp (Bool.and_eq_true_iff.mp (Bool.and_eq_true_iff.mp (Bool.and_eq_true_iff.mp (Bool.and_eq_true_iff.mp (Bool.and_eq_true_iff.mp (Bool.and_eq_true_iff.mp (Bool.and_eq_true_iff.mp (Bool.and_eq_true_iff.mp (Bool.and_eq_true_iff.mp (Bool.and_eq_true_iff.mp (Bool.and_eq_true_iff.mp (Bool.and_eq_true_iff.mp (Bool.and_eq_true_iff.mp (Bool.and_eq_true_iff.mp (Bool.and_eq_true_iff.mp (Bool.and_eq_true_iff.mp (Bool.and_eq_true_iff.mp (Bool.and_eq_true_iff.mp (Bool.and_eq_true_iff.mp (Bool.and_eq_true_iff.mp (Bool.and_eq_true_iff.mp (Bool.and_eq_true_iff.mp (Bool.and_eq_true_iff.mp (Bool.and_eq_true_iff.mp (Bool.and_eq_true_iff.mp (Bool.and_eq_true_iff.mp (Bool.and_eq_true_iff.mp (Bool.and_eq_true_iff.mp (Bool.and_eq_true_iff.mp (Bool.and_eq_true_iff.mp (Bool.and_eq_true_iff.mp (Bool.and_eq_true_iff.mp (Bool.and_eq_true_iff.mp (Bool.and_eq_true_iff.mp (Bool.and_eq_true_iff.mp (Bool.and_eq_true_iff.mp (Bool.and_eq_true_iff.mp (Bool.and_eq_true_iff.mp (Bool.and_eq_true_iff.mp (Bool.and_eq_true_iff.mp (Bool.and_eq_true_iff.mp c.more).2).2).2).2).2).2).2).2).2).2).2).2).2).2).2).2).2).2).2).2).2).2).2).2).2).2).2).2).2).2).2).2).2).2).2).2).2).2).2).2).2).2).2).2).2).2).2).2).2).2).2).2).2).2).2).2).2).2).2).2).2).2).2).2).2).2).2).2).2).2).1
  xi_NotThere := (Bool.and_eq_true_iff.mp (Bool.and_eq_true_iff.mp (Bool.and_eq_true_iff.mp (Bool.and_eq_true_iff.mp (Bool.and_eq_true_iff.mp (Bool.and_eq_true_iff.mp (Bool.and_eq_true_iff.mp (Bool.and_eq_true_iff.mp (Bool.and_eq_true_iff.mp (Bool.and_eq_true_iff.mp (Bool.and_eq_true_iff.mp (Bool.and_eq_true_iff.mp (Bool.and_eq_true_iff.mp (Bool.and_eq_true_iff.mp (Bool.and_eq_true_iff.mp (Bool.and_eq_true_iff.mp (Bool.and_eq_true_iff.mp (Bool.and_eq_true_iff.mp (Bool.and_eq_true_iff.mp (Bool.and_eq_true_iff.mp (Bool.and_eq_true_iff.mp (Bool.and_eq_true_iff.mp (Bool.and_eq_true_iff.mp (Bool.and_eq_true_iff.mp (Bool.and_eq_true_iff.mp (Bool.and_eq_true_iff.mp (Bool.and_eq_true_iff.mp (Bool.and_eq_true_iff.mp (Bool.and_eq_true_iff.mp (Bool.and_eq_true_iff.mp (Bool.and_eq_true_iff.mp (Bool.and_eq_true_iff.mp (Bool.and_eq_true_iff.mp (Bool.and_eq_true_iff.mp (Bool.and_eq_true_iff.mp (Bool.and_eq_true_iff.mp (Bool.and_eq_true_iff.mp (Bool.and_eq_true_iff.mp (Bool.and_eq_true_iff.mp (Bool.and_eq_true_iff.mp (Bool.and_eq_true_iff.mp (Bool.and_eq_true_iff.mp (Bool.and_eq_true_iff.mp (Bool.and_eq_true_iff.mp (Bool.and_eq_true_iff.mp (Bool.and_eq_true_iff.mp (Bool.and_eq_true_iff.mp (Bool.and_eq_true_iff.mp (Bool.and_eq_true_iff.mp (Bool.and_eq_true_iff.mp (Bool.and_eq_true_iff.mp (Bool.and_eq_true_iff.mp (Bool.and_eq_true_iff.mp (Bool.and_eq_true_iff.mp (Bool.and_eq_true_iff.mp (Bool.and_eq_true_iff.mp (Bool.and_eq_true_iff.mp (Bool.and_eq_true_iff.mp (Bool.and_eq_true_iff.mp (Bool.and_eq_true_iff.mp (Bool.and_eq_true_iff.mp (Bool.and_eq_true_iff.mp (Bool.and_eq_true_iff.mp (Bool.and_eq_true_iff.mp (Bool.and_eq_true_iff.mp (Bool.and_eq_true_iff.mp (Bool.and_eq_true_iff.mp (Bool.and_eq_true_iff.mp (Bool.and_eq_true_iff.mp (Bool.and_eq_true_iff.mp (Bool.and_eq_true_iff.mp (Bool.and_eq_true_iff.mp c.more).2).2).2).2).2).2).2).2).2).2).2).2).2).2).2).2).2).2).2).2).2).2).2).2).2).2).2).2).2).2).2).2).2).2).2).2).2).2).2).2).2).2).2).2).2).2).2).2).2).2).2).2).2).2).2).2).2).2).2).2).2).2).2).2).2).2).2).2).2).2).2).1
  xf_at := (Bool.and_eq_true_iff.mp (Bool.and_eq_true_iff.mp (Bool.and_eq_true_iff.mp (Bool.and_eq_true_iff.mp (Bool.and_eq_true_iff.mp (Bool.and_eq_true_iff.mp (Bool.and_eq_true_iff.mp (Bool.and_eq_true_iff.mp (Bool.and_eq_true_iff.mp (Bool.and_eq_true_iff.mp (Bool.and_eq_true_iff.mp (Bool.and_eq_true_iff.mp (Bool.and_eq_true_iff.mp (Bool.and_eq_true_iff.mp (Bool.and_eq_true_iff.mp (Bool.and_eq_true_iff.mp (Bool.and_eq_true_iff.mp (Bool.and_eq_true_iff.mp (Bool.and_eq_true_iff.mp (Bool.and_eq_true_iff.mp (Bool.and_eq_true_iff.mp (Bool.and_eq_true_iff.mp (Bool.and_eq_true_iff.mp (Bool.and_eq_true_iff.mp (Bool.and_eq_true_iff.mp (Bool.and_eq_true_iff.mp (Bool.and_eq_true_iff.mp (Bool.and_eq_true_iff.mp (Bool.and_eq_true_iff.mp (Bool.and_eq_true_iff.mp (Bool.and_eq_true_iff.mp (Bool.and_eq_true_iff.mp (Bool.and_eq_true_iff.mp (Bool.and_eq_true_iff.mp (Bool.and_eq_true_iff.mp (Bool.and_eq_true_iff.mp (Bool.and_eq_true_iff.mp (Bool.and_eq_true_iff.mp (Bool.and_eq_true_iff.mp (Bool.and_eq_true_iff.mp (Bool.and_eq_true_iff.mp (Bool.and_eq_true_iff.mp (Bool.and_eq_true_iff.mp (Bool.and_eq_true_iff.mp (Bool.and_eq_true_iff.mp (Bool.and_eq_true_iff.mp (Bool.and_eq_true_iff.mp (Bool.and_eq_true_iff.mp (Bool.and_eq_true_iff.mp (Bool.and_eq_true_iff.mp (Bool.and_eq_true_iff.mp (Bool.and_eq_true_iff.mp (Bool.and_eq_true_iff.mp (Bool.and_eq_true_iff.mp (Bool.and_eq_true_iff.mp (Bool.and_eq_true_iff.mp (Bool.and_eq_true_iff.mp (Bool.and_eq_true_iff.mp (Bool.and_eq_true_iff.mp (Bool.and_eq_true_iff.mp (Bool.and_eq_true_iff.mp (Bool.and_eq_true_iff.mp (Bool.and_eq_true_iff.mp (Bool.and_eq_true_iff.mp (Bool.and_eq_true_iff.mp (Bool.and_eq_true_iff.mp (Bool.and_eq_true_iff.mp (Bool.and_eq_true_iff.mp (Bool.and_eq_true_iff.mp (Bool.and_eq_true_iff.mp (Bool.and_eq_true_iff.mp (Bool.and_eq_true_iff.mp (Bool.and_eq_true_iff.mp c.more).2).2).2).2).2).2).2).2).2).2).2).2).2).2).2).2).2).2).2).2).2).2).2).2).2).2).2).2).2).2).2).2).2).2).2).2).2).2).2).2).2).2).2).2).2).2).2).2).2).2).2).2).2).2).2).2).2).2).2).2).2).2).2).2).2).2).2).2).2).2).2).2).1
  xf_line := (Bool.and_eq_true_iff.mp (Bool.and_eq_true_iff.mp (Bool.and_eq_true_iff.mp (Bool.and_eq_true_iff.mp (Bool.and_eq_true_iff.mp (Bool.and_eq_true_iff.mp (Bool.and_eq_true_iff.mp (Bool.and_eq_true_iff.mp (Bool.and_eq_true_iff.mp (Bool.and_eq_true_iff.mp (Bool.and_eq_true_iff.mp (Bool.and_eq_true_iff.mp (Bool.and_eq_true_iff.mp (Bool.and_eq_true_iff.mp (Bool.and_eq_true_iff.mp (Bool.and_eq_true_iff.mp (Bool.and_eq_true_iff.mp (Bool.and_eq_true_iff.mp (Bool.and_eq_true_iff.mp (Bool.and_eq_true_iff.mp (Bool.and_eq_true_iff.mp (Bool.and_eq_true_iff.mp (Bool.and_eq_true_iff.mp (Bool.and_eq_true_iff.mp (Bool.and_eq_true_iff.mp (Bool.and_eq_true_iff.mp (Bool.and_eq_true_iff.mp (Bool.and_eq_true_iff.mp (Bool.and_eq_true_iff.mp (Bool.and_eq_true_iff.mp (Bool.and_eq_true_iff.mp (Bool.and_eq_true_iff.mp (Bool.and_eq_true_iff.mp (Bool.and_eq_true_iff.mp (Bool.and_eq_true_iff.mp (Bool.and_eq_true_iff.mp (Bool.and_eq_true_iff.mp (Bool.and_eq_true_iff.mp (Bool.and_eq_true_iff.mp (Bool.and_eq_true_iff.mp (Bool.and_eq_true_iff.mp (Bool.and_eq_true_iff.mp (Bool.and_eq_true_iff.mp (Bool.and_eq_true_iff.mp (Bool.and_eq_true_iff.mp (Bool.and_eq_true_iff.mp (Bool.and_eq_true_iff.mp (Bool.and_eq_true_iff.mp (Bool.and_eq_true_iff.mp (Bool.and_eq_true_iff.mp (Bool.and_eq_true_iff.mp (Bool.and_eq_true_iff.mp (Bool.and_eq_true_iff.mp (Bool.and_eq_true_iff.mp (Bool.and_eq_true_iff.mp (Bool.and_eq_true_iff.mp (Bool.and_eq_true_iff.mp (Bool.and_eq_true_iff.mp (Bool.and_eq_true_iff.mp (Bool.and_eq_true_iff.mp (Bool.and_eq_true_iff.mp (Bool.and_eq_true_iff.mp (Bool.and_eq_true_iff.mp (Bool.and_eq_true_iff.mp (Bool.and_eq_true_iff.mp (Bool.and_eq_true_iff.mp (Bool.and_eq_true_iff.mp (Bool.and_eq_true_iff.mp (Bool.and_eq_true_iff.mp (Bool.and_eq_true_iff.mp (Bool.and_eq_true_iff.mp (Bool.and_eq_true_iff.mp (Bool.and_eq_true_iff.mp (Bool.and_eq_true_iff.mp c.more).2).2).2).2).2).2).2).2).2).2).2).2).2).2).2).2).2).2).2).2).2).2).2).2).2).2).2).2).2).2).2).2).2).2).2).2).2).2).2).2).2).2).2).2).2).2).2).2).2).2).2).2).2).2).2).2).2).2).2).2).2).2).2).2).2).2).2).2).2).2).2).2).2).1
  xf_most := (Bool.and_eq_true_iff.mp (Bool.and_eq_true_iff.mp (Bool.and_eq_true_iff.mp (Bool.and_eq_true_iff.mp (Bool.and_eq_true_iff.mp (Bool.and_eq_true_iff.mp (Bool.and_eq_true_iff.mp (Bool.and_eq_true_iff.mp (Bool.and_eq_true_iff.mp (Bool.and_eq_true_iff.mp (Bool.and_eq_true_iff.mp (Bool.and_eq_true_iff.mp (Bool.and_eq_true_iff.mp (Bool.and_eq_true_iff.mp (Bool.and_eq_true_iff.mp (Bool.and_eq_true_iff.mp (Bool.and_eq_true_iff.mp (Bool.and_eq_true_iff.mp (Bool.and_eq_true_iff.mp (Bool.and_eq_true_iff.mp (Bool.and_eq_true_iff.mp (Bool.and_eq_true_iff.mp (Bool.and_eq_true_iff.mp (Bool.and_eq_true_iff.mp (Bool.and_eq_true_iff.mp (Bool.and_eq_true_iff.mp (Bool.and_eq_true_iff.mp (Bool.and_eq_true_iff.mp (Bool.and_eq_true_iff.mp (Bool.and_eq_true_iff.mp (Bool.and_eq_true_iff.mp (Bool.and_eq_true_iff.mp (Bool.and_eq_true_iff.mp (Bool.and_eq_true_iff.mp (Bool.and_eq_true_iff.mp (Bool.and_eq_true_iff.mp (Bool.and_eq_true_iff.mp (Bool.and_eq_true_iff.mp (Bool.and_eq_true_iff.mp (Bool.and_eq_true_iff.mp (Bool.and_eq_true_iff.mp (Bool.and_eq_true_iff.mp (Bool.and_eq_true_iff.mp (Bool.and_eq_true_iff.mp (Bool.and_eq_true_iff.mp (Bool.and_eq_true_iff.mp (Bool.and_eq_true_iff.mp (Bool.and_eq_true_iff.mp (Bool.and_eq_true_iff.mp (Bool.and_eq_true_iff.mp (Bool.and_eq_true_iff.mp (Bool.and_eq_true_iff.mp (Bool.and_eq_true_iff.mp (Bool.and_eq_true_iff.mp (Bool.and_eq_true_iff.mp (Bool.and_eq_true_iff.mp (Bool.and_eq_true_iff.mp (Bool.and_eq_true_iff.mp (Bool.and_eq_true_iff.mp (Bool.and_eq_true_iff.mp (Bool.and_eq_true_iff.mp (Bool.and_eq_true_iff.mp (Bool.and_eq_true_iff.mp (Bool.and_eq_true_iff.mp (Bool.and_eq_true_iff.mp (Bool.and_eq_true_iff.mp (Bool.and_eq_true_iff.mp (Bool.and_eq_true_iff.mp (Bool.and_eq_true_iff.mp (Bool.and_eq_true_iff.mp (Bool.and_eq_true_iff.mp (Bool.and_eq_true_iff.mp (Bool.and_eq_true_iff.mp (Bool.and_eq_true_iff.mp (Bool.and_eq_true_iff.mp c.more).2).2).2).2).2).2).2).2).2).2).2).2).2).2).2).2).2).2).2).2).2).2).2).2).2).2).2).2).2).2).2).2).2).2).2).2).2).2).2).2).2).2).2).2).2).2).2).2).2).2).2).2).2).2).2).2).2).2).2).2).2).2).2).2).2).2).2).2).2).2).2).2).2).2).1
  xf_new := (Bool.and_eq_true_iff.mp (Bool.and_eq_true_iff.mp (Bool.and_eq_true_iff.mp (Bool.and_eq_true_iff.mp (Bool.and_eq_true_iff.mp (Bool.and_eq_true_iff.mp (Bool.and_eq_true_iff.mp (Bool.and_eq_true_iff.mp (Bool.and_eq_true_iff.mp (Bool.and_eq_true_iff.mp (Bool.and_eq_true_iff.mp (Bool.and_eq_true_iff.mp (Bool.and_eq_true_iff.mp (Bool.and_eq_true_iff.mp (Bool.and_eq_true_iff.mp (Bool.and_eq_true_iff.mp (Bool.and_eq_true_iff.mp (Bool.and_eq_true_iff.mp (Bool.and_eq_true_iff.mp (Bool.and_eq_true_iff.mp (Bool.and_eq_true_iff.mp (Bool.and_eq_true_iff.mp (Bool.and_eq_true_iff.mp (Bool.and_eq_true_iff.mp (Bool.and_eq_true_iff.mp (Bool.and_eq_true_iff.mp (Bool.and_eq_true_iff.mp (Bool.and_eq_true_iff.mp (Bool.and_eq_true_iff.mp (Bool.and_eq_true_iff.mp (Bool.and_eq_true_iff.mp (Bool.and_eq_true_iff.mp (Bool.and_eq_true_iff.mp (Bool.and_eq_true_iff.mp (Bool.and_eq_true_iff.mp (Bool.and_eq_true_iff.mp (Bool.and_eq_true_iff.mp (Bool.and_eq_true_iff.mp (Bool.and_eq_true_iff.mp (Bool.and_eq_true_iff.mp (Bool.and_eq_true_iff.mp (Bool.and_eq_true_iff.mp (Bool.and_eq_true_iff.mp (Bool.and_eq_true_iff.mp (Bool.and_eq_true_iff.mp (Bool.and_eq_true_iff.mp (Bool.and_eq_true_iff.mp (Bool.and_eq_true_iff.mp (Bool.and_eq_true_iff.mp (Bool.and_eq_true_iff.mp (Bool.and_eq_true_iff.mp (Bool.and_eq_true_iff.mp (Bool.and_eq_true_iff.mp (Bool.and_eq_true_iff.mp (Bool.and_eq_true_iff.mp (Bool.and_eq_true_iff.mp (Bool.and_eq_true_iff.mp (Bool.and_eq_true_iff.mp (Bool.and_eq_true_iff.mp (Bool.and_eq_true_iff.mp (Bool.and_eq_true_iff.mp (Bool.and_eq_true_iff.mp (Bool.and_eq_true_iff.mp (Bool.and_eq_true_iff.mp (Bool.and_eq_true_iff.mp (Bool.and_eq_true_iff.mp (Bool.and_eq_true_iff.mp (Bool.and_eq_true_iff.mp (Bool.and_eq_true_iff.mp (Bool.and_eq_true_iff.mp (Bool.and_eq_true_iff.mp (Bool.and_eq_true_iff.mp (Bool.and_eq_true_iff.mp (Bool.and_eq_true_iff.mp (Bool.and_eq_true_iff.mp (Bool.and_eq_true_iff.mp c.more).2).2).2).2).2).2).2).2).2).2).2).2).2).2).2).2).2).2).2).2).2).2).2).2).2).2).2).2).2).2).2).2).2).2).2).2).2).2).2).2).2).2).2).2).2).2).2).2).2).2).2).2).2).2).2).2).2).2).2).2).2).2).2).2).2).2).2).2).2).2).2).2).2).2).2).1
  xf_old := (Bool.and_eq_true_iff.mp (Bool.and_eq_true_iff.mp (Bool.and_eq_true_iff.mp (Bool.and_eq_true_iff.mp (Bool.and_eq_true_iff.mp (Bool.and_eq_true_iff.mp (Bool.and_eq_true_iff.mp (Bool.and_eq_true_iff.mp (Bool.and_eq_true_iff.mp (Bool.and_eq_true_iff.mp (Bool.and_eq_true_iff.mp (Bool.and_eq_true_iff.mp (Bool.and_eq_true_iff.mp (Bool.and_eq_true_iff.mp (Bool.and_eq_true_iff.mp (Bool.and_eq_true_iff.mp (Bool.and_eq_true_iff.mp (Bool.and_eq_true_iff.mp (Bool.and_eq_true_iff.mp (Bool.and_eq_true_iff.mp (Bool.and_eq_true_iff.mp (Bool.and_eq_true_iff.mp (Bool.and_eq_true_iff.mp (Bool.and_eq_true_iff.mp (Bool.and_eq_true_iff.mp (Bool.and_eq_true_iff.mp (Bool.and_eq_true_iff.mp (Bool.and_eq_true_iff.mp (Bool.and_eq_true_iff.mp (Bool.and_eq_true_iff.mp (Bool.and_eq_true_iff.mp (Bool.and_eq_true_iff.mp (Bool.and_eq_true_iff.mp (Bool.and_eq_true_iff.mp (Bool.and_eq_true_iff.mp (Bool.and_eq_true_iff.mp (Bool.and_eq_true_iff.mp (Bool.and_eq_true_iff.mp (Bool.and_eq_true_iff.mp (Bool.and_eq_true_iff.mp (Bool.and_eq_true_iff.mp (Bool.and_eq_true_iff.mp (Bool.and_eq_true_iff.mp (Bool.and_eq_true_iff.mp (Bool.and_eq_true_iff.mp (Bool.and_eq_true_iff.mp (Bool.and_eq_true_iff.mp (Bool.and_eq_true_iff.mp (Bool.and_eq_true_iff.mp (Bool.and_eq_true_iff.mp (Bool.and_eq_true_iff.mp (Bool.and_eq_true_iff.mp (Bool.and_eq_true_iff.mp (Bool.and_eq_true_iff.mp (Bool.and_eq_true_iff.mp (Bool.and_eq_true_iff.mp (Bool.and_eq_true_iff.mp (Bool.and_eq_true_iff.mp (Bool.and_eq_true_iff.mp (Bool.and_eq_true_iff.mp (Bool.and_eq_true_iff.mp (Bool.and_eq_true_iff.mp (Bool.and_eq_true_iff.mp (Bool.and_eq_true_iff.mp (Bool.and_eq_true_iff.mp (Bool.and_eq_true_iff.mp (Bool.and_eq_true_iff.mp (Bool.and_eq_true_iff.mp (Bool.and_eq_true_iff.mp (Bool.and_eq_true_iff.mp (Bool.and_eq_true_iff.mp (Bool.and_eq_true_iff.mp (Bool.and_eq_true_iff.mp (Bool.and_eq_true_iff.mp (Bool.and_eq_true_iff.mp (Bool.and_eq_true_iff.mp (Bool.and_eq_true_iff.mp c.more).2).2).2).2).2).2).2).2).2).2).2).2).2).2).2).2).2).2).2).2).2).2).2).2).2).2).2).2).2).2).2).2).2).2).2).2).2).2).2).2).2).2).2).2).2).2).2).2).2).2).2).2).2).2).2).2).2).2).2).2).2).2).2).2).2).2).2).2).2).2).2).2).2).2).2).2).1
  xf_part := (Bool.and_eq_true_iff.mp (Bool.and_eq_true_iff.mp (Bool.and_eq_true_iff.mp (Bool.and_eq_true_iff.mp (Bool.and_eq_true_iff.mp (Bool.and_eq_true_iff.mp (Bool.and_eq_true_iff.mp (Bool.and_eq_true_iff.mp (Bool.and_eq_true_iff.mp (Bool.and_eq_true_iff.mp (Bool.and_eq_true_iff.mp (Bool.and_eq_true_iff.mp (Bool.and_eq_true_iff.mp (Bool.and_eq_true_iff.mp (Bool.and_eq_true_iff.mp (Bool.and_eq_true_iff.mp (Bool.and_eq_true_iff.mp (Bool.and_eq_true_iff.mp (Bool.and_eq_true_iff.mp (Bool.and_eq_true_iff.mp (Bool.and_eq_true_iff.mp (Bool.and_eq_true_iff.mp (Bool.and_eq_true_iff.mp (Bool.and_eq_true_iff.mp (Bool.and_eq_true_iff.mp (Bool.and_eq_true_iff.mp (Bool.and_eq_true_iff.mp (Bool.and_eq_true_iff.mp (Bool.and_eq_true_iff.mp (Bool.and_eq_true_iff.mp (Bool.and_eq_true_iff.mp (Bool.and_eq_true_iff.mp (Bool.and_eq_true_iff.mp (Bool.and_eq_true_iff.mp (Bool.and_eq_true_iff.mp (Bool.and_eq_true_iff.mp (Bool.and_eq_true_iff.mp (Bool.and_eq_true_iff.mp (Bool.and_eq_true_iff.mp (Bool.and_eq_true_iff.mp (Bool.and_eq_true_iff.mp (Bool.and_eq_true_iff.mp (Bool.and_eq_true_iff.mp (Bool.and_eq_true_iff.mp (Bool.and_eq_true_iff.mp (Bool.and_eq_true_iff.mp (Bool.and_eq_true_iff.mp (Bool.and_eq_true_iff.mp (Bool.and_eq_true_iff.mp (Bool.and_eq_true_iff.mp (Bool.and_eq_true_iff.mp (Bool.and_eq_true_iff.mp (Bool.and_eq_true_iff.mp (Bool.and_eq_true_iff.mp (Bool.and_eq_true_iff.mp (Bool.and_eq_true_iff.mp (Bool.and_eq_true_iff.mp (Bool.and_eq_true_iff.mp (Bool.and_eq_true_iff.mp (Bool.and_eq_true_iff.mp (Bool.and_eq_true_iff.mp (Bool.and_eq_true_iff.mp (Bool.and_eq_true_iff.mp (Bool.and_eq_true_iff.mp (Bool.and_eq_true_iff.mp (Bool.and_eq_true_iff.mp (Bool.and_eq_true_iff.mp (Bool.and_eq_true_iff.mp (Bool.and_eq_true_iff.mp (Bool.and_eq_true_iff.mp (Bool.and_eq_true_iff.mp (Bool.and_eq_true_iff.mp (Bool.and_eq_true_iff.mp (Bool.and_eq_true_iff.mp (Bool.and_eq_true_iff.mp (Bool.and_eq_true_iff.mp (Bool.and_eq_true_iff.mp (Bool.and_eq_true_iff.mp c.more).2).2).2).2).2).2).2).2).2).2).2).2).2).2).2).2).2).2).2).2).2).2).2).2).2).2).2).2).2).2).2).2).2).2).2).2).2).2).2).2).2).2).2).2).2).2).2).2).2).2).2).2).2).2).2).2).2).2).2).2).2).2).2).2).2).2).2).2).2).2).2).2).2).2).2).2).2).1
  xf_row := (Bool.and_eq_true_iff.mp (Bool.and_eq_true_iff.mp (Bool.and_eq_true_iff.mp (Bool.and_eq_true_iff.mp (Bool.and_eq_true_iff.mp (Bool.and_eq_true_iff.mp (Bool.and_eq_true_iff.mp (Bool.and_eq_true_iff.mp (Bool.and_eq_true_iff.mp (Bool.and_eq_true_iff.mp (Bool.and_eq_true_iff.mp (Bool.and_eq_true_iff.mp (Bool.and_eq_true_iff.mp (Bool.and_eq_true_iff.mp (Bool.and_eq_true_iff.mp (Bool.and_eq_true_iff.mp (Bool.and_eq_true_iff.mp (Bool.and_eq_true_iff.mp (Bool.and_eq_true_iff.mp (Bool.and_eq_true_iff.mp (Bool.and_eq_true_iff.mp (Bool.and_eq_true_iff.mp (Bool.and_eq_true_iff.mp (Bool.and_eq_true_iff.mp (Bool.and_eq_true_iff.mp (Bool.and_eq_true_iff.mp (Bool.and_eq_true_iff.mp (Bool.and_eq_true_iff.mp (Bool.and_eq_true_iff.mp (Bool.and_eq_true_iff.mp (Bool.and_eq_true_iff.mp (Bool.and_eq_true_iff.mp (Bool.and_eq_true_iff.mp (Bool.and_eq_true_iff.mp (Bool.and_eq_true_iff.mp (Bool.and_eq_true_iff.mp (Bool.and_eq_true_iff.mp (Bool.and_eq_true_iff.mp (Bool.and_eq_true_iff.mp (Bool.and_eq_true_iff.mp (Bool.and_eq_true_iff.mp (Bool.and_eq_true_iff.mp (Bool.and_eq_true_iff.mp (Bool.and_eq_true_iff.mp (Bool.and_eq_true_iff.mp (Bool.and_eq_true_iff.mp (Bool.and_eq_true_iff.mp (Bool.and_eq_true_iff.mp (Bool.and_eq_true_iff.mp (Bool.and_eq_true_iff.mp (Bool.and_eq_true_iff.mp (Bool.and_eq_true_iff.mp (Bool.and_eq_true_iff.mp (Bool.and_eq_true_iff.mp (Bool.and_eq_true_iff.mp (Bool.and_eq_true_iff.mp (Bool.and_eq_true_iff.mp (Bool.and_eq_true_iff.mp (Bool.and_eq_true_iff.mp (Bool.and_eq_true_iff.mp (Bool.and_eq_true_iff.mp (Bool.and_eq_true_iff.mp (Bool.and_eq_true_iff.mp (Bool.and_eq_true_iff.mp (Bool.and_eq_true_iff.mp (Bool.and_eq_true_iff.mp (Bool.and_eq_true_iff.mp (Bool.and_eq_true_iff.mp (Bool.and_eq_true_iff.mp (Bool.and_eq_true_iff.mp (Bool.and_eq_true_iff.mp (Bool.and_eq_true_iff.mp (Bool.and_eq_true_iff.mp (Bool.and_eq_true_iff.mp (Bool.and_eq_true_iff.mp (Bool.and_eq_true_iff.mp (Bool.and_eq_true_iff.mp (Bool.and_eq_true_iff.mp (Bool.and_eq_true_iff.mp c.more).2).2).2).2).2).2).2).2).2).2).2).2).2).2).2).2).2).2).2).2).2).2).2).2).2).2).2).2).2).2).2).2).2).2).2).2).2).2).2).2).2).2).2).2).2).2).2).2).2).2).2).2).2).2).2).2).2).2).2).2).2).2).2).2).2).2).2).2).2).2).2).2).2).2).2).2).2).2).1
  xf_seat := (Bool.and_eq_true_iff.mp (Bool.and_eq_true_iff.mp (Bool.and_eq_true_iff.mp (Bool.and_eq_true_iff.mp (Bool.and_eq_true_iff.mp (Bool.and_eq_true_iff.mp (Bool.and_eq_true_iff.mp (Bool.and_eq_true_iff.mp (Bool.and_eq_true_iff.mp (Bool.and_eq_true_iff.mp (Bool.and_eq_true_iff.mp (Bool.and_eq_true_iff.mp (Bool.and_eq_true_iff.mp (Bool.and_eq_true_iff.mp (Bool.and_eq_true_iff.mp (Bool.and_eq_true_iff.mp (Bool.and_eq_true_iff.mp (Bool.and_eq_true_iff.mp (Bool.and_eq_true_iff.mp (Bool.and_eq_true_iff.mp (Bool.and_eq_true_iff.mp (Bool.and_eq_true_iff.mp (Bool.and_eq_true_iff.mp (Bool.and_eq_true_iff.mp (Bool.and_eq_true_iff.mp (Bool.and_eq_true_iff.mp (Bool.and_eq_true_iff.mp (Bool.and_eq_true_iff.mp (Bool.and_eq_true_iff.mp (Bool.and_eq_true_iff.mp (Bool.and_eq_true_iff.mp (Bool.and_eq_true_iff.mp (Bool.and_eq_true_iff.mp (Bool.and_eq_true_iff.mp (Bool.and_eq_true_iff.mp (Bool.and_eq_true_iff.mp (Bool.and_eq_true_iff.mp (Bool.and_eq_true_iff.mp (Bool.and_eq_true_iff.mp (Bool.and_eq_true_iff.mp (Bool.and_eq_true_iff.mp (Bool.and_eq_true_iff.mp (Bool.and_eq_true_iff.mp (Bool.and_eq_true_iff.mp (Bool.and_eq_true_iff.mp (Bool.and_eq_true_iff.mp (Bool.and_eq_true_iff.mp (Bool.and_eq_true_iff.mp (Bool.and_eq_true_iff.mp (Bool.and_eq_true_iff.mp (Bool.and_eq_true_iff.mp (Bool.and_eq_true_iff.mp (Bool.and_eq_true_iff.mp (Bool.and_eq_true_iff.mp (Bool.and_eq_true_iff.mp (Bool.and_eq_true_iff.mp (Bool.and_eq_true_iff.mp (Bool.and_eq_true_iff.mp (Bool.and_eq_true_iff.mp (Bool.and_eq_true_iff.mp (Bool.and_eq_true_iff.mp (Bool.and_eq_true_iff.mp (Bool.and_eq_true_iff.mp (Bool.and_eq_true_iff.mp (Bool.and_eq_true_iff.mp (Bool.and_eq_true_iff.mp (Bool.and_eq_true_iff.mp (Bool.and_eq_true_iff.mp (Bool.and_eq_true_iff.mp (Bool.and_eq_true_iff.mp (Bool.and_eq_true_iff.mp (Bool.and_eq_true_iff.mp (Bool.and_eq_true_iff.mp (Bool.and_eq_true_iff.mp (Bool.and_eq_true_iff.mp (Bool.and_eq_true_iff.mp (Bool.and_eq_true_iff.mp (Bool.and_eq_true_iff.mp (Bool.and_eq_true_iff.mp (Bool.and_eq_true_iff.mp c.more).2).2).2).2).2).2).2).2).2).2).2).2).2).2).2).2).2).2).2).2).2).2).2).2).2).2).2).2).2).2).2).2).2).2).2).2).2).2).2).2).2).2).2).2).2).2).2).2).2).2).2).2).2).2).2).2).2).2).2).2).2).2).2).2).2).2).2).2).2).2).2).2).2).2).2).2).2).2).2).1
  xf_what := (Bool.and_eq_true_iff.mp (Bool.and_eq_true_iff.mp (Bool.and_eq_true_iff.mp (Bool.and_eq_true_iff.mp (Bool.and_eq_true_iff.mp (Bool.and_eq_true_iff.mp (Bool.and_eq_true_iff.mp (Bool.and_eq_true_iff.mp (Bool.and_eq_true_iff.mp (Bool.and_eq_true_iff.mp (Bool.and_eq_true_iff.mp (Bool.and_eq_true_iff.mp (Bool.and_eq_true_iff.mp (Bool.and_eq_true_iff.mp (Bool.and_eq_true_iff.mp (Bool.and_eq_true_iff.mp (Bool.and_eq_true_iff.mp (Bool.and_eq_true_iff.mp (Bool.and_eq_true_iff.mp (Bool.and_eq_true_iff.mp (Bool.and_eq_true_iff.mp (Bool.and_eq_true_iff.mp (Bool.and_eq_true_iff.mp (Bool.and_eq_true_iff.mp (Bool.and_eq_true_iff.mp (Bool.and_eq_true_iff.mp (Bool.and_eq_true_iff.mp (Bool.and_eq_true_iff.mp (Bool.and_eq_true_iff.mp (Bool.and_eq_true_iff.mp (Bool.and_eq_true_iff.mp (Bool.and_eq_true_iff.mp (Bool.and_eq_true_iff.mp (Bool.and_eq_true_iff.mp (Bool.and_eq_true_iff.mp (Bool.and_eq_true_iff.mp (Bool.and_eq_true_iff.mp (Bool.and_eq_true_iff.mp (Bool.and_eq_true_iff.mp (Bool.and_eq_true_iff.mp (Bool.and_eq_true_iff.mp (Bool.and_eq_true_iff.mp (Bool.and_eq_true_iff.mp (Bool.and_eq_true_iff.mp (Bool.and_eq_true_iff.mp (Bool.and_eq_true_iff.mp (Bool.and_eq_true_iff.mp (Bool.and_eq_true_iff.mp (Bool.and_eq_true_iff.mp (Bool.and_eq_true_iff.mp (Bool.and_eq_true_iff.mp (Bool.and_eq_true_iff.mp (Bool.and_eq_true_iff.mp (Bool.and_eq_true_iff.mp (Bool.and_eq_true_iff.mp (Bool.and_eq_true_iff.mp (Bool.and_eq_true_iff.mp (Bool.and_eq_true_iff.mp (Bool.and_eq_true_iff.mp (Bool.and_eq_true_iff.mp (Bool.and_eq_true_iff.mp (Bool.and_eq_true_iff.mp (Bool.and_eq_true_iff.mp (Bool.and_eq_true_iff.mp (Bool.and_eq_true_iff.mp (Bool.and_eq_true_iff.mp (Bool.and_eq_true_iff.mp (Bool.and_eq_true_iff.mp (Bool.and_eq_true_iff.mp (Bool.and_eq_true_iff.mp (Bool.and_eq_true_iff.mp (Bool.and_eq_true_iff.mp (Bool.and_eq_true_iff.mp (Bool.and_eq_true_iff.mp (Bool.and_eq_true_iff.mp (Bool.and_eq_true_iff.mp (Bool.and_eq_true_iff.mp (Bool.and_eq_true_iff.mp (Bool.and_eq_true_iff.mp (Bool.and_eq_true_iff.mp (Bool.and_eq_true_iff.mp c.more).2).2).2).2).2).2).2).2).2).2).2).2).2).2).2).2).2).2).2).2).2).2).2).2).2).2).2).2).2).2).2).2).2).2).2).2).2).2).2).2).2).2).2).2).2).2).2).2).2).2).2).2).2).2).2).2).2).2).2).2).2).2).2).2).2).2).2).2).2).2).2).2).2).2).2).2).2).2).2).2).1
  xf_word := (Bool.and_eq_true_iff.mp (Bool.and_eq_true_iff.mp (Bool.and_eq_true_iff.mp (Bool.and_eq_true_iff.mp (Bool.and_eq_true_iff.mp (Bool.and_eq_true_iff.mp (Bool.and_eq_true_iff.mp (Bool.and_eq_true_iff.mp (Bool.and_eq_true_iff.mp (Bool.and_eq_true_iff.mp (Bool.and_eq_true_iff.mp (Bool.and_eq_true_iff.mp (Bool.and_eq_true_iff.mp (Bool.and_eq_true_iff.mp (Bool.and_eq_true_iff.mp (Bool.and_eq_true_iff.mp (Bool.and_eq_true_iff.mp (Bool.and_eq_true_iff.mp (Bool.and_eq_true_iff.mp (Bool.and_eq_true_iff.mp (Bool.and_eq_true_iff.mp (Bool.and_eq_true_iff.mp (Bool.and_eq_true_iff.mp (Bool.and_eq_true_iff.mp (Bool.and_eq_true_iff.mp (Bool.and_eq_true_iff.mp (Bool.and_eq_true_iff.mp (Bool.and_eq_true_iff.mp (Bool.and_eq_true_iff.mp (Bool.and_eq_true_iff.mp (Bool.and_eq_true_iff.mp (Bool.and_eq_true_iff.mp (Bool.and_eq_true_iff.mp (Bool.and_eq_true_iff.mp (Bool.and_eq_true_iff.mp (Bool.and_eq_true_iff.mp (Bool.and_eq_true_iff.mp (Bool.and_eq_true_iff.mp (Bool.and_eq_true_iff.mp (Bool.and_eq_true_iff.mp (Bool.and_eq_true_iff.mp (Bool.and_eq_true_iff.mp (Bool.and_eq_true_iff.mp (Bool.and_eq_true_iff.mp (Bool.and_eq_true_iff.mp (Bool.and_eq_true_iff.mp (Bool.and_eq_true_iff.mp (Bool.and_eq_true_iff.mp (Bool.and_eq_true_iff.mp (Bool.and_eq_true_iff.mp (Bool.and_eq_true_iff.mp (Bool.and_eq_true_iff.mp (Bool.and_eq_true_iff.mp (Bool.and_eq_true_iff.mp (Bool.and_eq_true_iff.mp (Bool.and_eq_true_iff.mp (Bool.and_eq_true_iff.mp (Bool.and_eq_true_iff.mp (Bool.and_eq_true_iff.mp (Bool.and_eq_true_iff.mp (Bool.and_eq_true_iff.mp (Bool.and_eq_true_iff.mp (Bool.and_eq_true_iff.mp (Bool.and_eq_true_iff.mp (Bool.and_eq_true_iff.mp (Bool.and_eq_true_iff.mp (Bool.and_eq_true_iff.mp (Bool.and_eq_true_iff.mp (Bool.and_eq_true_iff.mp (Bool.and_eq_true_iff.mp (Bool.and_eq_true_iff.mp (Bool.and_eq_true_iff.mp (Bool.and_eq_true_iff.mp (Bool.and_eq_true_iff.mp (Bool.and_eq_true_iff.mp (Bool.and_eq_true_iff.mp (Bool.and_eq_true_iff.mp (Bool.and_eq_true_iff.mp (Bool.and_eq_true_iff.mp (Bool.and_eq_true_iff.mp (Bool.and_eq_true_iff.mp (Bool.and_eq_true_iff.mp c.more).2).2).2).2).2).2).2).2).2).2).2).2).2).2).2).2).2).2).2).2).2).2).2).2).2).2).2).2).2).2).2).2).2).2).2).2).2).2).2).2).2).2).2).2).2).2).2).2).2).2).2).2).2).2).2).2).2).2).2).2).2).2).2).2).2).2).2).2).2).2).2).2).2).2).2).2).2).2).2).2).2).1
end Rg
open PySem PySem.W PySem.Calls PyProof.Rows
set_option maxHeartbeats 0 in
theorem PySem.Challenge.cw_rowgames_k01_errors_holds : PySem.Challenge.rw_rowgames_k01_errors.Holds := by
  w_on; o_law
  refine HandSHeadRun.head_any (r := Rg.hrow) (q := view Rg.hrow.prog [58]) (H := Rg.hhook) (ob := Rg.hobs) (M := 20000) (loose := Rg.hnames) (d := HandSHeadRun.topDef Rg.hrow.prog 58) (kwd := []) Rg.hobs_eq
    (by kernel_rfl) (fun s => by kernel_rfl) Rg.hrun (by kernel_rfl) (by kernel_rfl) (by kernel_rfl) (by rfl) (by first | assumption | decide +kernel) (by decide +kernel) ⟨rfl, rfl, rfl, rfl, rfl, by decide +kernel⟩ ?wit ?walk
  case wit => w_witness2
  case walk =>
    refine Rg.walk_ofG (l := PySem.Challenge.rw_rowgames_k01_errors) (n := 63) (k := 15) (x := "_law_script") rfl (by decide) (by kernel_rfl) ⟨rfl, by decide, by decide⟩ ?_
    intro w mg fa h Y G g0
    obtain ⟨K, KX, c, cc⟩ := Y
    have T := Rg.hsays KX G c cc
    have g1 : mg ("law" : PySem.Str) = some (.ref fa) := by
      have e : (HandSHeadRun.topDef Rg.hrow.prog 58).name = ("law" : PySem.Str) := by kernel_rfl
      rw [e] at g0
      exact g0
    have e := g1.symm.trans T.g_law
    cases e
    obtain ⟨fd, F⟩ := T.d_law
    have b := L2.FunD.bindsA (ps := ["_law_script"]) F fun _ _ _ _ _ _ us hl => match us, hl with | [_], _ => rfl
    exact ⟨K, fd, Rg.spLaw K, KX, fun s v => b s [v] rfl, fun H a ns hl _ hS => ⟨a, ns, rfl, hS, fun _ => rfl⟩, fun base _ _ => Rg.ok_law F T⟩
